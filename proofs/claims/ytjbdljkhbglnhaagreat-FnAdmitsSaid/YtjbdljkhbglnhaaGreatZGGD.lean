/- -/
import Derived.Test.YtjbdljkhbglnhaaGreatZGGB
import Derived.Test.YtjbdljkhbglnhaaGreatZGGC
set_option linter.all false
namespace Go.Proofs.YtjbdljkhbglnhaaGreat.Am
open Go Sz
def QmG (ops:Q3) (plan:List TIns) (_ _:Bool):Prop:=sz ops≤2147483648∧plan.length≤2147483648
def Qh7 (s:Qc) (_:Int) (_ _:List Int):Prop:=sz s≤2147483648
def Qgq (s:Qc) (_:Int):Prop:=sz s≤2147483648
def Qf9 (s:Qc) (_:Int) (_:List Int):Prop:=sz s≤2147483648
def Qj0 (p:Qo) (_:Int):Prop:=sz p≤1073741824
def Qjh (p:Qo):Prop:=sz p≤2147483648∧QjP p
def J2 (c:Qh) (b:List Qd):Za × Int:=(if Q7 c b=0 then QdA (QY c) b else QeV,Q7 c b)
theorem Yi (s:Qc):sz s=sz (QH s)+sz (sOps s)+sz (Qg s)+sz (QK s)+sz (sX s)+sz (sY s)+sz (sG s)+sz (sD s)+sz (QD s):=by
 simp only [YA,Yd,Qbi];((try simp only [sPc,QH,sOps,Qv,QF,Qg,QK,sX,sY,sG,sD,QD,QC,sSat,QQ,QG,Qy,QA] at *);omega)
theorem QdH (p:Qo):sz p=sz (QQ p)+sz (QG p)+sz (Qy p)+sz (QA p):=by
 simp only [YA];((try simp only [sPc,QH,sOps,Qv,QF,Qg,QK,sX,sY,sG,sD,QD,QC,sSat,QQ,QG,Qy,QA] at *);omega)
theorem QG4 (m:Q3):(ZU m).2=(0,false):=by unfold ZU;split <;> rfl
theorem Qdu {α:Type} [Sz α] (d:α) (v:α):∀ (l:List α) (i:Nat),sz (l.set i v)+sz (gtd d l i)≤sz l+sz v+sz d
 | [],i=>by simp [gtd]
 | x::l,0=>by simp only [List.set_cons_zero,Jm,QbR];omega
 | x::l,i+1=>by
  have:=Qdu d v l i
  simp only [List.set_cons_succ,Jm,QFx];omega
theorem QeI {α:Type} [Sz α] (d:α) (l:List α) (i:Nat):sz (gtd d l i)≤sz l+sz d:=by
 by_cases h:i<l.length
 ·have:=QmC (Jt h d);omega
 ·have:gtd d l i=d:=by simp [gtd,List.getD_eq_getElem?_getD,List.getElem?_eq_none (Nat.le_of_not_lt h)]
  rw [this];omega
theorem vec6 {v:List Int} (h:QW v=true):v.length≤6:=by
 simp only [QW,Bool.and_eq_true,QL] at h;omega
theorem Qbd {v:List Int} {n:Int} (h:Qq v n=true):v.length≤6:=by
 simp only [Qq,Bool.and_eq_true] at h;exact vec6 h.1
theorem QkN (f:Int→Int→Int × Bool):∀ (a b:List Int),(vz f a b).1.length≤a.length
 | [],b=>by simp [vz]
 | a::aa,[]=>by simp [vz]
 | a::aa,b::bb=>by simp only [vz,List.length_cons];have:=QkN f aa bb;omega
theorem QvW (f:Int→Int × Bool):∀ (a:List Int),(v1 f a).1.length≤a.length
 | []=>by simp [v1]
 | a::aa=>by simp only [v1,List.length_cons];have:=QvW f aa;omega
theorem Qrt {a b:List Int} (h:Yb a b=true):a.length≤6:=by
 simp only [Yb,Bool.and_eq_true] at h;exact vec6 h.1
theorem Qls (a b:List Int):(ZW a b).1.length≤6:=by
 unfold ZW
 split
 ·rename_i h;have:=QkN Zn a b;have:=Qrt h;omega
 ·simp
theorem Qu8 (c:Int) (a:List Int):(Yx c a).1.length≤6:=by
 unfold Yx
 split
 ·rename_i h
  simp only [Bool.and_eq_true] at h
  have:=QvW (Z0 c) a;have:=vec6 h.2;omega
 ·simp
theorem QIv (a:List Int):(Jo a).length≤6:=by
 unfold Jo
 split
 ·rename_i h;simp;exact vec6 h
 ·simp
theorem QLI (x d:List Int):(Jl x d).length≤6:=by
 unfold Jl
 split
 ·rename_i h;have:=Qrt h;simp;omega
 ·simp
theorem QCN (m:TMat) (x:List Int):(ZK m x).1.length≤6:=by
 unfold ZK
 split
 ·rename_i h
  simp only [Bool.and_eq_true,ZN,QL] at h
  simp;omega
 ·simp
theorem QDS (m:TMat) (x:List Int):(Z6 m x).1.length≤6:=by
 unfold Z6
 split
 ·rename_i h
  simp only [Bool.and_eq_true,ZN,QL] at h
  simp;omega
 ·simp
theorem fwd6 (o:TOp') (x:List Int):(Y3 o x).1.length≤6:=by
 unfold Y3
 split
 ·split
  ·exact QCN _ _
  ·split
   ·exact Qls _ _
   ·split
    ·exact Qu8 _ _
    ·split
     ·exact Qls _ _
     ·exact QIv _
 ·simp
theorem bwd6 (o:TOp') (x d:List Int):(YV o x d).1.length≤6:=by
 unfold YV
 split
 ·rename_i h
  simp only [Bool.and_eq_true] at h
  split
  ·exact QDS _ _
  ·split
   ·exact Qbd h.2
   ·split
    ·exact Qu8 _ _
    ·split
     ·exact Qls _ _
     ·exact QLI _ _
 ·simp
theorem QPU:∀ (ops:List TOp') (rows:List (List Int)) (d:List Int),(QN ops rows d).2.1.length≤6+d.length
 | [],rows,d=>by simp [QN]
 | o::os,[],d=>by simp [QN]
 | o::os,r::rs,d=>by simp only [QN];have:=bwd6 o r (QN os rs d).2.1;omega
theorem Qia:∀ (ops:List TOp') (x:List Int),sz (Qw ops x).1≤1+x.length+7*ops.length
 | [],x=>by simp only [Qw,Jm,Jc,List.length_nil];have:sz ([]:List (List Int))=0:=rfl;omega
 | o::r,x=>by
  have h1:=Qia r (Y3 o x).1
  have h2:=fwd6 o x
  simp only [Qw,Jm,Jc,List.length_cons];omega
theorem QqG:∀ (a b:List (List Int)),sz (Zk a b).1≤sz a
 | [],b=>by simp [Zk]
 | a::aa,[]=>by simp only [Zk];exact Nat.zero_le _
 | a::aa,b::bb=>by
  have h1:=QqG aa bb
  have h2:=QkN Zn a b
  simp only [Zk,Jm,Jc];omega
theorem Qc0 {s:Qc} (h:QS s=true):QE (sOps s)=true:=by
 simp only [QS,Bool.and_eq_true] at h;exact h.1.1.1.1
theorem QyD {s:Qc} (h:QS s=true):(sOps s).length≤8:=(YM (Qc0 h)).2
theorem QyG {s:Qc} (h:QS s=true):0≤sPc s∧sPc s≤(QH s).length:=by
 simp only [QS,Bool.and_eq_true,QL] at h;exact h.1.1.1.2
theorem QvM {s:Qc} (h:QS s=true):∀ x,x∈Qg s→YC s x=true:=by
 simp only [QS,Bool.and_eq_true,List.all_eq_true] at h;exact h.1.2
theorem QHH {s:Qc} (h:QS s=true):(QD s).length=(sOps s).length∧ZQ (sOps s) (QD s)=true:=by
 simp only [QS,Bool.and_eq_true,Y6,beq_iff_eq] at h;exact h.1.1.2
theorem Qxj {s:Qc} {x:Yj} (h:QS s=true) (hx:YC s x=true):1≤x.2.length∧(x.2.length:Int)=ZX s∧Qq (gtd [] x.2 0) (QX (sOps s))=true:=by
 simp only [YC,Bool.and_eq_true,beq_iff_eq] at hx
 obtain ⟨h1,h2⟩:=hx
 have h3:1≤x.2.length:=by unfold ZX at h1;split at h1 <;> omega
 refine ⟨h3,h1,?_⟩
 unfold YG at h2
 rw [← h1,Int.toNat_natCast,List.take_length] at h2
 cases hr:x.2 with
 | nil=>rw [hr] at h3;simp at h3
 | cons r rs =>
  rw [hr] at h2
  simp only [YB,Bool.and_eq_true] at h2
  have hm:=Qc0 h
  have hl:=YM hm
  have:Jd (sOps s) 0=QX (sOps s):=by
   unfold Jd QX
   rw [if_pos (by omega),if_pos hm]
  rw [QbR,← this]
  exact h2.1
theorem Qsu:∀ (l:List Yj) (m k:Int),0≤k→JP l m k<k+l.length∧-1≤JP l m k
 | [],m,k,hk=>by simp only [JP,List.length_nil];omega
 | x::r,m,k,hk=>by
  have:=Qsu r m (k+1) (by omega)
  simp only [JP,List.length_cons]
  split <;> omega
theorem Qnj (l:List Yj) (m:Int):QT l m<l.length∧-1≤QT l m:=by
 have:=Qsu l m 0 (Int.le_refl _)
 unfold QT;omega
theorem QIC (s:Qc) (m:Int) (x t:List Int):sz (YU s m x t)≤sz s+100:=by
 unfold YU
 split
 ·rename_i h
  simp only [QaL,Bool.and_eq_true] at h
  have h1:=QyD h.1.1.1
  have h2:=Qbd h.1.1.2
  have h3:=Qia (sOps s) x
  have h4:=QeI [] (Qw (sOps s) x).1 (sOps s).length
  have h5:sz (if QF s=true then List.take 1 (Qw (sOps s) x).1 else (Qw (sOps s) x).1)≤sz (Qw (sOps s) x).1:=by
   split
   ·exact QnN _ _
   ·exact Nat.le_refl _
  have h6:sz (if Qv s=true then sY s else gtd [] (Qw (sOps s) x).1 (sOps s).length)≤sz (sY s)+sz (gtd [] (Qw (sOps s) x).1 (sOps s).length):=by
   split <;> ((try simp only [sPc,QH,sOps,Qv,QF,Qg,QK,sX,sY,sG,sD,QD,QC,sSat,QQ,QG,Qy,QA] at *);omega)
  have h7:(gtd [] (Qw (sOps s) x).1 (sOps s).length).length≤6:=by
   have:gtd [] (Qw (sOps s) x).1 (sOps s).length=ZO (sOps s) x:=rfl
   rw [this]
   have hv:∀ (ops:List TOp') (x:List Int),x.length≤6→(ZO ops x).length≤6:=by
    intro ops
    induction ops with
    | nil=>intro x hx;rw [QfS];exact hx
    | cons o r ih=>intro x hx;rw [Qfg];exact ih _ (fwd6 o x)
   exact hv _ _ h2
  have h8:=Jc (gtd [] (Qw (sOps s) x).1 (sOps s).length)
  have e:sz ([]:List Int)=0:=rfl
  rw [Yi,Yi s]
  have e3:sz ([]:List Yj)=0:=rfl
  simp only [Qg,sX,QeW,Jm,QcO,Yd,e,e3]
  have e2:sz ([]:List Yj)=0:=rfl
  ((try simp only [sPc,QH,sOps,Qv,QF,Qg,QK,sX,sY,sG,sD,QD,QC,sSat,QQ,QG,Qy,QA] at *);omega)
 ·((try simp only [sPc,QH,sOps,Qv,QF,Qg,QK,sX,sY,sG,sD,QD,QC,sSat,QQ,QG,Qy,QA] at *);omega)
theorem QAl (s:Qc) (m:Int):sz (Jh s m)≤sz s+100:=by
 unfold Jh
 simp only
 split
 ·rename_i h
  simp only [Bool.and_eq_true,decide_eq_true_eq] at h
  have h1:=QyD h.1
  have hf:=Qnj (Qg s) m
  have hk:(QT (Qg s) m).toNat<(Qg s).length:=by ((try simp only [sPc,QH,sOps,Qv,QF,Qg,QK,sX,sY,sG,sD,QD,QC,sSat,QQ,QG,Qy,QA] at *);omega)
  have h2:=Qbd (Qxj h.1 (QvM h.1 _ (Jt hk ZR))).2.2
  have h3:=Qia (sOps s) (gtd [] (gtd ZR (Qg s) (QT (Qg s) m).toNat).2 0)
  rw [Yi,Yi s]
  ((try simp only [sPc,QH,sOps,Qv,QF,Qg,QK,sX,sY,sG,sD,QD,QC,sSat,QQ,QG,Qy,QA] at *);omega)
 ·((try simp only [sPc,QH,sOps,Qv,QF,Qg,QK,sX,sY,sG,sD,QD,QC,sSat,QQ,QG,Qy,QA] at *);omega)
theorem QM9 (s:Qc) (m:Int) (t:List Int):sz (Z4 s m t)≤sz s+100:=by
 unfold Z4
 simp only
 split
 ·rename_i h
  simp only [QaP,Bool.and_eq_true] at h
  have h1:=Qbd h.2
  have h2:=QPU (sOps s) (YK s (QT (Qg s) m)) (bwdD s (QT (Qg s) m) t).1
  have h3:=QqG (sSum s).1 (QN (sOps s) (YK s (QT (Qg s) m)) (bwdD s (QT (Qg s) m) t).1).1
  have h4:=QjQ (Qg s) (QT (Qg s) m).toNat
  have h5:sz (List.drop ((QT (Qg s) m).toNat+1) (Qg s))≤sz (List.drop (QT (Qg s) m).toNat (Qg s)):=by
   rw [← List.drop_drop];exact Qtn _ _
  have h6:=Jc (QN (sOps s) (YK s (QT (Qg s) m)) (bwdD s (QT (Qg s) m) t).1).2.1
  have e:sz ([]:List Int)=0:=rfl
  have e2:sz ([]:List (List Int))=0:=rfl
  rw [Yi,Yi s]
  simp only [Qg,QK,sG,QD,QeW,e,e2,Yy]
  ((try simp only [sPc,QH,sOps,Qv,QF,Qg,QK,sX,sY,sG,sD,QD,QC,sSat,QQ,QG,Qy,QA] at *);omega)
 ·((try simp only [sPc,QH,sOps,Qv,QF,Qg,QK,sX,sY,sG,sD,QD,QC,sSat,QQ,QG,Qy,QA] at *);omega)
theorem QrW (q:Qm):sz (ZH q).1+sz (ZH q).2.1.2≤sz q:=by
 unfold ZH
 split
 ·rename_i h
  simp only [Bool.and_eq_true,decide_eq_true_eq] at h
  obtain ⟨c,l⟩:=q
  cases l with
  | nil=>simp at h
  | cons x l=>simp only [List.tail_cons,QbR,QcO,Yd,Jm];rw [YA x,Yd];((try simp only [sPc,QH,sOps,Qv,QF,Qg,QK,sX,sY,sG,sD,QD,QC,sSat,QQ,QG,Qy,QA] at *);omega)
 ·have:sz ([]:List Int)=0:=rfl
  simp only;((try simp only [sPc,QH,sOps,Qv,QF,Qg,QK,sX,sY,sG,sD,QD,QC,sSat,QQ,QG,Qy,QA] at *);omega)
theorem QrP (q:Qm) (x:Z1):sz (Y2 q x).1≤sz q+1+sz x.2:=by
 unfold Y2
 split
 ·have:sz ([]:List Z1)=0:=rfl
  simp only [QcO,QeW,Jm,Yd]
  rw [YA q,Yd,YA x,Yd];((try simp only [sPc,QH,sOps,Qv,QF,Qg,QK,sX,sY,sG,sD,QD,QC,sSat,QQ,QG,Qy,QA] at *);omega)
 ·simp only;((try simp only [sPc,QH,sOps,Qv,QF,Qg,QK,sX,sY,sG,sD,QD,QC,sSat,QQ,QG,Qy,QA] at *);omega)
theorem QHf (p:Qo) (k:Nat) (x:Qc) (i:TIns):sz (Yc p k x i).1+sz (Yc p k x i).2.1+sz (Yc p k x i).2.2≤sz x+sz (Qy p)+sz (QA p)+100:=by
 have e:sz ([]:List Int)=0:=rfl
 have ed:sz QP=0:=rfl
 unfold Yc
 simp only
 split
 ·have h1:=QrW (gtd QP (Qy p) (k-1))
  have h2:=Qdu QP (ZH (gtd QP (Qy p) (k-1))).1 (Qy p) (k-1)
  have h3:sz (setX x (ZH (gtd QP (Qy p) (k-1))).2.1.2)≤sz x+sz (ZH (gtd QP (Qy p) (k-1))).2.1.2:=by
   rw [Yi,Yi x];simp only [setX];((try simp only [sPc,QH,sOps,Qv,QF,Qg,QK,sX,sY,sG,sD,QD,QC,sSat,QQ,QG,Qy,QA] at *);omega)
  simp only;((try simp only [sPc,QH,sOps,Qv,QF,Qg,QK,sX,sY,sG,sD,QD,QC,sSat,QQ,QG,Qy,QA] at *);omega)
 split
 ·have h:=QIC x i.2 (if k=0 then (gtd Zj (QQ p) i.2.toNat).1 else sX x) (gtd Zj (QQ p) i.2.toNat).2
  simp only;((try simp only [sPc,QH,sOps,Qv,QF,Qg,QK,sX,sY,sG,sD,QD,QC,sSat,QQ,QG,Qy,QA] at *);omega)
 split
 ·have h1:=QrP (gtd QP (Qy p) k) (i.2,sY x)
  have h2:=Qdu QP (Y2 (gtd QP (Qy p) k) (i.2,sY x)).1 (Qy p) k
  have h3:sz (setY x [])+sz (sY x)=sz x:=by rw [Yi,Yi x];simp only [setY,e];((try simp only [sPc,QH,sOps,Qv,QF,Qg,QK,sX,sY,sG,sD,QD,QC,sSat,QQ,QG,Qy,QA] at *);omega)
  simp only at h1 ⊢;((try simp only [sPc,QH,sOps,Qv,QF,Qg,QK,sX,sY,sG,sD,QD,QC,sSat,QQ,QG,Qy,QA] at *);omega)
 split
 ·have h1:=QrW (gtd QP (QA p) k)
  have h2:=Qdu QP (ZH (gtd QP (QA p) k)).1 (QA p) k
  have h3:sz (setG x (ZH (gtd QP (QA p) k)).2.1.2)≤sz x+sz (ZH (gtd QP (QA p) k)).2.1.2:=by
   rw [Yi,Yi x];simp only [setG];((try simp only [sPc,QH,sOps,Qv,QF,Qg,QK,sX,sY,sG,sD,QD,QC,sSat,QQ,QG,Qy,QA] at *);omega)
  simp only;((try simp only [sPc,QH,sOps,Qv,QF,Qg,QK,sX,sY,sG,sD,QD,QC,sSat,QQ,QG,Qy,QA] at *);omega)
 split
 ·have h:=QAl x i.2
  simp only;((try simp only [sPc,QH,sOps,Qv,QF,Qg,QK,sX,sY,sG,sD,QD,QC,sSat,QQ,QG,Qy,QA] at *);omega)
 split
 ·have h:=QM9 x i.2 (gtd Zj (QQ p) i.2.toNat).2
  have h3:∀ y:Qc,sz (setD y [])≤sz y:=by intro y;rw [Yi,Yi y];simp only [setD,e];((try simp only [sPc,QH,sOps,Qv,QF,Qg,QK,sX,sY,sG,sD,QD,QC,sSat,QQ,QG,Qy,QA] at *);omega)
  have h4:=h3 (Z4 x i.2 (gtd Zj (QQ p) i.2.toNat).2)
  simp only
  split <;> ((try simp only [sPc,QH,sOps,Qv,QF,Qg,QK,sX,sY,sG,sD,QD,QC,sSat,QQ,QG,Qy,QA] at *);omega)
 split
 ·have h1:=QrP (gtd QP (QA p) (k-1)) (i.2,sD x)
  have h2:=Qdu QP (Y2 (gtd QP (QA p) (k-1)) (i.2,sD x)).1 (QA p) (k-1)
  have h3:sz (setD x [])+sz (sD x)=sz x:=by rw [Yi,Yi x];simp only [setD,e];((try simp only [sPc,QH,sOps,Qv,QF,Qg,QK,sX,sY,sG,sD,QD,QC,sSat,QQ,QG,Qy,QA] at *);omega)
  simp only at h1 ⊢;((try simp only [sPc,QH,sOps,Qv,QF,Qg,QK,sX,sY,sG,sD,QD,QC,sSat,QQ,QG,Qy,QA] at *);omega)
 ·simp only;((try simp only [sPc,QH,sOps,Qv,QF,Qg,QK,sX,sY,sG,sD,QD,QC,sSat,QQ,QG,Qy,QA] at *);omega)
theorem QJy (p:Qo) (s:Int):sz (Yk p s)≤sz p+100:=by
 unfold Yk
 split
 ·have h1:=QHf p s.toNat (gtd QM (QG p) s.toNat) (Qt p s)
  have h2:=Qdu QM (Yt (Yc p s.toNat (gtd QM (QG p) s.toNat) (Qt p s)).1 (sPc (gtd QM (QG p) s.toNat)+1)) (QG p) s.toNat
  have h3:∀ (y:Qc) (v:Int),sz (Yt y v)=sz y:=by intro y v;rw [Yi,Yi y];rfl
  rw [h3] at h2
  have ed:sz QM=0:=rfl
  rw [QdH,QdH p]
  simp only
  ((try simp only [sPc,QH,sOps,Qv,QF,Qg,QK,sX,sY,sG,sD,QD,QC,sSat,QQ,QG,Qy,QA] at *);omega)
 ·((try simp only [sPc,QH,sOps,Qv,QF,Qg,QK,sX,sY,sG,sD,QD,QC,sSat,QQ,QG,Qy,QA] at *);omega)
theorem QwZ:∀ (n k:Nat) (p:Qo),sz (ZE k n p)≤sz p+100*n
 | 0,k,p=>by simp [ZE]
 | n+1,k,p=>by
  have h1:=QwZ n (k+1) (Yk p (Int.tmod (k:Int) (QG p).length))
  have h2:=QJy p (Int.tmod (k:Int) (QG p).length)
  simp only [ZE];((try simp only [sPc,QH,sOps,Qv,QF,Qg,QK,sX,sY,sG,sD,QD,QC,sSat,QQ,QG,Qy,QA] at *);omega)
end Go.Proofs.YtjbdljkhbglnhaaGreat.Am
namespace Go.Proofs.YtjbdljkhbglnhaaGreat.Am
open Go Sz
theorem Qwn (a b:Int):decide (a≥b) = !decide (a<b):=by
 rw [Bool.eq_iff_iff];simp
theorem Qtf {s:Qc} {m:Int} {x t:List Int} (h:¬ QaL s m x t=true):YU s m x t=s:=by unfold YU;rw [if_neg h]
theorem QK6 {s:Qc} {m:Int} (h:¬ (QS s&&decide (0≤QT (Qg s) m))=true):Jh s m=s:=by unfold Jh;simp only;rw [if_neg h]
theorem QMP {s:Qc} {m:Int} {t:List Int} (h:¬ QaP s (QT (Qg s) m) t=true):Z4 s m t=s:=by unfold Z4;simp only;rw [if_neg h]
theorem QJs (s:Qc) (m:Int) (x t:List Int):QaL s m x t=(!(((!(QS s))||(!(Qq x (QX (ZZ s)))))||decide (QT s.2.2.2.2.2.1 m≥0))&&!(s.2.2.2.1&&(!(Qq t (Q1 (ZZ s)))))):=by
 unfold QaL
 rw [Qwn]
 show (QS s&&Qq x (QX (ZZ s))&&decide (QT s.2.2.2.2.2.1 m<0)&&(!s.2.2.2.1||Qq t (Q1 (ZZ s))))=_
 cases QS s <;> cases Qq x (QX (ZZ s)) <;> cases decide (QT s.2.2.2.2.2.1 m<0) <;> cases s.2.2.2.1 <;> cases Qq t (Q1 (ZZ s)) <;> rfl
theorem Qp2 (s:Qc) (m:Int):((!(QS s))||decide (QT s.2.2.2.2.2.1 m<0)) = !(QS s&&decide (0≤QT s.2.2.2.2.2.1 m)):=by
 have:=Qwn (QT s.2.2.2.2.2.1 m) 0
 rw [show decide (0≤QT s.2.2.2.2.2.1 m)=decide (QT s.2.2.2.2.2.1 m≥0) from rfl,this]
 cases QS s <;> cases decide (QT s.2.2.2.2.2.1 m<0) <;> rfl
theorem QHj {s:Qc} {m:Int} {x t:List Int} (h:QaL s m x t=true):YU s m x t =
  (sPc s,QH s,sOps s,Qv s,QF s,Qg s++[(m,if QF s then (Qw (sOps s) x).1.take 1 else (Qw (sOps s) x).1)],QK s,[],(if Qv s then sY s else gtd [] (Qw (sOps s) x).1 (sOps s).length),sG s,sD s,QD s,
   (if Qv s then (Zn (QC s) (Yh (gtd [] (Qw (sOps s) x).1 (sOps s).length) t).1).1 else QC s),
   (sSat s||(Qw (sOps s) x).2||(Qv s&&((Yh (gtd [] (Qw (sOps s) x).1 (sOps s).length) t).2||(Zn (QC s) (Yh (gtd [] (Qw (sOps s) x).1 (sOps s).length) t).1).2)))):=by
 unfold YU;rw [if_pos h]
theorem QI8 {s:Qc} {m:Int} {t:List Int} {rows:List (List Int)} {d:List Int} {b:Bool} (h:QaP s (QT (Qg s) m) t=true) (hr:rows=YK s (QT (Qg s) m)) (hd:(d,b)=bwdD s (QT (Qg s) m) t):Z4 s m t =
  (sPc s,QH s,sOps s,Qv s,QF s,(Qg s).take (QT (Qg s) m).toNat++(Qg s).drop ((QT (Qg s) m).toNat+1),[],sX s,sY s,[],(QN (sOps s) rows d).2.1,
   (Yy (sSum s) ((QN (sOps s) rows d).1,0,b||(QN (sOps s) rows d).2.2)).1,(Yy (sSum s) ((QN (sOps s) rows d).1,0,b||(QN (sOps s) rows d).2.2)).2.1,(Yy (sSum s) ((QN (sOps s) rows d).1,0,b||(QN (sOps s) rows d).2.2)).2.2):=by
 unfold Z4
 simp only
 rw [if_pos h,← hr,← hd]
theorem Qlj (s:Qc) (k:Int) (t:List Int):QaP s k t=(QS s&&decide (0≤k)&&((YK s k).length==(sOps s).length+1)&&YG (sOps s) (YK s k) (sOps s).length&&Qq (bwdD s k t).1 (Q1 (sOps s))):=rfl
theorem QQb {α:Type} {l:List α} {k:Nat} (hk:k<l.length):List.take (k+(List.take (l.length-(k+1)) (List.drop (k+1) l)).length) (List.take k l++List.take (l.length-(k+1)) (List.drop (k+1) l))=List.take k l++List.drop (k+1) l:=by
 have e:List.take (l.length-(k+1)) (List.drop (k+1) l)=List.drop (k+1) l:=List.take_of_length_le (by simp)
 rw [e]
 exact List.take_of_length_le (by simp;omega)
theorem QpD (f:Int→Int→Int) (x:List Int):∀ d:List Int,(d.flatMap fun a=>x.map (f a)).length=d.length*x.length
 | []=>by simp
 | a::d=>by rw [List.flatMap_cons,List.length_append,QpD f x d,List.length_map,List.length_cons,Nat.add_mul];omega
theorem Qya (d x:List Int):(ZT d x).1.2.2.length≤36:=by
 unfold ZT
 split
 ·rename_i h
  simp only [Bool.and_eq_true] at h
  have h1:=vec6 h.1
  have h2:=vec6 h.2
  simp only
  rw [QpD (fun a b=>(Z0 a b).1) x d]
  exact Nat.le_trans (Nat.mul_le_mul h1 h2) (by omega)
 ·simp
theorem QKA (o:TOp') (x d:List Int):(YV o x d).2.1.length≤36:=by
 unfold YV
 split
 ·rename_i h
  simp only [Bool.and_eq_true] at h
  split
  ·exact Qya _ _
  ·split
   ·exact Nat.le_trans (Qbd h.2) (by omega)
   ·split
    ·simp
    ·split
     ·exact Qya _ _
     ·simp
 ·simp
theorem Qpc:∀ (ops:List TOp') (rows:List (List Int)) (d:List Int),sz (QN ops rows d).1≤37*ops.length
 | [],rows,d=>by simp [QN]
 | o::os,[],d=>by simp only [QN];exact Nat.zero_le _
 | o::os,r::rs,d=>by
  have h1:=QKA o r (QN os rs d).2.1
  have h2:=Qpc os rs d
  simp only [QN,Jm,Jc,List.length_cons];omega
end Go.Proofs.YtjbdljkhbglnhaaGreat.Am
namespace Go.Proofs.YtjbdljkhbglnhaaGreat.Am
open Go Sz
theorem Qm4 {nb:Int}:∀ {l:List Qc},Jk nb l=true→∀ x,x∈l→QS x=true∧∀ i,i∈x.2.1→0≤i.2∧i.2<nb
 | [],_,x,hx=>by cases hx
 | s::r,h,x,hx=>by
  simp only [Jk,Bool.and_eq_true,List.all_eq_true,QL] at h
  rcases List.mem_cons.1 hx with rfl | hx
  ·exact ⟨h.1.1.1,fun i hi=>by have:=h.1.2 i hi;omega⟩
  ·exact Qm4 h.2 x hx
theorem QOh {p:Qo} {s:Int} (he:YJ p s=true):∃ k:Nat,s=k∧k<p.2.1.length∧p.2.1.length≤4∧p.2.2.1.length+1=p.2.1.length∧p.2.2.2.length+1=p.2.1.length∧QS (gtd QM p.2.1 k)=true ∧
  0≤(Qt p s).2∧(Qt p s).2<p.1.length∧((Qt p s).1=1→0<k)∧((Qt p s).1=3→k+1<p.2.1.length)∧((Qt p s).1=4→k+1<p.2.1.length)∧((Qt p s).1=7→0<k) ∧
  ((Qt p s).1=1∨(Qt p s).1=2∨(Qt p s).1=3∨(Qt p s).1=4∨(Qt p s).1=5∨(Qt p s).1=6∨(Qt p s).1=7∨(Qt p s).1=8):=by
 simp only [YJ,Bool.and_eq_true] at he
 obtain ⟨⟨h1,h2⟩,h3⟩:=he
 simp only [Zd,Bool.and_eq_true,QL,beq_iff_eq] at h1
 have h2':=QL.1 h2
 obtain ⟨k,rfl⟩:=Int.eq_ofNat_of_zero_le h2'.1
 have hk:k<p.2.1.length:=by omega
 have hg:=Qm4 h1.2.2 _ (Jt hk QM)
 have hkind:(Qt p (k:Int)).1=1∨(Qt p (k:Int)).1=2∨(Qt p (k:Int)).1=3∨(Qt p (k:Int)).1=4∨(Qt p (k:Int)).1=5∨(Qt p (k:Int)).1=6∨(Qt p (k:Int)).1=7∨(Qt p (k:Int)).1=8:=by
  generalize (Qt p (k:Int)).1=kd at h3
  unfold QaE at h3
  simp only at h3
  split at h3
  ·omega
  split at h3
  ·omega
  split at h3
  ·omega
  split at h3
  ·omega
  split at h3
  ·omega
  split at h3
  ·omega
  ·cases h3
 have hM:0≤(Qt p (k:Int)).2∧(Qt p (k:Int)).2<p.1.length:=by
  have hn:Qt p (k:Int)=Qdl (gtd QM p.2.1 k):=by
   unfold Qt;rw [if_pos h2,Int.toNat_natCast]
  rw [hn] at hkind ⊢
  unfold Qdl at hkind ⊢
  split
  ·rename_i hpc
   have hpc:=QL.1 hpc
   exact hg.2 _ (Jt (by omega) dIns)
  ·rename_i hpc
   rw [if_neg hpc] at hkind
   simp at hkind
 refine ⟨k,rfl,hk,by omega,by omega,by omega,hg.1,hM.1,hM.2,?_,?_,?_,?_,hkind⟩
 all_goals
  intro hkd
  rw [hkd] at h3
  simp [QaE] at h3
  omega
theorem QBn {p:Qo} {s:Int} (h:YJ p s=false):Yk p s=p:=by unfold Yk;rw [if_neg (by rw [h];simp)]
theorem QFW {p:Qo} {k:Nat} {x y:Qc} {a b:List Qm} (h:YJ p (k:Int)=true) (hx:x=gtd QM p.2.1 k) (hy:Yc p k x (Qt p (k:Int))=(y,a,b)) (hpc:y.1=x.1) :
  Yk p (k:Int)=(p.1,p.2.1.set k (y.1+1,y.2),a,b):=by
 unfold Yk
 rw [if_pos h]
 simp only [Int.toNat_natCast]
 rw [show gtd QM (QG p) k=x from hx.symm,hy]
 simp only
 rw [hpc]
 rfl
theorem QEx (s:Qc) (m:Int) (x t:List Int):(YU s m x t).1=s.1:=by unfold YU;split <;> rfl
theorem QMz (s:Qc) (m:Int):(Jh s m).1=s.1:=by unfold Jh;simp only;split <;> rfl
theorem Qre (s:Qc) (m:Int) (t:List Int):(Z4 s m t).1=s.1:=by unfold Z4;simp only;split <;> rfl
theorem pi1 {p:Qo} {k:Nat} {x:Qc} {i:TIns} (h:i.1=1):Yc p k x i=(setX x (ZH (gtd QP (Qy p) (k-1))).2.1.2,(Qy p).set (k-1) (ZH (gtd QP (Qy p) (k-1))).1,QA p):=by
 unfold Yc;simp only [h];simp
theorem pi2 {p:Qo} {k:Nat} {x:Qc} {i:TIns} (h:i.1=2):Yc p k x i=(YU x i.2 (if k=0 then (gtd Zj (QQ p) i.2.toNat).1 else sX x) (gtd Zj (QQ p) i.2.toNat).2,Qy p,QA p):=by
 unfold Yc;simp only [h];simp
theorem pi3 {p:Qo} {k:Nat} {x:Qc} {i:TIns} (h:i.1=3):Yc p k x i=(setY x [],(Qy p).set k (Y2 (gtd QP (Qy p) k) (i.2,sY x)).1,QA p):=by
 unfold Yc;simp only [h];simp
theorem pi4 {p:Qo} {k:Nat} {x:Qc} {i:TIns} (h:i.1=4):Yc p k x i=(setG x (ZH (gtd QP (QA p) k)).2.1.2,Qy p,(QA p).set k (ZH (gtd QP (QA p) k)).1):=by
 unfold Yc;simp only [h];simp
theorem pi5 {p:Qo} {k:Nat} {x:Qc} {i:TIns} (h:i.1=5):Yc p k x i=(Jh x i.2,Qy p,QA p):=by
 unfold Yc;simp only [h];simp
theorem pi6 {p:Qo} {k:Nat} {x:Qc} {i:TIns} (h:i.1=6):Yc p k x i=((if k=0 then setD (Z4 x i.2 (gtd Zj (QQ p) i.2.toNat).2) [] else Z4 x i.2 (gtd Zj (QQ p) i.2.toNat).2),Qy p,QA p):=by
 unfold Yc;simp only [h];simp
theorem pi7 {p:Qo} {k:Nat} {x:Qc} {i:TIns} (h:i.1=7):Yc p k x i=(setD x [],Qy p,(QA p).set (k-1) (Y2 (gtd QP (QA p) (k-1)) (i.2,sD x)).1):=by
 unfold Yc;simp only [h];simp
theorem pi8 {p:Qo} {k:Nat} {x:Qc} {i:TIns} (h:i.1=8):Yc p k x i=(x,Qy p,QA p):=by
 unfold Yc;simp only [h];simp
theorem QoK {m:Q3} (h:QE m=true):sz m≤296:=by
 have hl:=YM h
 have hm:=Qlz h
 have:∀ l:List TOp',(∀ o,o∈l→Ze o=true)→sz l≤37*l.length:=by
  intro l
  induction l with
  | nil=>intro _;exact Nat.zero_le _
  | cons o l ih =>
   intro hh
   have h1:=QkW (hh o (List.mem_cons_self ..))
   have h2:=ih (fun y hy=>hh y (List.mem_cons_of_mem _ hy))
   have h3:=Jc o.2.2.2
   simp only [Jm,YA,Yd,List.length_cons]
   omega
 have:=this m hm
 omega
theorem QsZ {m:Q3} {b:List Qd} (h:ZM m b=true):sz b≤65:=by
 simp only [ZM,Bool.and_eq_true,QL,List.all_eq_true] at h
 have:∀ l:List Qd,(∀ o,o∈l→YR m o=true)→sz l≤13*l.length:=by
  intro l
  induction l with
  | nil=>intro _;exact Nat.zero_le _
  | cons o l ih =>
   intro hh
   have h1:=hh o (List.mem_cons_self ..)
   simp only [YR,Bool.and_eq_true] at h1
   have h4:=Qbd h1.1.2
   have h5:=Qbd h1.2
   have h2:=ih (fun y hy=>hh y (List.mem_cons_of_mem _ hy))
   have h3:=Jc o.1
   have h6:=Jc o.2
   simp only [Jm,YA,List.length_cons]
   omega
 have:=this b h.2
 omega
theorem QFB (l:List TIns):sz l=l.length:=Qzv l (fun _=>rfl)
theorem QK1 (ops:Q3) (plan:List TIns) (a b:Bool):sz (QaG ops plan a b)≤plan.length+600:=by
 unfold QaG
 split
 ·rename_i h
  have h1:=QoK h
  have h2:=Qqx h (QGX h)
  have h3:=QFB plan
  have h4:sz (ZU ops).1≤sz (ZU ops):=by simp only [YA];omega
  have e0:sz ([]:List Int)=0:=rfl
  have e1:sz ([]:List (List Int))=0:=rfl
  have e2:sz ([]:List Yj)=0:=rfl
  rw [Yi]
  simp only [QH,sOps,Qg,QK,sX,sY,sG,sD,QD,e0,e1,e2]
  omega
 ·exact Nat.zero_le _
theorem Qmi (c:Qh) (n micro:Int):∀ k:Nat,sz (Qae c n micro k)≤700*k
 | 0=>Nat.zero_le _
 | k+1=>by
  have h:=Qmi c n micro k
  have e2:sz ([]:List Qc)=0:=rfl
  rw [Qae,QeW,Jm,e2]
  have h1:=QK1 (slice (QY c) (Qs (QY c) (Q6 c) k).1 (Qs (QY c) (Q6 c) k).2) (Ye (cDs c) n k micro (gtd false (JU c) k)) (decide ((k:Int)=n-1)) (gtd false (JU c) k)
  have h2:=QrA (cDs c) n k micro (gtd false (JU c) k)
  omega
theorem Qus:∀ l:List Int,sz (l.map fun n=>((n,[]):Qm))=l.length
 | []=>rfl
 | n::l=>by
  have e:sz ([]:List Z1)=0:=rfl
  simp only [List.map_cons,Jm,QcO,Yd,Qus l,e,List.length_cons];omega
theorem QOV (c:Qh) (b:List Qd):sz (Zi c b)≤10000:=by
 unfold Zi
 split
 ·rename_i h
  have A:=Qim h
  have hn:=Qe7 A
  have h1:=QsZ A.batch
  have h2:=Qmi c (QB c) b.length (QB c).toNat
  have h3:=QgP A
  have h4:=Qus (Jw c)
  have h5:=A.stages
  have h6:nSt c=(Q6 c).length+1:=rfl
  rw [QdH]
  simp only [QQ,QG,Qy,QA]
  omega
 ·exact Nat.zero_le _
end Go.Proofs.YtjbdljkhbglnhaaGreat.Am

