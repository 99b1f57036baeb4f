/- -/
import Derived.Test.YtjbdljkhbglnhaaGreatZIGB
import Derived.Test.YtjbdljkhbglnhaaGreatZIGC
set_option linter.all false
namespace Go.Proofs.YtjbdljkhbglnhaaGreat.Am
open Go Sz
def Qo6 (ops:Zf) (plan:List TIns) (_ _:Bool):Prop:=sz ops≤2147483648∧plan.length≤2147483648
def QbC (s:Qc) (_:Int) (_ _:List Int):Prop:=sz s≤2147483648
def QbB (s:Qc) (_:Int):Prop:=sz s≤2147483648
def Qb7 (s:Qc) (_:Int) (_:List Int):Prop:=sz s≤2147483648
def Qbm (p:Qe) (_:Int):Prop:=sz p≤1073741824
def JG (p:Qe) (_:List Int):Prop:=sz p≤536870912
def Js (l:List Int):List Int:=l.take 2000
theorem ZS (s:Qc):sz s=sz (Qz s)+sz (sOps s)+sz (Qf s)+sz (QD s)+sz (sX s)+sz (sY s)+sz (sG s)+sz (sD s)+sz (QC s):=by
 simp only [ZO,ZF,J0];((try simp only [sPc,Qz,sOps,Qq,Qv,Qf,QD,sX,sY,sG,sD,QC,QB,sSat,QF,QI,Qt,Qu] at *);omega)
theorem JR (p:Qe):sz p=sz (QF p)+sz (QI p)+sz (Qt p)+sz (Qu p):=by
 simp only [ZO];((try simp only [sPc,Qz,sOps,Qq,Qv,Qf,QD,sX,sY,sG,sD,QC,QB,sSat,QF,QI,Qt,Qu] at *);omega)
theorem QUa (m:Zf):(Yx m).2=(0,false):=by unfold Yx;split <;> rfl
theorem QcG {α:Type} [Sz α] (d:α) (v:α):∀ (l:List α) (i:Nat),sz (l.set i v)+sz (gtd d l i)≤sz l+sz v+sz d
 | [],i=>by simp [gtd]
 | x::l,0=>by simp only [List.set_cons_zero,JD,QbA];omega
 | x::l,i+1=>by
  have:=QcG d v l i
  simp only [List.set_cons_succ,JD,QW7];omega
theorem Qbb {α:Type} [Sz α] (d:α) (l:List α) (i:Nat):sz (gtd d l i)≤sz l+sz d:=by
 by_cases h:i<l.length
 ·have:=Qe6 (Jb h d);omega
 ·have:gtd d l i=d:=by simp [gtd,List.getD_eq_getElem?_getD,List.getElem?_eq_none (Nat.le_of_not_lt h)]
  rw [this];omega
theorem vec6 {v:List Int} (h:QJ v=true):v.length≤6:=by
 simp only [QJ,Bool.and_eq_true,QP] at h;omega
theorem Qaa {v:List Int} {n:Int} (h:Qr v n=true):v.length≤6:=by
 simp only [Qr,Bool.and_eq_true] at h;exact vec6 h.1
theorem Qok (f:Int→Int→Int × Bool):∀ (a b:List Int),(vz f a b).1.length≤a.length
 | [],b=>by simp [vz]
 | a::aa,[]=>by simp [vz]
 | a::aa,b::bb=>by simp only [vz,List.length_cons];have:=Qok f aa bb;omega
theorem QrQ (f:Int→Int × Bool):∀ (a:List Int),(v1 f a).1.length≤a.length
 | []=>by simp [v1]
 | a::aa=>by simp only [v1,List.length_cons];have:=QrQ f aa;omega
theorem QzE {a b:List Int} (h:ZG a b=true):a.length≤6:=by
 simp only [ZG,Bool.and_eq_true] at h;exact vec6 h.1
theorem Qo8 (a b:List Int):(Zi a b).1.length≤6:=by
 unfold Zi
 split
 ·rename_i h;have:=Qok Q7 a b;have:=QzE h;omega
 ·simp
theorem QAB (c:Int) (a:List Int):(ZE c a).1.length≤6:=by
 unfold ZE
 split
 ·rename_i h
  simp only [Bool.and_eq_true] at h
  have:=QrQ (Zm c) a;have:=vec6 h.2;omega
 ·simp
theorem QOO (a:List Int):(Yi a).length≤6:=by
 unfold Yi
 split
 ·rename_i h;simp;exact vec6 h
 ·simp
theorem QMi (x d:List Int):(Yj x d).length≤6:=by
 unfold Yj
 split
 ·rename_i h;have:=QzE h;simp;omega
 ·simp
theorem QRF (m:TMat) (x:List Int):(Zl m x).1.length≤6:=by
 unfold Zl
 split
 ·rename_i h
  simp only [Bool.and_eq_true,Zw,QP] at h
  simp;omega
 ·simp
theorem QSl (m:TMat) (x:List Int):(Zs m x).1.length≤6:=by
 unfold Zs
 split
 ·rename_i h
  simp only [Bool.and_eq_true,Zw,QP] at h
  simp;omega
 ·simp
theorem fwd6 (o:TOp') (x:List Int):(YB o x).1.length≤6:=by
 unfold YB
 split
 ·split
  ·exact QRF _ _
  ·split
   ·exact Qo8 _ _
   ·split
    ·exact QAB _ _
    ·split
     ·exact Qo8 _ _
     ·exact QOO _
 ·simp
theorem bwd6 (o:TOp') (x d:List Int):(Yk o x d).1.length≤6:=by
 unfold Yk
 split
 ·rename_i h
  simp only [Bool.and_eq_true] at h
  split
  ·exact QSl _ _
  ·split
   ·exact Qaa h.2
   ·split
    ·exact QAB _ _
    ·split
     ·exact Qo8 _ _
     ·exact QMi _ _
 ·simp
theorem QMv:∀ (ops:List TOp') (rows:List (List Int)) (d:List Int),(QO ops rows d).2.1.length≤6+d.length
 | [],rows,d=>by simp [QO]
 | o::os,[],d=>by simp [QO]
 | o::os,r::rs,d=>by simp only [QO];have:=bwd6 o r (QO os rs d).2.1;omega
theorem Qfb:∀ (ops:List TOp') (x:List Int),sz (QG ops x).1≤1+x.length+7*ops.length
 | [],x=>by simp only [QG,JD,ZN,List.length_nil];have:sz ([]:List (List Int))=0:=rfl;omega
 | o::r,x=>by
  have h1:=Qfb r (YB o x).1
  have h2:=fwd6 o x
  simp only [QG,JD,ZN,List.length_cons];omega
theorem QrK:∀ (a b:List (List Int)),sz (ZC a b).1≤sz a
 | [],b=>by simp [ZC]
 | a::aa,[]=>by simp only [ZC];exact Nat.zero_le _
 | a::aa,b::bb=>by
  have h1:=QrK aa bb
  have h2:=Qok Q7 a b
  simp only [ZC,JD,ZN];omega
theorem Jy {s:Qc} (h:QS s=true):QT (sOps s)=true:=by
 simp only [QS,Bool.and_eq_true] at h;exact h.1.1.1.1
theorem QDx {s:Qc} (h:QS s=true):(sOps s).length≤8:=(Ym (Jy h)).2
theorem Qth {s:Qc} (h:QS s=true):0≤sPc s∧sPc s≤(Qz s).length:=by
 simp only [QS,Bool.and_eq_true,QP] at h;exact h.1.1.1.2
theorem Qpw {s:Qc} (h:QS s=true):∀ x,x∈Qf s→YO s x=true:=by
 simp only [QS,Bool.and_eq_true,List.all_eq_true] at h;exact h.1.2
theorem Qzz {s:Qc} (h:QS s=true):(QC s).length=(sOps s).length∧Z1 (sOps s) (QC s)=true:=by
 simp only [QS,Bool.and_eq_true,Jg,beq_iff_eq] at h;exact h.1.1.2
theorem Qpt {s:Qc} {x:ZD} (h:QS s=true) (hx:YO s x=true):1≤x.2.length∧(x.2.length:Int)=Z4 s∧Qr (gtd [] x.2 0) (Q6 (sOps s))=true:=by
 simp only [YO,Bool.and_eq_true,beq_iff_eq] at hx
 obtain ⟨h1,h2⟩:=hx
 have h3:1≤x.2.length:=by unfold Z4 at h1;split at h1 <;> omega
 refine ⟨h3,h1,?_⟩
 unfold Yg at h2
 rw [← h1,Int.toNat_natCast,List.take_length] at h2
 cases hr:x.2 with
 | nil=>rw [hr] at h3;simp at h3
 | cons r rs =>
  rw [hr] at h2
  simp only [Yh,Bool.and_eq_true] at h2
  have hm:=Jy h
  have hl:=Ym hm
  have:Jh (sOps s) 0=Q6 (sOps s):=by
   unfold Jh Q6
   rw [if_pos (by omega),if_pos hm]
  rw [QbA,← this]
  exact h2.1
theorem Qyc:∀ (l:List ZD) (m k:Int),0≤k→Jz l m k<k+l.length∧-1≤Jz l m k
 | [],m,k,hk=>by simp only [Jz,List.length_nil];omega
 | x::r,m,k,hk=>by
  have:=Qyc r m (k+1) (by omega)
  simp only [Jz,List.length_cons]
  split <;> omega
theorem QeP (l:List ZD) (m:Int):QL l m<l.length∧-1≤QL l m:=by
 have:=Qyc l m 0 (Int.le_refl _)
 unfold QL;omega
theorem QII (s:Qc) (m:Int) (x t:List Int):sz (Ye s m x t)≤sz s+100:=by
 unfold Ye
 split
 ·rename_i h
  simp only [Jv,Bool.and_eq_true] at h
  have h1:=QDx h.1.1.1
  have h2:=Qaa h.1.1.2
  have h3:=Qfb (sOps s) x
  have h4:=Qbb [] (QG (sOps s) x).1 (sOps s).length
  have h5:sz (if Qv s=true then List.take 1 (QG (sOps s) x).1 else (QG (sOps s) x).1)≤sz (QG (sOps s) x).1:=by
   split
   ·exact Qh0 _ _
   ·exact Nat.le_refl _
  have h6:sz (if Qq s=true then sY s else gtd [] (QG (sOps s) x).1 (sOps s).length)≤sz (sY s)+sz (gtd [] (QG (sOps s) x).1 (sOps s).length):=by
   split <;> ((try simp only [sPc,Qz,sOps,Qq,Qv,Qf,QD,sX,sY,sG,sD,QC,QB,sSat,QF,QI,Qt,Qu] at *);omega)
  have h7:(gtd [] (QG (sOps s) x).1 (sOps s).length).length≤6:=by
   have:gtd [] (QG (sOps s) x).1 (sOps s).length=Z9 (sOps s) x:=rfl
   rw [this]
   have hv:∀ (ops:List TOp') (x:List Int),x.length≤6→(Z9 ops x).length≤6:=by
    intro ops
    induction ops with
    | nil=>intro x hx;rw [QjU];exact hx
    | cons o r ih=>intro x hx;rw [QfW];exact ih _ (fwd6 o x)
   exact hv _ _ h2
  have h8:=ZN (gtd [] (QG (sOps s) x).1 (sOps s).length)
  have e:sz ([]:List Int)=0:=rfl
  rw [ZS,ZS s]
  have e3:sz ([]:List ZD)=0:=rfl
  simp only [Qf,sX,Qea,JD,QaC,ZF,e,e3]
  have e2:sz ([]:List ZD)=0:=rfl
  ((try simp only [sPc,Qz,sOps,Qq,Qv,Qf,QD,sX,sY,sG,sD,QC,QB,sSat,QF,QI,Qt,Qu] at *);omega)
 ·((try simp only [sPc,Qz,sOps,Qq,Qv,Qf,QD,sX,sY,sG,sD,QC,QB,sSat,QF,QI,Qt,Qu] at *);omega)
theorem QEK (s:Qc) (m:Int):sz (YX s m)≤sz s+100:=by
 unfold YX
 simp only
 split
 ·rename_i h
  simp only [Bool.and_eq_true,decide_eq_true_eq] at h
  have h1:=QDx h.1
  have hf:=QeP (Qf s) m
  have hk:(QL (Qf s) m).toNat<(Qf s).length:=by ((try simp only [sPc,Qz,sOps,Qq,Qv,Qf,QD,sX,sY,sG,sD,QC,QB,sSat,QF,QI,Qt,Qu] at *);omega)
  have h2:=Qaa (Qpt h.1 (Qpw h.1 _ (Jb hk Zp))).2.2
  have h3:=Qfb (sOps s) (gtd [] (gtd Zp (Qf s) (QL (Qf s) m).toNat).2 0)
  rw [ZS,ZS s]
  ((try simp only [sPc,Qz,sOps,Qq,Qv,Qf,QD,sX,sY,sG,sD,QC,QB,sSat,QF,QI,Qt,Qu] at *);omega)
 ·((try simp only [sPc,Qz,sOps,Qq,Qv,Qf,QD,sX,sY,sG,sD,QC,QB,sSat,QF,QI,Qt,Qu] at *);omega)
theorem QHM (s:Qc) (m:Int) (t:List Int):sz (Zx s m t)≤sz s+100:=by
 unfold Zx
 simp only
 split
 ·rename_i h
  simp only [J1,Bool.and_eq_true] at h
  have h1:=Qaa h.2
  have h2:=QMv (sOps s) (Z0 s (QL (Qf s) m)) (bwdD s (QL (Qf s) m) t).1
  have h3:=QrK (sSum s).1 (QO (sOps s) (Z0 s (QL (Qf s) m)) (bwdD s (QL (Qf s) m) t).1).1
  have h4:=QlR (Qf s) (QL (Qf s) m).toNat
  have h5:sz (List.drop ((QL (Qf s) m).toNat+1) (Qf s))≤sz (List.drop (QL (Qf s) m).toNat (Qf s)):=by
   rw [← List.drop_drop];exact QxZ _ _
  have h6:=ZN (QO (sOps s) (Z0 s (QL (Qf s) m)) (bwdD s (QL (Qf s) m) t).1).2.1
  have e:sz ([]:List Int)=0:=rfl
  have e2:sz ([]:List (List Int))=0:=rfl
  rw [ZS,ZS s]
  simp only [Qf,QD,sG,QC,Qea,e,e2,Z5]
  ((try simp only [sPc,Qz,sOps,Qq,Qv,Qf,QD,sX,sY,sG,sD,QC,QB,sSat,QF,QI,Qt,Qu] at *);omega)
 ·((try simp only [sPc,Qz,sOps,Qq,Qv,Qf,QD,sX,sY,sG,sD,QC,QB,sSat,QF,QI,Qt,Qu] at *);omega)
theorem QyX (q:Qd):sz (Zt q).1+sz (Zt q).2.1.2≤sz q:=by
 unfold Zt
 split
 ·rename_i h
  simp only [Bool.and_eq_true,decide_eq_true_eq] at h
  obtain ⟨c,l⟩:=q
  cases l with
  | nil=>simp at h
  | cons x l=>simp only [List.tail_cons,QbA,QaC,ZF,JD];rw [ZO x,ZF];((try simp only [sPc,Qz,sOps,Qq,Qv,Qf,QD,sX,sY,sG,sD,QC,QB,sSat,QF,QI,Qt,Qu] at *);omega)
 ·have:sz ([]:List Int)=0:=rfl
  simp only;((try simp only [sPc,Qz,sOps,Qq,Qv,Qf,QD,sX,sY,sG,sD,QC,QB,sSat,QF,QI,Qt,Qu] at *);omega)
theorem QxB (q:Qd) (x:Za):sz (Yw q x).1≤sz q+1+sz x.2:=by
 unfold Yw
 split
 ·have:sz ([]:List Za)=0:=rfl
  simp only [QaC,Qea,JD,ZF]
  rw [ZO q,ZF,ZO x,ZF];((try simp only [sPc,Qz,sOps,Qq,Qv,Qf,QD,sX,sY,sG,sD,QC,QB,sSat,QF,QI,Qt,Qu] at *);omega)
 ·simp only;((try simp only [sPc,Qz,sOps,Qq,Qv,Qf,QD,sX,sY,sG,sD,QC,QB,sSat,QF,QI,Qt,Qu] at *);omega)
theorem QRz (p:Qe) (k:Nat) (x:Qc) (i:TIns):sz (Yl p k x i).1+sz (Yl p k x i).2.1+sz (Yl p k x i).2.2≤sz x+sz (Qt p)+sz (Qu p)+100:=by
 have e:sz ([]:List Int)=0:=rfl
 have ed:sz Qw=0:=rfl
 unfold Yl
 simp only
 split
 ·have h1:=QyX (gtd Qw (Qt p) (k-1))
  have h2:=QcG Qw (Zt (gtd Qw (Qt p) (k-1))).1 (Qt p) (k-1)
  have h3:sz (setX x (Zt (gtd Qw (Qt p) (k-1))).2.1.2)≤sz x+sz (Zt (gtd Qw (Qt p) (k-1))).2.1.2:=by
   rw [ZS,ZS x];simp only [setX];((try simp only [sPc,Qz,sOps,Qq,Qv,Qf,QD,sX,sY,sG,sD,QC,QB,sSat,QF,QI,Qt,Qu] at *);omega)
  simp only;((try simp only [sPc,Qz,sOps,Qq,Qv,Qf,QD,sX,sY,sG,sD,QC,QB,sSat,QF,QI,Qt,Qu] at *);omega)
 split
 ·have h:=QII x i.2 (if k=0 then (gtd QX (QF p) i.2.toNat).1 else sX x) (gtd QX (QF p) i.2.toNat).2
  simp only;((try simp only [sPc,Qz,sOps,Qq,Qv,Qf,QD,sX,sY,sG,sD,QC,QB,sSat,QF,QI,Qt,Qu] at *);omega)
 split
 ·have h1:=QxB (gtd Qw (Qt p) k) (i.2,sY x)
  have h2:=QcG Qw (Yw (gtd Qw (Qt p) k) (i.2,sY x)).1 (Qt p) k
  have h3:sz (setY x [])+sz (sY x)=sz x:=by rw [ZS,ZS x];simp only [setY,e];((try simp only [sPc,Qz,sOps,Qq,Qv,Qf,QD,sX,sY,sG,sD,QC,QB,sSat,QF,QI,Qt,Qu] at *);omega)
  simp only at h1 ⊢;((try simp only [sPc,Qz,sOps,Qq,Qv,Qf,QD,sX,sY,sG,sD,QC,QB,sSat,QF,QI,Qt,Qu] at *);omega)
 split
 ·have h1:=QyX (gtd Qw (Qu p) k)
  have h2:=QcG Qw (Zt (gtd Qw (Qu p) k)).1 (Qu p) k
  have h3:sz (setG x (Zt (gtd Qw (Qu p) k)).2.1.2)≤sz x+sz (Zt (gtd Qw (Qu p) k)).2.1.2:=by
   rw [ZS,ZS x];simp only [setG];((try simp only [sPc,Qz,sOps,Qq,Qv,Qf,QD,sX,sY,sG,sD,QC,QB,sSat,QF,QI,Qt,Qu] at *);omega)
  simp only;((try simp only [sPc,Qz,sOps,Qq,Qv,Qf,QD,sX,sY,sG,sD,QC,QB,sSat,QF,QI,Qt,Qu] at *);omega)
 split
 ·have h:=QEK x i.2
  simp only;((try simp only [sPc,Qz,sOps,Qq,Qv,Qf,QD,sX,sY,sG,sD,QC,QB,sSat,QF,QI,Qt,Qu] at *);omega)
 split
 ·have h:=QHM x i.2 (gtd QX (QF p) i.2.toNat).2
  have h3:∀ y:Qc,sz (setD y [])≤sz y:=by intro y;rw [ZS,ZS y];simp only [setD,e];((try simp only [sPc,Qz,sOps,Qq,Qv,Qf,QD,sX,sY,sG,sD,QC,QB,sSat,QF,QI,Qt,Qu] at *);omega)
  have h4:=h3 (Zx x i.2 (gtd QX (QF p) i.2.toNat).2)
  simp only
  split <;> ((try simp only [sPc,Qz,sOps,Qq,Qv,Qf,QD,sX,sY,sG,sD,QC,QB,sSat,QF,QI,Qt,Qu] at *);omega)
 split
 ·have h1:=QxB (gtd Qw (Qu p) (k-1)) (i.2,sD x)
  have h2:=QcG Qw (Yw (gtd Qw (Qu p) (k-1)) (i.2,sD x)).1 (Qu p) (k-1)
  have h3:sz (setD x [])+sz (sD x)=sz x:=by rw [ZS,ZS x];simp only [setD,e];((try simp only [sPc,Qz,sOps,Qq,Qv,Qf,QD,sX,sY,sG,sD,QC,QB,sSat,QF,QI,Qt,Qu] at *);omega)
  simp only at h1 ⊢;((try simp only [sPc,Qz,sOps,Qq,Qv,Qf,QD,sX,sY,sG,sD,QC,QB,sSat,QF,QI,Qt,Qu] at *);omega)
 ·simp only;((try simp only [sPc,Qz,sOps,Qq,Qv,Qf,QD,sX,sY,sG,sD,QC,QB,sSat,QF,QI,Qt,Qu] at *);omega)
theorem QhG (p:Qe) (s:Int):sz (Zu p s)≤sz p+100:=by
 unfold Zu
 split
 ·have h1:=QRz p s.toNat (gtd QH (QI p) s.toNat) (Qj p s)
  have h2:=QcG QH (YH (Yl p s.toNat (gtd QH (QI p) s.toNat) (Qj p s)).1 (sPc (gtd QH (QI p) s.toNat)+1)) (QI p) s.toNat
  have h3:∀ (y:Qc) (v:Int),sz (YH y v)=sz y:=by intro y v;rw [ZS,ZS y];rfl
  rw [h3] at h2
  have ed:sz QH=0:=rfl
  rw [JR,JR p]
  simp only
  ((try simp only [sPc,Qz,sOps,Qq,Qv,Qf,QD,sX,sY,sG,sD,QC,QB,sSat,QF,QI,Qt,Qu] at *);omega)
 ·((try simp only [sPc,Qz,sOps,Qq,Qv,Qf,QD,sX,sY,sG,sD,QC,QB,sSat,QF,QI,Qt,Qu] at *);omega)
theorem QDN:∀ (l:List Int) (p:Qe),sz (QaI l p)≤sz p+100*l.length
 | [],p=>by simp [QaI]
 | s::r,p=>by
  have h1:=QDN r (Zu p s)
  have h2:=QhG p s
  simp only [QaI,List.length_cons];((try simp only [sPc,Qz,sOps,Qq,Qv,Qf,QD,sX,sY,sG,sD,QC,QB,sSat,QF,QI,Qt,Qu] at *);omega)
theorem QAn (p:Qe) (l:List Int):sz (YI p l)≤sz p+200000:=by
 unfold YI
 have:=QDN (l.take 2000) p
 have:(l.take 2000).length≤2000:=by simp;((try simp only [sPc,Qz,sOps,Qq,Qv,Qf,QD,sX,sY,sG,sD,QC,QB,sSat,QF,QI,Qt,Qu] at *);omega)
 ((try simp only [sPc,Qz,sOps,Qq,Qv,Qf,QD,sX,sY,sG,sD,QC,QB,sSat,QF,QI,Qt,Qu] at *);omega)
end Go.Proofs.YtjbdljkhbglnhaaGreat.Am
namespace Go.Proofs.YtjbdljkhbglnhaaGreat.Am
open Go Sz
theorem Qpo (a b:Int):decide (a≥b) = !decide (a<b):=by
 rw [Bool.eq_iff_iff];simp
theorem Qoo {s:Qc} {m:Int} {x t:List Int} (h:¬ Jv s m x t=true):Ye s m x t=s:=by unfold Ye;rw [if_neg h]
theorem QAQ {s:Qc} {m:Int} (h:¬ (QS s&&decide (0≤QL (Qf s) m))=true):YX s m=s:=by unfold YX;simp only;rw [if_neg h]
theorem QqV {s:Qc} {m:Int} {t:List Int} (h:¬ J1 s (QL (Qf s) m) t=true):Zx s m t=s:=by unfold Zx;simp only;rw [if_neg h]
theorem QVU {m:Zf} (h:QT m=true):Q6 m=(gtd dOp m 0).2.1:=by unfold Q6;rw [if_pos h]
theorem QCp {m:Zf} (h:QT m=true):Q5 m=(gtd dOp m (m.length-1)).2.2.1:=by unfold Q5;rw [if_pos h]
theorem QB6 (s:Qc) (m:Int) (x t:List Int):Jv s m x t=(!(((!(QS s))||(!(Qr x (Q6 (ZQ s)))))||decide (QL s.2.2.2.2.2.1 m≥0))&&!(s.2.2.2.1&&(!(Qr t (Q5 (ZQ s)))))):=by
 unfold Jv
 rw [Qpo]
 show (QS s&&Qr x (Q6 (ZQ s))&&decide (QL s.2.2.2.2.2.1 m<0)&&(!s.2.2.2.1||Qr t (Q5 (ZQ s))))=_
 cases QS s <;> cases Qr x (Q6 (ZQ s)) <;> cases decide (QL s.2.2.2.2.2.1 m<0) <;> cases s.2.2.2.1 <;> cases Qr t (Q5 (ZQ s)) <;> rfl
theorem QIN (s:Qc) (m:Int) (x t:List Int) (k:Nat) (hk:QS s=true→k=s.2.2.1.length-1) :
  (((((!(QS s))||(!(QJ x)))||((x.length:Int) != ((gtd dOp s.2.2.1 0).2.1)))||decide (QL s.2.2.2.2.2.1 m≥0))||(s.2.2.2.1&&((!(QJ t))||((t.length:Int) != ((gtd dOp s.2.2.1 k).2.2.1))))) = !Jv s m x t:=by
 rw [QB6,Qpo]
 cases hs:QS s
 ·rfl
 ·have hm:=Jy hs
  rw [hk hs,show ZQ s=s.2.2.1 from rfl,QVU hm,QCp hm]
  unfold Qr
  simp only [bne]
  cases QJ x <;> cases ((x.length:Int)==(gtd dOp s.2.2.1 0).2.1) <;> cases decide (QL s.2.2.2.2.2.1 m<0) <;> cases s.2.2.2.1 <;> cases QJ t <;> cases ((t.length:Int)==(gtd dOp s.2.2.1 (s.2.2.1.length-1)).2.2.1) <;> rfl
theorem QhU (s:Qc) (m:Int):((!(QS s))||decide (QL s.2.2.2.2.2.1 m<0)) = !(QS s&&decide (0≤QL s.2.2.2.2.2.1 m)):=by
 have:=Qpo (QL s.2.2.2.2.2.1 m) 0
 rw [show decide (0≤QL s.2.2.2.2.2.1 m)=decide (QL s.2.2.2.2.2.1 m≥0) from rfl,this]
 cases QS s <;> cases decide (QL s.2.2.2.2.2.1 m<0) <;> rfl
theorem QBi {s:Qc} {m:Int} {x t:List Int} (h:Jv s m x t=true):Ye s m x t =
  (sPc s,Qz s,sOps s,Qq s,Qv s,Qf s++[(m,if Qv s then (QG (sOps s) x).1.take 1 else (QG (sOps s) x).1)],QD s,[],(if Qq s then sY s else gtd [] (QG (sOps s) x).1 (sOps s).length),sG s,sD s,QC s,
   (if Qq s then (Q7 (QB s) (Z8 (gtd [] (QG (sOps s) x).1 (sOps s).length) t).1).1 else QB s),
   (sSat s||(QG (sOps s) x).2||(Qq s&&((Z8 (gtd [] (QG (sOps s) x).1 (sOps s).length) t).2||(Q7 (QB s) (Z8 (gtd [] (QG (sOps s) x).1 (sOps s).length) t).1).2)))):=by
 unfold Ye;rw [if_pos h]
theorem QuT {s:Qc} {m:Int} {t:List Int} {rows:List (List Int)} {d:List Int} {b:Bool} (h:J1 s (QL (Qf s) m) t=true) (hr:rows=Z0 s (QL (Qf s) m)) (hd:(d,b)=bwdD s (QL (Qf s) m) t):Zx s m t =
  (sPc s,Qz s,sOps s,Qq s,Qv s,(Qf s).take (QL (Qf s) m).toNat++(Qf s).drop ((QL (Qf s) m).toNat+1),[],sX s,sY s,[],(QO (sOps s) rows d).2.1,
   (Z5 (sSum s) ((QO (sOps s) rows d).1,0,b||(QO (sOps s) rows d).2.2)).1,(Z5 (sSum s) ((QO (sOps s) rows d).1,0,b||(QO (sOps s) rows d).2.2)).2.1,(Z5 (sSum s) ((QO (sOps s) rows d).1,0,b||(QO (sOps s) rows d).2.2)).2.2):=by
 unfold Zx
 simp only
 rw [if_pos h,← hr,← hd]
theorem QcS (s:Qc) (k:Int) (t:List Int):J1 s k t=(QS s&&decide (0≤k)&&((Z0 s k).length==(sOps s).length+1)&&Yg (sOps s) (Z0 s k) (sOps s).length&&Qr (bwdD s k t).1 (Q5 (sOps s))):=rfl
theorem QyD {α:Type} {l:List α} {k:Nat} (hk:k<l.length):List.take (k+(List.take (l.length-(k+1)) (List.drop (k+1) l)).length) (List.take k l++List.take (l.length-(k+1)) (List.drop (k+1) l))=List.take k l++List.drop (k+1) l:=by
 have e:List.take (l.length-(k+1)) (List.drop (k+1) l)=List.drop (k+1) l:=List.take_of_length_le (by simp)
 rw [e]
 exact List.take_of_length_le (by simp;omega)
theorem Qw9 (f:Int→Int→Int) (x:List Int):∀ d:List Int,(d.flatMap fun a=>x.map (f a)).length=d.length*x.length
 | []=>by simp
 | a::d=>by rw [List.flatMap_cons,List.length_append,Qw9 f x d,List.length_map,List.length_cons,Nat.add_mul];omega
theorem Qrw (d x:List Int):(Zh d x).1.2.2.length≤36:=by
 unfold Zh
 split
 ·rename_i h
  simp only [Bool.and_eq_true] at h
  have h1:=vec6 h.1
  have h2:=vec6 h.2
  simp only
  rw [Qw9 (fun a b=>(Zm a b).1) x d]
  exact Nat.le_trans (Nat.mul_le_mul h1 h2) (by omega)
 ·simp
theorem QFW (o:TOp') (x d:List Int):(Yk o x d).2.1.length≤36:=by
 unfold Yk
 split
 ·rename_i h
  simp only [Bool.and_eq_true] at h
  split
  ·exact Qrw _ _
  ·split
   ·exact Nat.le_trans (Qaa h.2) (by omega)
   ·split
    ·simp
    ·split
     ·exact Qrw _ _
     ·simp
 ·simp
theorem Qp6:∀ (ops:List TOp') (rows:List (List Int)) (d:List Int),sz (QO ops rows d).1≤37*ops.length
 | [],rows,d=>by simp [QO]
 | o::os,[],d=>by simp only [QO];exact Nat.zero_le _
 | o::os,r::rs,d=>by
  have h1:=QFW o r (QO os rs d).2.1
  have h2:=Qp6 os rs d
  simp only [QO,JD,ZN,List.length_cons];omega
theorem QPx {ops:List TOp'} {rows:List (List Int)} {k:Nat} (hk:k<ops.length) (hr:k<rows.length) :
  Yh ops k ((rows.drop k).take (ops.length-k))=(Qr (gtd [] rows k) (gtd dOp ops k).2.1&&Yh ops (k+1) ((rows.drop (k+1)).take (ops.length-(k+1)))):=by
 rw [List.drop_eq_getElem_cons hr,show ops.length-k=(ops.length-(k+1))+1 by omega,List.take_succ_cons,Yh]
 have:gtd [] rows k=rows[k]:=QbL (List.getElem?_eq_getElem hr) _
 rw [← this]
 unfold Jh
 rw [if_pos hk]
end Go.Proofs.YtjbdljkhbglnhaaGreat.Am
namespace Go.Proofs.YtjbdljkhbglnhaaGreat.Am
open Go Sz
theorem Qzr {nb:Int}:∀ {l:List Qc},Jx nb l=true→∀ x,x∈l→QS x=true∧∀ i,i∈x.2.1→0≤i.2∧i.2<nb
 | [],_,x,hx=>by cases hx
 | s::r,h,x,hx=>by
  simp only [Jx,Bool.and_eq_true,List.all_eq_true,QP] at h
  rcases List.mem_cons.1 hx with rfl | hx
  ·exact ⟨h.1.1.1,fun i hi=>by have:=h.1.2 i hi;omega⟩
  ·exact Qzr h.2 x hx
theorem Qtg {p:Qe} {s:Int} (he:ZV p s=true):∃ k:Nat,s=k∧k<p.2.1.length∧p.2.1.length≤4∧p.2.2.1.length+1=p.2.1.length∧p.2.2.2.length+1=p.2.1.length∧QS (gtd QH p.2.1 k)=true ∧
  0≤(Qj p s).2∧(Qj p s).2<p.1.length∧((Qj p s).1=1→0<k)∧((Qj p s).1=3→k+1<p.2.1.length)∧((Qj p s).1=4→k+1<p.2.1.length)∧((Qj p s).1=7→0<k) ∧
  ((Qj p s).1=1∨(Qj p s).1=2∨(Qj p s).1=3∨(Qj p s).1=4∨(Qj p s).1=5∨(Qj p s).1=6∨(Qj p s).1=7∨(Qj p s).1=8):=by
 simp only [ZV,Bool.and_eq_true] at he
 obtain ⟨⟨h1,h2⟩,h3⟩:=he
 simp only [Zk,Bool.and_eq_true,QP,beq_iff_eq] at h1
 have h2':=QP.1 h2
 obtain ⟨k,rfl⟩:=Int.eq_ofNat_of_zero_le h2'.1
 have hk:k<p.2.1.length:=by omega
 have hg:=Qzr h1.2.2 _ (Jb hk QH)
 have hkind:(Qj p (k:Int)).1=1∨(Qj p (k:Int)).1=2∨(Qj p (k:Int)).1=3∨(Qj p (k:Int)).1=4∨(Qj p (k:Int)).1=5∨(Qj p (k:Int)).1=6∨(Qj p (k:Int)).1=7∨(Qj p (k:Int)).1=8:=by
  generalize (Qj p (k:Int)).1=kd at h3
  unfold JI at h3
  simp only at h3
  split at h3
  ·omega
  split at h3
  ·omega
  split at h3
  ·omega
  split at h3
  ·omega
  split at h3
  ·omega
  split at h3
  ·omega
  ·cases h3
 have hM:0≤(Qj p (k:Int)).2∧(Qj p (k:Int)).2<p.1.length:=by
  have hn:Qj p (k:Int)=Qb9 (gtd QH p.2.1 k):=by
   unfold Qj;rw [if_pos h2,Int.toNat_natCast]
  rw [hn] at hkind ⊢
  unfold Qb9 at hkind ⊢
  split
  ·rename_i hpc
   have hpc:=QP.1 hpc
   exact hg.2 _ (Jb (by omega) dIns)
  ·rename_i hpc
   rw [if_neg hpc] at hkind
   simp at hkind
 refine ⟨k,rfl,hk,by omega,by omega,by omega,hg.1,hM.1,hM.2,?_,?_,?_,?_,hkind⟩
 all_goals
  intro hkd
  rw [hkd] at h3
  simp [JI] at h3
  omega
theorem QzF {p:Qe} {s:Int} (h:ZV p s=false):Zu p s=p:=by unfold Zu;rw [if_neg (by rw [h];simp)]
theorem Qtv {p:Qe} {k:Nat} {x y:Qc} {a b:List Qd} (h:ZV p (k:Int)=true) (hx:x=gtd QH p.2.1 k) (hy:Yl p k x (Qj p (k:Int))=(y,a,b)) (hpc:y.1=x.1) :
  Zu p (k:Int)=(p.1,p.2.1.set k (y.1+1,y.2),a,b):=by
 unfold Zu
 rw [if_pos h]
 simp only [Int.toNat_natCast]
 rw [show gtd QH (QI p) k=x from hx.symm,hy]
 simp only
 rw [hpc]
 rfl
theorem QzB (s:Qc) (m:Int) (x t:List Int):(Ye s m x t).1=s.1:=by unfold Ye;split <;> rfl
theorem Qwl (s:Qc) (m:Int):(YX s m).1=s.1:=by unfold YX;simp only;split <;> rfl
theorem QiZ (s:Qc) (m:Int) (t:List Int):(Zx s m t).1=s.1:=by unfold Zx;simp only;split <;> rfl
theorem pi1 {p:Qe} {k:Nat} {x:Qc} {i:TIns} (h:i.1=1):Yl p k x i=(setX x (Zt (gtd Qw (Qt p) (k-1))).2.1.2,(Qt p).set (k-1) (Zt (gtd Qw (Qt p) (k-1))).1,Qu p):=by
 unfold Yl;simp only [h];simp
theorem pi2 {p:Qe} {k:Nat} {x:Qc} {i:TIns} (h:i.1=2):Yl p k x i=(Ye x i.2 (if k=0 then (gtd QX (QF p) i.2.toNat).1 else sX x) (gtd QX (QF p) i.2.toNat).2,Qt p,Qu p):=by
 unfold Yl;simp only [h];simp
theorem pi3 {p:Qe} {k:Nat} {x:Qc} {i:TIns} (h:i.1=3):Yl p k x i=(setY x [],(Qt p).set k (Yw (gtd Qw (Qt p) k) (i.2,sY x)).1,Qu p):=by
 unfold Yl;simp only [h];simp
theorem pi4 {p:Qe} {k:Nat} {x:Qc} {i:TIns} (h:i.1=4):Yl p k x i=(setG x (Zt (gtd Qw (Qu p) k)).2.1.2,Qt p,(Qu p).set k (Zt (gtd Qw (Qu p) k)).1):=by
 unfold Yl;simp only [h];simp
theorem pi5 {p:Qe} {k:Nat} {x:Qc} {i:TIns} (h:i.1=5):Yl p k x i=(YX x i.2,Qt p,Qu p):=by
 unfold Yl;simp only [h];simp
theorem pi6 {p:Qe} {k:Nat} {x:Qc} {i:TIns} (h:i.1=6):Yl p k x i=((if k=0 then setD (Zx x i.2 (gtd QX (QF p) i.2.toNat).2) [] else Zx x i.2 (gtd QX (QF p) i.2.toNat).2),Qt p,Qu p):=by
 unfold Yl;simp only [h];simp
theorem pi7 {p:Qe} {k:Nat} {x:Qc} {i:TIns} (h:i.1=7):Yl p k x i=(setD x [],Qt p,(Qu p).set (k-1) (Yw (gtd Qw (Qu p) (k-1)) (i.2,sD x)).1):=by
 unfold Yl;simp only [h];simp
theorem pi8 {p:Qe} {k:Nat} {x:Qc} {i:TIns} (h:i.1=8):Yl p k x i=(x,Qt p,Qu p):=by
 unfold Yl;simp only [h];simp
theorem QrM {m:Zf} (h:QT m=true):sz m≤296:=by
 have hl:=Ym h
 have hm:=Qoi h
 have:∀ l:List TOp',(∀ o,o∈l→Zd o=true)→sz l≤37*l.length:=by
  intro l
  induction l with
  | nil=>intro _;exact Nat.zero_le _
  | cons o l ih =>
   intro hh
   have h1:=QoX (hh o (List.mem_cons_self ..))
   have h2:=ih (fun y hy=>hh y (List.mem_cons_of_mem _ hy))
   have h3:=ZN o.2.2.2
   simp only [JD,ZO,ZF,List.length_cons]
   omega
 have:=this m hm
 omega
theorem QBR {m:Zf} {b:List Qy} (h:YL m b=true):sz b≤65:=by
 simp only [YL,Bool.and_eq_true,QP,List.all_eq_true] at h
 have:∀ l:List Qy,(∀ o,o∈l→JS m o=true)→sz l≤13*l.length:=by
  intro l
  induction l with
  | nil=>intro _;exact Nat.zero_le _
  | cons o l ih =>
   intro hh
   have h1:=hh o (List.mem_cons_self ..)
   simp only [JS,Bool.and_eq_true] at h1
   have h4:=Qaa h1.1.2
   have h5:=Qaa h1.2
   have h2:=ih (fun y hy=>hh y (List.mem_cons_of_mem _ hy))
   have h3:=ZN o.1
   have h6:=ZN o.2
   simp only [JD,ZO,List.length_cons]
   omega
 have:=this b h.2
 omega
theorem QMq (l:List TIns):sz l=l.length:=QEf l (fun _=>rfl)
theorem QJp (ops:Zf) (plan:List TIns) (a b:Bool):sz (QaG ops plan a b)≤plan.length+600:=by
 unfold QaG
 split
 ·rename_i h
  have h1:=QrM h
  have h2:=Qlr h (QS6 h)
  have h3:=QMq plan
  have h4:sz (Yx ops).1≤sz (Yx ops):=by simp only [ZO];omega
  have e0:sz ([]:List Int)=0:=rfl
  have e1:sz ([]:List (List Int))=0:=rfl
  have e2:sz ([]:List ZD)=0:=rfl
  rw [ZS]
  simp only [Qz,sOps,Qf,QD,sX,sY,sG,sD,QC,e0,e1,e2]
  omega
 ·exact Nat.zero_le _
theorem Ql0 (c:QM) (n micro:Int):∀ k:Nat,sz (QaU c n micro k)≤700*k
 | 0=>Nat.zero_le _
 | k+1=>by
  have h:=Ql0 c n micro k
  have e2:sz ([]:List Qc)=0:=rfl
  rw [QaU,Qea,JD,e2]
  have h1:=QJp (slice (ZU c) (QV (ZU c) (Zv c) k).1 (QV (ZU c) (Zv c) k).2) (YA (cDs c) n k micro (gtd false (J5 c) k)) (decide ((k:Int)=n-1)) (gtd false (J5 c) k)
  have h2:=Qv7 (cDs c) n k micro (gtd false (J5 c) k)
  omega
theorem QvI:∀ l:List Int,sz (l.map fun n=>((n,[]):Qd))=l.length
 | []=>rfl
 | n::l=>by
  have e:sz ([]:List Za)=0:=rfl
  simp only [List.map_cons,JD,QaC,ZF,QvI l,e,List.length_cons];omega
theorem QM3 (c:QM) (b:List Qy):sz (Ja c b)≤10000:=by
 unfold Ja
 split
 ·rename_i h
  have A:=QnU h
  have hn:=QmU A
  have h1:=QBR A.batch
  have h2:=Ql0 c (QZ c) b.length (QZ c).toNat
  have h3:=QhO A
  have h4:=QvI (JK c)
  have h5:=A.stages
  have h6:nSt c=(Zv c).length+1:=rfl
  rw [JR]
  simp only [QF,QI,Qt,Qu]
  omega
 ·exact Nat.zero_le _
end Go.Proofs.YtjbdljkhbglnhaaGreat.Am

