/- -/
import Derived.Test.YtjbdljkhbglnhaaGreatZBGB
import Derived.Test.YtjbdljkhbglnhaaGreatZBGC
set_option linter.all false
namespace Go.Proofs.YtjbdljkhbglnhaaGreat.Am
open Go Sz
def Qk3 (ops:Q6) (plan:List TIns) (_ _:Bool):Prop:=sz ops≤2147483648∧plan.length≤2147483648
def QgQ (s:Qc) (_:Int) (_ _:List Int):Prop:=sz s≤2147483648
def QhC (s:Qc) (_:Int):Prop:=sz s≤2147483648
def Qh4 (s:Qc) (_:Int) (_:List Int):Prop:=sz s≤2147483648
def QgV (p:Qn) (_:Int):Prop:=sz p≤1073741824
theorem Ym (s:Qc):sz s=sz (QH s)+sz (sOps s)+sz (Qh s)+sz (QL s)+sz (sX s)+sz (sY s)+sz (sG s)+sz (sD s)+sz (QI s):=by
 simp only [Yx,Yi,Qbo];((try simp only [sPc,QH,sOps,QA,QG,Qh,QL,sX,sY,sG,sD,QI,QJ,sSat,QQ,QR,QD,QE] at *);omega)
theorem QdO (p:Qn):sz p=sz (QQ p)+sz (QR p)+sz (QD p)+sz (QE p):=by
 simp only [Yx];((try simp only [sPc,QH,sOps,QA,QG,Qh,QL,sX,sY,sG,sD,QI,QJ,sSat,QQ,QR,QD,QE] at *);omega)
theorem QHp (m:Q6):(Yl m).2=(0,false):=by unfold Yl;split <;> rfl
theorem Qdd {α:Type} [Sz α] (d:α) (v:α):∀ (l:List α) (i:Nat),sz (l.set i v)+sz (gtd d l i)≤sz l+sz v+sz d
 | [],i=>by simp [gtd]
 | x::l,0=>by simp only [List.set_cons_zero,Jw,QaJ];omega
 | x::l,i+1=>by
  have:=Qdd d v l i
  simp only [List.set_cons_succ,Jw,QoR];omega
theorem Qfr {α:Type} [Sz α] (d:α) (l:List α) (i:Nat):sz (gtd d l i)≤sz l+sz d:=by
 by_cases h:i<l.length
 ·have:=Qj4 (JH h d);omega
 ·have:gtd d l i=d:=by simp [gtd,List.getD_eq_getElem?_getD,List.getElem?_eq_none (Nat.le_of_not_lt h)]
  rw [this];omega
theorem vec6 {v:List Int} (h:Q3 v=true):v.length≤6:=by
 simp only [Q3,Bool.and_eq_true,QS] at h;omega
theorem QaX {v:List Int} {n:Int} (h:Qs v n=true):v.length≤6:=by
 simp only [Qs,Bool.and_eq_true] at h;exact vec6 h.1
theorem QlN (f:Int→Int→Int × Bool):∀ (a b:List Int),(vz f a b).1.length≤a.length
 | [],b=>by simp [vz]
 | a::aa,[]=>by simp [vz]
 | a::aa,b::bb=>by simp only [vz,List.length_cons];have:=QlN f aa bb;omega
theorem QxW (f:Int→Int × Bool):∀ (a:List Int),(v1 f a).1.length≤a.length
 | []=>by simp [v1]
 | a::aa=>by simp only [v1,List.length_cons];have:=QxW f aa;omega
theorem Qvs {a b:List Int} (h:Yf a b=true):a.length≤6:=by
 simp only [Yf,Bool.and_eq_true] at h;exact vec6 h.1
theorem Qnf (a b:List Int):(ZV a b).1.length≤6:=by
 unfold ZV
 split
 ·rename_i h;have:=QlN Ze a b;have:=Qvs h;omega
 ·simp
theorem QtO (c:Int) (a:List Int):(Yo c a).1.length≤6:=by
 unfold Yo
 split
 ·rename_i h
  simp only [Bool.and_eq_true] at h
  have:=QxW (ZQ c) a;have:=vec6 h.2;omega
 ·simp
theorem QJR (a:List Int):(Jo a).length≤6:=by
 unfold Jo
 split
 ·rename_i h;simp;exact vec6 h
 ·simp
theorem QBJ (x d:List Int):(Jk x d).length≤6:=by
 unfold Jk
 split
 ·rename_i h;have:=Qvs h;simp;omega
 ·simp
theorem QIu (m:TMat) (x:List Int):(ZF m x).1.length≤6:=by
 unfold ZF
 split
 ·rename_i h
  simp only [Bool.and_eq_true,ZL,QS] at h
  simp;omega
 ·simp
theorem QG5 (m:TMat) (x:List Int):(Z3 m x).1.length≤6:=by
 unfold Z3
 split
 ·rename_i h
  simp only [Bool.and_eq_true,ZL,QS] at h
  simp;omega
 ·simp
theorem fwd6 (o:TOp') (x:List Int):(YZ o x).1.length≤6:=by
 unfold YZ
 split
 ·split
  ·exact QIu _ _
  ·split
   ·exact Qnf _ _
   ·split
    ·exact QtO _ _
    ·split
     ·exact Qnf _ _
     ·exact QJR _
 ·simp
theorem bwd6 (o:TOp') (x d:List Int):(YK o x d).1.length≤6:=by
 unfold YK
 split
 ·rename_i h
  simp only [Bool.and_eq_true] at h
  split
  ·exact QG5 _ _
  ·split
   ·exact QaX h.2
   ·split
    ·exact QtO _ _
    ·split
     ·exact Qnf _ _
     ·exact QBJ _ _
 ·simp
theorem QP0:∀ (ops:List TOp') (rows:List (List Int)) (d:List Int),(QP ops rows d).2.1.length≤6+d.length
 | [],rows,d=>by simp [QP]
 | o::os,[],d=>by simp [QP]
 | o::os,r::rs,d=>by simp only [QP];have:=bwd6 o r (QP os rs d).2.1;omega
theorem Qh1:∀ (ops:List TOp') (x:List Int),sz (Qz ops x).1≤1+x.length+7*ops.length
 | [],x=>by simp only [Qz,Jw,Jb,List.length_nil];have:sz ([]:List (List Int))=0:=rfl;omega
 | o::r,x=>by
  have h1:=Qh1 r (YZ o x).1
  have h2:=fwd6 o x
  simp only [Qz,Jw,Jb,List.length_cons];omega
theorem Qw0:∀ (a b:List (List Int)),sz (ZG a b).1≤sz a
 | [],b=>by simp [ZG]
 | a::aa,[]=>by simp only [ZG];exact Nat.zero_le _
 | a::aa,b::bb=>by
  have h1:=Qw0 aa bb
  have h2:=QlN Ze a b
  simp only [ZG,Jw,Jb];omega
theorem QcW {s:Qc} (h:Q7 s=true):QN (sOps s)=true:=by
 simp only [Q7,Bool.and_eq_true] at h;exact h.1.1.1.1
theorem Qpc {s:Qc} (h:Q7 s=true):(sOps s).length≤8:=(YY (QcW h)).2
theorem Qzx {s:Qc} (h:Q7 s=true):0≤sPc s∧sPc s≤(QH s).length:=by
 simp only [Q7,Bool.and_eq_true,QS] at h;exact h.1.1.1.2
theorem Qrg {s:Qc} (h:Q7 s=true):∀ x,x∈Qh s→QaA s x=true:=by
 simp only [Q7,Bool.and_eq_true,List.all_eq_true] at h;exact h.1.2
theorem QEw {s:Qc} (h:Q7 s=true):(QI s).length=(sOps s).length∧Z9 (sOps s) (QI s)=true:=by
 simp only [Q7,Bool.and_eq_true,JF,beq_iff_eq] at h;exact h.1.1.2
theorem Qyj {s:Qc} {x:Z8} (h:Q7 s=true) (hx:QaA s x=true):1≤x.2.length∧(x.2.length:Int)=Jl s∧Qs (gtd [] x.2 0) (QZ (sOps s))=true:=by
 simp only [QaA,Bool.and_eq_true,beq_iff_eq] at hx
 obtain ⟨h1,h2⟩:=hx
 have h3:1≤x.2.length:=by unfold Jl at h1;split at h1 <;> omega
 refine ⟨h3,h1,?_⟩
 unfold YG at h2
 rw [← h1,Int.toNat_natCast,List.take_length] at h2
 cases hr:x.2 with
 | nil=>rw [hr] at h3;simp at h3
 | cons r rs =>
  rw [hr] at h2
  simp only [Jf,Bool.and_eq_true] at h2
  have hm:=QcW h
  have hl:=YY hm
  have:QaU (sOps s) 0=QZ (sOps s):=by
   unfold QaU QZ
   rw [if_pos (by omega),if_pos hm]
  rw [QaJ,← this]
  exact h2.1
theorem Qoo:∀ (l:List Z8) (m k:Int),0≤k→JR l m k<k+l.length∧-1≤JR l m k
 | [],m,k,hk=>by simp only [JR,List.length_nil];omega
 | x::r,m,k,hk=>by
  have:=Qoo r m (k+1) (by omega)
  simp only [JR,List.length_cons]
  split <;> omega
theorem Qk0 (l:List Z8) (m:Int):QU l m<l.length∧-1≤QU l m:=by
 have:=Qoo l m 0 (Int.le_refl _)
 unfold QU;omega
theorem QPK (s:Qc) (m:Int) (x t:List Int):sz (YP s m x t)≤sz s+100:=by
 unfold YP
 split
 ·rename_i h
  simp only [QaB,Bool.and_eq_true] at h
  have h1:=Qpc h.1.1.1
  have h2:=QaX h.1.1.2
  have h3:=Qh1 (sOps s) x
  have h4:=Qfr [] (Qz (sOps s) x).1 (sOps s).length
  have h5:sz (if QG s=true then List.take 1 (Qz (sOps s) x).1 else (Qz (sOps s) x).1)≤sz (Qz (sOps s) x).1:=by
   split
   ·exact Qks _ _
   ·exact Nat.le_refl _
  have h6:sz (if QA s=true then sY s else gtd [] (Qz (sOps s) x).1 (sOps s).length)≤sz (sY s)+sz (gtd [] (Qz (sOps s) x).1 (sOps s).length):=by
   split <;> ((try simp only [sPc,QH,sOps,QA,QG,Qh,QL,sX,sY,sG,sD,QI,QJ,sSat,QQ,QR,QD,QE] at *);omega)
  have h7:(gtd [] (Qz (sOps s) x).1 (sOps s).length).length≤6:=by
   have:gtd [] (Qz (sOps s) x).1 (sOps s).length=ZW (sOps s) x:=rfl
   rw [this]
   have hv:∀ (ops:List TOp') (x:List Int),x.length≤6→(ZW ops x).length≤6:=by
    intro ops
    induction ops with
    | nil=>intro x hx;rw [QfM];exact hx
    | cons o r ih=>intro x hx;rw [Qeg];exact ih _ (fwd6 o x)
   exact hv _ _ h2
  have h8:=Jb (gtd [] (Qz (sOps s) x).1 (sOps s).length)
  have e:sz ([]:List Int)=0:=rfl
  rw [Ym,Ym s]
  have e3:sz ([]:List Z8)=0:=rfl
  simp only [Qh,sX,Qfg,Jw,Qcp,Yi,e,e3]
  have e2:sz ([]:List Z8)=0:=rfl
  ((try simp only [sPc,QH,sOps,QA,QG,Qh,QL,sX,sY,sG,sD,QI,QJ,sSat,QQ,QR,QD,QE] at *);omega)
 ·((try simp only [sPc,QH,sOps,QA,QG,Qh,QL,sX,sY,sG,sD,QI,QJ,sSat,QQ,QR,QD,QE] at *);omega)
theorem QPj (s:Qc) (m:Int):sz (Jj s m)≤sz s+100:=by
 unfold Jj
 simp only
 split
 ·rename_i h
  simp only [Bool.and_eq_true,decide_eq_true_eq] at h
  have h1:=Qpc h.1
  have hf:=Qk0 (Qh s) m
  have hk:(QU (Qh s) m).toNat<(Qh s).length:=by ((try simp only [sPc,QH,sOps,QA,QG,Qh,QL,sX,sY,sG,sD,QI,QJ,sSat,QQ,QR,QD,QE] at *);omega)
  have h2:=QaX (Qyj h.1 (Qrg h.1 _ (JH hk Yc))).2.2
  have h3:=Qh1 (sOps s) (gtd [] (gtd Yc (Qh s) (QU (Qh s) m).toNat).2 0)
  rw [Ym,Ym s]
  ((try simp only [sPc,QH,sOps,QA,QG,Qh,QL,sX,sY,sG,sD,QI,QJ,sSat,QQ,QR,QD,QE] at *);omega)
 ·((try simp only [sPc,QH,sOps,QA,QG,Qh,QL,sX,sY,sG,sD,QI,QJ,sSat,QQ,QR,QD,QE] at *);omega)
theorem QIg (s:Qc) (m:Int) (t:List Int):sz (ZX s m t)≤sz s+100:=by
 unfold ZX
 simp only
 split
 ·rename_i h
  simp only [Qaw,Bool.and_eq_true] at h
  have h1:=QaX h.2
  have h2:=QP0 (sOps s) (YH s (QU (Qh s) m)) (bwdD s (QU (Qh s) m) t).1
  have h3:=Qw0 (sSum s).1 (QP (sOps s) (YH s (QU (Qh s) m)) (bwdD s (QU (Qh s) m) t).1).1
  have h4:=Qmx (Qh s) (QU (Qh s) m).toNat
  have h5:sz (List.drop ((QU (Qh s) m).toNat+1) (Qh s))≤sz (List.drop (QU (Qh s) m).toNat (Qh s)):=by
   rw [← List.drop_drop];exact Qwt _ _
  have h6:=Jb (QP (sOps s) (YH s (QU (Qh s) m)) (bwdD s (QU (Qh s) m) t).1).2.1
  have e:sz ([]:List Int)=0:=rfl
  have e2:sz ([]:List (List Int))=0:=rfl
  rw [Ym,Ym s]
  simp only [Qh,QL,sG,QI,Qfg,e,e2,YQ]
  ((try simp only [sPc,QH,sOps,QA,QG,Qh,QL,sX,sY,sG,sD,QI,QJ,sSat,QQ,QR,QD,QE] at *);omega)
 ·((try simp only [sPc,QH,sOps,QA,QG,Qh,QL,sX,sY,sG,sD,QI,QJ,sSat,QQ,QR,QD,QE] at *);omega)
theorem Qvz (q:Qd):sz (ZB q).1+sz (ZB q).2.1.2≤sz q:=by
 unfold ZB
 split
 ·rename_i h
  simp only [Bool.and_eq_true,decide_eq_true_eq] at h
  obtain ⟨c,l⟩:=q
  cases l with
  | nil=>simp at h
  | cons x l=>simp only [List.tail_cons,QaJ,Qcp,Yi,Jw];rw [Yx x,Yi];((try simp only [sPc,QH,sOps,QA,QG,Qh,QL,sX,sY,sG,sD,QI,QJ,sSat,QQ,QR,QD,QE] at *);omega)
 ·have:sz ([]:List Int)=0:=rfl
  simp only;((try simp only [sPc,QH,sOps,QA,QG,Qh,QL,sX,sY,sG,sD,QI,QJ,sSat,QQ,QR,QD,QE] at *);omega)
theorem Qqo (q:Qd) (x:Ya):sz (YW q x).1≤sz q+1+sz x.2:=by
 unfold YW
 split
 ·have:sz ([]:List Ya)=0:=rfl
  simp only [Qcp,Qfg,Jw,Yi]
  rw [Yx q,Yi,Yx x,Yi];((try simp only [sPc,QH,sOps,QA,QG,Qh,QL,sX,sY,sG,sD,QI,QJ,sSat,QQ,QR,QD,QE] at *);omega)
 ·simp only;((try simp only [sPc,QH,sOps,QA,QG,Qh,QL,sX,sY,sG,sD,QI,QJ,sSat,QQ,QR,QD,QE] at *);omega)
theorem QFG (p:Qn) (k:Nat) (x:Qc) (i:TIns):sz (Yg p k x i).1+sz (Yg p k x i).2.1+sz (Yg p k x i).2.2≤sz x+sz (QD p)+sz (QE p)+100:=by
 have e:sz ([]:List Int)=0:=rfl
 have ed:sz QT=0:=rfl
 unfold Yg
 simp only
 split
 ·have h1:=Qvz (gtd QT (QD p) (k-1))
  have h2:=Qdd QT (ZB (gtd QT (QD p) (k-1))).1 (QD p) (k-1)
  have h3:sz (setX x (ZB (gtd QT (QD p) (k-1))).2.1.2)≤sz x+sz (ZB (gtd QT (QD p) (k-1))).2.1.2:=by
   rw [Ym,Ym x];simp only [setX];((try simp only [sPc,QH,sOps,QA,QG,Qh,QL,sX,sY,sG,sD,QI,QJ,sSat,QQ,QR,QD,QE] at *);omega)
  simp only;((try simp only [sPc,QH,sOps,QA,QG,Qh,QL,sX,sY,sG,sD,QI,QJ,sSat,QQ,QR,QD,QE] at *);omega)
 split
 ·have h:=QPK x i.2 (if k=0 then (gtd Zh (QQ p) i.2.toNat).1 else sX x) (gtd Zh (QQ p) i.2.toNat).2
  simp only;((try simp only [sPc,QH,sOps,QA,QG,Qh,QL,sX,sY,sG,sD,QI,QJ,sSat,QQ,QR,QD,QE] at *);omega)
 split
 ·have h1:=Qqo (gtd QT (QD p) k) (i.2,sY x)
  have h2:=Qdd QT (YW (gtd QT (QD p) k) (i.2,sY x)).1 (QD p) k
  have h3:sz (setY x [])+sz (sY x)=sz x:=by rw [Ym,Ym x];simp only [setY,e];((try simp only [sPc,QH,sOps,QA,QG,Qh,QL,sX,sY,sG,sD,QI,QJ,sSat,QQ,QR,QD,QE] at *);omega)
  simp only at h1 ⊢;((try simp only [sPc,QH,sOps,QA,QG,Qh,QL,sX,sY,sG,sD,QI,QJ,sSat,QQ,QR,QD,QE] at *);omega)
 split
 ·have h1:=Qvz (gtd QT (QE p) k)
  have h2:=Qdd QT (ZB (gtd QT (QE p) k)).1 (QE p) k
  have h3:sz (setG x (ZB (gtd QT (QE p) k)).2.1.2)≤sz x+sz (ZB (gtd QT (QE p) k)).2.1.2:=by
   rw [Ym,Ym x];simp only [setG];((try simp only [sPc,QH,sOps,QA,QG,Qh,QL,sX,sY,sG,sD,QI,QJ,sSat,QQ,QR,QD,QE] at *);omega)
  simp only;((try simp only [sPc,QH,sOps,QA,QG,Qh,QL,sX,sY,sG,sD,QI,QJ,sSat,QQ,QR,QD,QE] at *);omega)
 split
 ·have h:=QPj x i.2
  simp only;((try simp only [sPc,QH,sOps,QA,QG,Qh,QL,sX,sY,sG,sD,QI,QJ,sSat,QQ,QR,QD,QE] at *);omega)
 split
 ·have h:=QIg x i.2 (gtd Zh (QQ p) i.2.toNat).2
  have h3:∀ y:Qc,sz (setD y [])≤sz y:=by intro y;rw [Ym,Ym y];simp only [setD,e];((try simp only [sPc,QH,sOps,QA,QG,Qh,QL,sX,sY,sG,sD,QI,QJ,sSat,QQ,QR,QD,QE] at *);omega)
  have h4:=h3 (ZX x i.2 (gtd Zh (QQ p) i.2.toNat).2)
  simp only
  split <;> ((try simp only [sPc,QH,sOps,QA,QG,Qh,QL,sX,sY,sG,sD,QI,QJ,sSat,QQ,QR,QD,QE] at *);omega)
 split
 ·have h1:=Qqo (gtd QT (QE p) (k-1)) (i.2,sD x)
  have h2:=Qdd QT (YW (gtd QT (QE p) (k-1)) (i.2,sD x)).1 (QE p) (k-1)
  have h3:sz (setD x [])+sz (sD x)=sz x:=by rw [Ym,Ym x];simp only [setD,e];((try simp only [sPc,QH,sOps,QA,QG,Qh,QL,sX,sY,sG,sD,QI,QJ,sSat,QQ,QR,QD,QE] at *);omega)
  simp only at h1 ⊢;((try simp only [sPc,QH,sOps,QA,QG,Qh,QL,sX,sY,sG,sD,QI,QJ,sSat,QQ,QR,QD,QE] at *);omega)
 ·simp only;((try simp only [sPc,QH,sOps,QA,QG,Qh,QL,sX,sY,sG,sD,QI,QJ,sSat,QQ,QR,QD,QE] at *);omega)
theorem QDS (p:Qn) (s:Int):sz (ZS p s)≤sz p+100:=by
 unfold ZS
 split
 ·have h1:=QFG p s.toNat (gtd QW (QR p) s.toNat) (Qu p s)
  have h2:=Qdd QW (Ys (Yg p s.toNat (gtd QW (QR p) s.toNat) (Qu p s)).1 (sPc (gtd QW (QR p) s.toNat)+1)) (QR p) s.toNat
  have h3:∀ (y:Qc) (v:Int),sz (Ys y v)=sz y:=by intro y v;rw [Ym,Ym y];rfl
  rw [h3] at h2
  have ed:sz QW=0:=rfl
  rw [QdO,QdO p]
  simp only
  ((try simp only [sPc,QH,sOps,QA,QG,Qh,QL,sX,sY,sG,sD,QI,QJ,sSat,QQ,QR,QD,QE] at *);omega)
 ·((try simp only [sPc,QH,sOps,QA,QG,Qh,QL,sX,sY,sG,sD,QI,QJ,sSat,QQ,QR,QD,QE] at *);omega)
end Go.Proofs.YtjbdljkhbglnhaaGreat.Am
namespace Go.Proofs.YtjbdljkhbglnhaaGreat.Am
open Go Sz
theorem Qn4 (a b:Int):decide (a≥b) = !decide (a<b):=by
 rw [Bool.eq_iff_iff];simp
theorem Qul {s:Qc} {m:Int} {x t:List Int} (h:¬ QaB s m x t=true):YP s m x t=s:=by unfold YP;rw [if_neg h]
theorem QOR {s:Qc} {m:Int} (h:¬ (Q7 s&&decide (0≤QU (Qh s) m))=true):Jj s m=s:=by unfold Jj;simp only;rw [if_neg h]
theorem QEl {s:Qc} {m:Int} {t:List Int} (h:¬ Qaw s (QU (Qh s) m) t=true):ZX s m t=s:=by unfold ZX;simp only;rw [if_neg h]
theorem QJl (s:Qc) (m:Int) (x t:List Int):QaB s m x t=(!(((!(Q7 s))||(!(Qs x (QZ (ZP s)))))||decide (QU s.2.2.2.2.2.1 m≥0))&&!(s.2.2.2.1&&(!(Qs t (Q1 (ZP s)))))):=by
 unfold QaB
 rw [Qn4]
 show (Q7 s&&Qs x (QZ (ZP s))&&decide (QU s.2.2.2.2.2.1 m<0)&&(!s.2.2.2.1||Qs t (Q1 (ZP s))))=_
 cases Q7 s <;> cases Qs x (QZ (ZP s)) <;> cases decide (QU s.2.2.2.2.2.1 m<0) <;> cases s.2.2.2.1 <;> cases Qs t (Q1 (ZP s)) <;> rfl
theorem QoY (s:Qc) (m:Int):((!(Q7 s))||decide (QU s.2.2.2.2.2.1 m<0)) = !(Q7 s&&decide (0≤QU s.2.2.2.2.2.1 m)):=by
 have:=Qn4 (QU s.2.2.2.2.2.1 m) 0
 rw [show decide (0≤QU s.2.2.2.2.2.1 m)=decide (QU s.2.2.2.2.2.1 m≥0) from rfl,this]
 cases Q7 s <;> cases decide (QU s.2.2.2.2.2.1 m<0) <;> rfl
theorem QzX {s:Qc} {m:Int} {x t:List Int} (h:QaB s m x t=true):YP s m x t =
  (sPc s,QH s,sOps s,QA s,QG s,Qh s++[(m,if QG s then (Qz (sOps s) x).1.take 1 else (Qz (sOps s) x).1)],QL s,[],(if QA s then sY s else gtd [] (Qz (sOps s) x).1 (sOps s).length),sG s,sD s,QI s,
   (if QA s then (Ze (QJ s) (YI (gtd [] (Qz (sOps s) x).1 (sOps s).length) t).1).1 else QJ s),
   (sSat s||(Qz (sOps s) x).2||(QA s&&((YI (gtd [] (Qz (sOps s) x).1 (sOps s).length) t).2||(Ze (QJ s) (YI (gtd [] (Qz (sOps s) x).1 (sOps s).length) t).1).2)))):=by
 unfold YP;rw [if_pos h]
theorem QBt {s:Qc} {m:Int} {t:List Int} {rows:List (List Int)} {d:List Int} {b:Bool} (h:Qaw s (QU (Qh s) m) t=true) (hr:rows=YH s (QU (Qh s) m)) (hd:(d,b)=bwdD s (QU (Qh s) m) t):ZX s m t =
  (sPc s,QH s,sOps s,QA s,QG s,(Qh s).take (QU (Qh s) m).toNat++(Qh s).drop ((QU (Qh s) m).toNat+1),[],sX s,sY s,[],(QP (sOps s) rows d).2.1,
   (YQ (sSum s) ((QP (sOps s) rows d).1,0,b||(QP (sOps s) rows d).2.2)).1,(YQ (sSum s) ((QP (sOps s) rows d).1,0,b||(QP (sOps s) rows d).2.2)).2.1,(YQ (sSum s) ((QP (sOps s) rows d).1,0,b||(QP (sOps s) rows d).2.2)).2.2):=by
 unfold ZX
 simp only
 rw [if_pos h,← hr,← hd]
theorem Qjd (s:Qc) (k:Int) (t:List Int):Qaw s k t=(Q7 s&&decide (0≤k)&&((YH s k).length==(sOps s).length+1)&&YG (sOps s) (YH s k) (sOps s).length&&Qs (bwdD s k t).1 (Q1 (sOps s))):=rfl
theorem QMk {α:Type} {l:List α} {k:Nat} (hk:k<l.length):List.take (k+(List.take (l.length-(k+1)) (List.drop (k+1) l)).length) (List.take k l++List.take (l.length-(k+1)) (List.drop (k+1) l))=List.take k l++List.drop (k+1) l:=by
 have e:List.take (l.length-(k+1)) (List.drop (k+1) l)=List.drop (k+1) l:=List.take_of_length_le (by simp)
 rw [e]
 exact List.take_of_length_le (by simp;omega)
theorem Qoj (f:Int→Int→Int) (x:List Int):∀ d:List Int,(d.flatMap fun a=>x.map (f a)).length=d.length*x.length
 | []=>by simp
 | a::d=>by rw [List.flatMap_cons,List.length_append,Qoj f x d,List.length_map,List.length_cons,Nat.add_mul];omega
theorem Qy5 (d x:List Int):(ZM d x).1.2.2.length≤36:=by
 unfold ZM
 split
 ·rename_i h
  simp only [Bool.and_eq_true] at h
  have h1:=vec6 h.1
  have h2:=vec6 h.2
  simp only
  rw [Qoj (fun a b=>(ZQ a b).1) x d]
  exact Nat.le_trans (Nat.mul_le_mul h1 h2) (by omega)
 ·simp
theorem QNJ (o:TOp') (x d:List Int):(YK o x d).2.1.length≤36:=by
 unfold YK
 split
 ·rename_i h
  simp only [Bool.and_eq_true] at h
  split
  ·exact Qy5 _ _
  ·split
   ·exact Nat.le_trans (QaX h.2) (by omega)
   ·split
    ·simp
    ·split
     ·exact Qy5 _ _
     ·simp
 ·simp
theorem Qq6:∀ (ops:List TOp') (rows:List (List Int)) (d:List Int),sz (QP ops rows d).1≤37*ops.length
 | [],rows,d=>by simp [QP]
 | o::os,[],d=>by simp only [QP];exact Nat.zero_le _
 | o::os,r::rs,d=>by
  have h1:=QNJ o r (QP os rs d).2.1
  have h2:=Qq6 os rs d
  simp only [QP,Jw,Jb,List.length_cons];omega
end Go.Proofs.YtjbdljkhbglnhaaGreat.Am
namespace Go.Proofs.YtjbdljkhbglnhaaGreat.Am
open Go Sz
theorem QsB {nb:Int}:∀ {l:List Qc},QaR nb l=true→∀ x,x∈l→Q7 x=true∧∀ i,i∈x.2.1→0≤i.2∧i.2<nb
 | [],_,x,hx=>by cases hx
 | s::r,h,x,hx=>by
  simp only [QaR,Bool.and_eq_true,List.all_eq_true,QS] at h
  rcases List.mem_cons.1 hx with rfl | hx
  ·exact ⟨h.1.1.1,fun i hi=>by have:=h.1.2 i hi;omega⟩
  ·exact QsB h.2 x hx
theorem QGh {p:Qn} {s:Int} (he:Yy p s=true):∃ k:Nat,s=k∧k<p.2.1.length∧p.2.1.length≤4∧p.2.2.1.length+1=p.2.1.length∧p.2.2.2.length+1=p.2.1.length∧Q7 (gtd QW p.2.1 k)=true ∧
  0≤(Qu p s).2∧(Qu p s).2<p.1.length∧((Qu p s).1=1→0<k)∧((Qu p s).1=3→k+1<p.2.1.length)∧((Qu p s).1=4→k+1<p.2.1.length)∧((Qu p s).1=7→0<k) ∧
  ((Qu p s).1=1∨(Qu p s).1=2∨(Qu p s).1=3∨(Qu p s).1=4∨(Qu p s).1=5∨(Qu p s).1=6∨(Qu p s).1=7∨(Qu p s).1=8):=by
 simp only [Yy,Bool.and_eq_true] at he
 obtain ⟨⟨h1,h2⟩,h3⟩:=he
 simp only [ZZ,Bool.and_eq_true,QS,beq_iff_eq] at h1
 have h2':=QS.1 h2
 obtain ⟨k,rfl⟩:=Int.eq_ofNat_of_zero_le h2'.1
 have hk:k<p.2.1.length:=by omega
 have hg:=QsB h1.2.2 _ (JH hk QW)
 have hkind:(Qu p (k:Int)).1=1∨(Qu p (k:Int)).1=2∨(Qu p (k:Int)).1=3∨(Qu p (k:Int)).1=4∨(Qu p (k:Int)).1=5∨(Qu p (k:Int)).1=6∨(Qu p (k:Int)).1=7∨(Qu p (k:Int)).1=8:=by
  generalize (Qu p (k:Int)).1=kd at h3
  unfold QaO at h3
  simp only at h3
  split at h3
  ·omega
  split at h3
  ·omega
  split at h3
  ·omega
  split at h3
  ·omega
  split at h3
  ·omega
  split at h3
  ·omega
  ·cases h3
 have hM:0≤(Qu p (k:Int)).2∧(Qu p (k:Int)).2<p.1.length:=by
  have hn:Qu p (k:Int)=QdY (gtd QW p.2.1 k):=by
   unfold Qu;rw [if_pos h2,Int.toNat_natCast]
  rw [hn] at hkind ⊢
  unfold QdY at hkind ⊢
  split
  ·rename_i hpc
   have hpc:=QS.1 hpc
   exact hg.2 _ (JH (by omega) dIns)
  ·rename_i hpc
   rw [if_neg hpc] at hkind
   simp at hkind
 refine ⟨k,rfl,hk,by omega,by omega,by omega,hg.1,hM.1,hM.2,?_,?_,?_,?_,hkind⟩
 all_goals
  intro hkd
  rw [hkd] at h3
  simp [QaO] at h3
  omega
theorem QOL {p:Qn} {s:Int} (h:Yy p s=false):ZS p s=p:=by unfold ZS;rw [if_neg (by rw [h];simp)]
theorem QEu {p:Qn} {k:Nat} {x y:Qc} {a b:List Qd} (h:Yy p (k:Int)=true) (hx:x=gtd QW p.2.1 k) (hy:Yg p k x (Qu p (k:Int))=(y,a,b)) (hpc:y.1=x.1) :
  ZS p (k:Int)=(p.1,p.2.1.set k (y.1+1,y.2),a,b):=by
 unfold ZS
 rw [if_pos h]
 simp only [Int.toNat_natCast]
 rw [show gtd QW (QR p) k=x from hx.symm,hy]
 simp only
 rw [hpc]
 rfl
theorem QKZ (s:Qc) (m:Int) (x t:List Int):(YP s m x t).1=s.1:=by unfold YP;split <;> rfl
theorem QMj (s:Qc) (m:Int):(Jj s m).1=s.1:=by unfold Jj;simp only;split <;> rfl
theorem Qx0 (s:Qc) (m:Int) (t:List Int):(ZX s m t).1=s.1:=by unfold ZX;simp only;split <;> rfl
theorem pi1 {p:Qn} {k:Nat} {x:Qc} {i:TIns} (h:i.1=1):Yg p k x i=(setX x (ZB (gtd QT (QD p) (k-1))).2.1.2,(QD p).set (k-1) (ZB (gtd QT (QD p) (k-1))).1,QE p):=by
 unfold Yg;simp only [h];simp
theorem pi2 {p:Qn} {k:Nat} {x:Qc} {i:TIns} (h:i.1=2):Yg p k x i=(YP x i.2 (if k=0 then (gtd Zh (QQ p) i.2.toNat).1 else sX x) (gtd Zh (QQ p) i.2.toNat).2,QD p,QE p):=by
 unfold Yg;simp only [h];simp
theorem pi3 {p:Qn} {k:Nat} {x:Qc} {i:TIns} (h:i.1=3):Yg p k x i=(setY x [],(QD p).set k (YW (gtd QT (QD p) k) (i.2,sY x)).1,QE p):=by
 unfold Yg;simp only [h];simp
theorem pi4 {p:Qn} {k:Nat} {x:Qc} {i:TIns} (h:i.1=4):Yg p k x i=(setG x (ZB (gtd QT (QE p) k)).2.1.2,QD p,(QE p).set k (ZB (gtd QT (QE p) k)).1):=by
 unfold Yg;simp only [h];simp
theorem pi5 {p:Qn} {k:Nat} {x:Qc} {i:TIns} (h:i.1=5):Yg p k x i=(Jj x i.2,QD p,QE p):=by
 unfold Yg;simp only [h];simp
theorem pi6 {p:Qn} {k:Nat} {x:Qc} {i:TIns} (h:i.1=6):Yg p k x i=((if k=0 then setD (ZX x i.2 (gtd Zh (QQ p) i.2.toNat).2) [] else ZX x i.2 (gtd Zh (QQ p) i.2.toNat).2),QD p,QE p):=by
 unfold Yg;simp only [h];simp
theorem pi7 {p:Qn} {k:Nat} {x:Qc} {i:TIns} (h:i.1=7):Yg p k x i=(setD x [],QD p,(QE p).set (k-1) (YW (gtd QT (QE p) (k-1)) (i.2,sD x)).1):=by
 unfold Yg;simp only [h];simp
theorem pi8 {p:Qn} {k:Nat} {x:Qc} {i:TIns} (h:i.1=8):Yg p k x i=(x,QD p,QE p):=by
 unfold Yg;simp only [h];simp
theorem QpH {m:Q6} (h:QN m=true):sz m≤296:=by
 have hl:=YY h
 have hm:=Qsz h
 have:∀ l:List TOp',(∀ o,o∈l→Q8 o=true)→sz l≤37*l.length:=by
  intro l
  induction l with
  | nil=>intro _;exact Nat.zero_le _
  | cons o l ih =>
   intro hh
   have h1:=Qna (hh o (List.mem_cons_self ..))
   have h2:=ih (fun y hy=>hh y (List.mem_cons_of_mem _ hy))
   have h3:=Jb o.2.2.2
   simp only [Jw,Yx,Yi,List.length_cons]
   omega
 have:=this m hm
 omega
theorem Qrz {m:Q6} {b:List Qg} (h:ZY m b=true):sz b≤65:=by
 simp only [ZY,Bool.and_eq_true,QS,List.all_eq_true] at h
 have:∀ l:List Qg,(∀ o,o∈l→Jd m o=true)→sz l≤13*l.length:=by
  intro l
  induction l with
  | nil=>intro _;exact Nat.zero_le _
  | cons o l ih =>
   intro hh
   have h1:=hh o (List.mem_cons_self ..)
   simp only [Jd,Bool.and_eq_true] at h1
   have h4:=QaX h1.1.2
   have h5:=QaX h1.2
   have h2:=ih (fun y hy=>hh y (List.mem_cons_of_mem _ hy))
   have h3:=Jb o.1
   have h6:=Jb o.2
   simp only [Jw,Yx,List.length_cons]
   omega
 have:=this b h.2
 omega
theorem QJp (l:List TIns):sz l=l.length:=QBY l (fun _=>rfl)
theorem QO2 (ops:Q6) (plan:List TIns) (a b:Bool):sz (Qax ops plan a b)≤plan.length+600:=by
 unfold Qax
 split
 ·rename_i h
  have h1:=QpH h
  have h2:=Qvm h (QLz h)
  have h3:=QJp plan
  have h4:sz (Yl ops).1≤sz (Yl ops):=by simp only [Yx];omega
  have e0:sz ([]:List Int)=0:=rfl
  have e1:sz ([]:List (List Int))=0:=rfl
  have e2:sz ([]:List Z8)=0:=rfl
  rw [Ym]
  simp only [QH,sOps,Qh,QL,sX,sY,sG,sD,QI,e0,e1,e2]
  omega
 ·exact Nat.zero_le _
theorem QmL (c:Ql) (n micro:Int):∀ k:Nat,sz (Qak c n micro k)≤700*k
 | 0=>Nat.zero_le _
 | k+1=>by
  have h:=QmL c n micro k
  have e2:sz ([]:List Qc)=0:=rfl
  rw [Qak,Qfg,Jw,e2]
  have h1:=QO2 (slice (Qw c) (Qq (Qw c) (Qt c) k).1 (Qq (Qw c) (Qt c) k).2) (Yn (cDs c) n k micro (gtd false (JY c) k)) (decide ((k:Int)=n-1)) (gtd false (JY c) k)
  have h2:=Qwe (cDs c) n k micro (gtd false (JY c) k)
  omega
theorem QtV:∀ l:List Int,sz (l.map fun n=>((n,[]):Qd))=l.length
 | []=>rfl
 | n::l=>by
  have e:sz ([]:List Ya)=0:=rfl
  simp only [List.map_cons,Jw,Qcp,Yi,QtV l,e,List.length_cons];omega
theorem QNB (c:Ql) (b:List Qg):sz (Yt c b)≤10000:=by
 unfold Yt
 split
 ·rename_i h
  have A:=Qjp h
  have hn:=QcI A
  have h1:=Qrz A.batch
  have h2:=QmL c (QF c) b.length (QF c).toNat
  have h3:=Qiu A
  have h4:=QtV (JN c)
  have h5:=A.stages
  have h6:nSt c=(Qt c).length+1:=rfl
  rw [QdO]
  simp only [QQ,QR,QD,QE]
  omega
 ·exact Nat.zero_le _
end Go.Proofs.YtjbdljkhbglnhaaGreat.Am

