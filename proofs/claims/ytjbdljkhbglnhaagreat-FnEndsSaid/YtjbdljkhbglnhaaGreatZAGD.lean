/- -/
import Derived.Test.YtjbdljkhbglnhaaGreatZAGB
import Derived.Test.YtjbdljkhbglnhaaGreatZAGC
set_option linter.all false
namespace Go.Proofs.YtjbdljkhbglnhaaGreat.Am
open Go Sz
def Qjo (ops:Q5) (plan:List TIns) (_ _:Bool):Prop:=sz ops≤2147483648∧plan.length≤2147483648
def QhZ (s:Qc) (_:Int) (_ _:List Int):Prop:=sz s≤2147483648
def QiU (s:Qc) (_:Int):Prop:=sz s≤2147483648
def QhH (s:Qc) (_:Int) (_:List Int):Prop:=sz s≤2147483648
def Qhc (p:Qd) (_:Int):Prop:=sz p≤1073741824
def Qia (p:Qd) (_:Int):Prop:=sz p≤536870912
theorem Yk (s:Qc):sz s=sz (QD s)+sz (sOps s)+sz (Qk s)+sz (QI s)+sz (sX s)+sz (sY s)+sz (sG s)+sz (sD s)+sz (QE s):=by
 simp only [YA,Yd,Qbk];((try simp only [sPc,QD,sOps,Qw,QB,Qk,QI,sX,sY,sG,sD,QE,QH,sSat,QO,QF,Qz,QA] at *);omega)
theorem Qfg (p:Qd):sz p=sz (QO p)+sz (QF p)+sz (Qz p)+sz (QA p):=by
 simp only [YA];((try simp only [sPc,QD,sOps,Qw,QB,Qk,QI,sX,sY,sG,sD,QE,QH,sSat,QO,QF,Qz,QA] at *);omega)
theorem QIq (m:Q5):(ZO m).2=(0,false):=by unfold ZO;split <;> rfl
theorem QdJ {α:Type} [Sz α] (d:α) (v:α):∀ (l:List α) (i:Nat),sz (l.set i v)+sz (gtd d l i)≤sz l+sz v+sz d
 | [],i=>by simp [gtd]
 | x::l,0=>by simp only [List.set_cons_zero,Jv,QcH];omega
 | x::l,i+1=>by
  have:=QdJ d v l i
  simp only [List.set_cons_succ,Jv,QFG];omega
theorem Qfs {α:Type} [Sz α] (d:α) (l:List α) (i:Nat):sz (gtd d l i)≤sz l+sz d:=by
 by_cases h:i<l.length
 ·have:=Ql5 (JK h d);omega
 ·have:gtd d l i=d:=by simp [gtd,List.getD_eq_getElem?_getD,List.getElem?_eq_none (Nat.le_of_not_lt h)]
  rw [this];omega
theorem vec6 {v:List Int} (h:Q1 v=true):v.length≤6:=by
 simp only [Q1,Bool.and_eq_true,QR] at h;omega
theorem Qa4 {v:List Int} {n:Int} (h:Qs v n=true):v.length≤6:=by
 simp only [Qs,Bool.and_eq_true] at h;exact vec6 h.1
theorem QmW (f:Int→Int→Int × Bool):∀ (a b:List Int),(vz f a b).1.length≤a.length
 | [],b=>by simp [vz]
 | a::aa,[]=>by simp [vz]
 | a::aa,b::bb=>by simp only [vz,List.length_cons];have:=QmW f aa bb;omega
theorem QqM (f:Int→Int × Bool):∀ (a:List Int),(v1 f a).1.length≤a.length
 | []=>by simp [v1]
 | a::aa=>by simp only [v1,List.length_cons];have:=QqM f aa;omega
theorem Qtf {a b:List Int} (h:Yc a b=true):a.length≤6:=by
 simp only [Yc,Bool.and_eq_true] at h;exact vec6 h.1
theorem Qkk (a b:List Int):(ZS a b).1.length≤6:=by
 unfold ZS
 split
 ·rename_i h;have:=QmW Zk a b;have:=Qtf h;omega
 ·simp
theorem Qo5 (c:Int) (a:List Int):(Yl c a).1.length≤6:=by
 unfold Yl
 split
 ·rename_i h
  simp only [Bool.and_eq_true] at h
  have:=QqM (ZT c) a;have:=vec6 h.2;omega
 ·simp
theorem QHF (a:List Int):(Jj a).length≤6:=by
 unfold Jj
 split
 ·rename_i h;simp;exact vec6 h
 ·simp
theorem QAM (x d:List Int):(Jq x d).length≤6:=by
 unfold Jq
 split
 ·rename_i h;have:=Qtf h;simp;omega
 ·simp
theorem QAJ (m:TMat) (x:List Int):(ZH m x).1.length≤6:=by
 unfold ZH
 split
 ·rename_i h
  simp only [Bool.and_eq_true,ZI,QR] at h
  simp;omega
 ·simp
theorem QL6 (m:TMat) (x:List Int):(Z1 m x).1.length≤6:=by
 unfold Z1
 split
 ·rename_i h
  simp only [Bool.and_eq_true,ZI,QR] at h
  simp;omega
 ·simp
theorem fwd6 (o:TOp') (x:List Int):(Y1 o x).1.length≤6:=by
 unfold Y1
 split
 ·split
  ·exact QAJ _ _
  ·split
   ·exact Qkk _ _
   ·split
    ·exact Qo5 _ _
    ·split
     ·exact Qkk _ _
     ·exact QHF _
 ·simp
theorem bwd6 (o:TOp') (x d:List Int):(YL o x d).1.length≤6:=by
 unfold YL
 split
 ·rename_i h
  simp only [Bool.and_eq_true] at h
  split
  ·exact QL6 _ _
  ·split
   ·exact Qa4 h.2
   ·split
    ·exact Qo5 _ _
    ·split
     ·exact Qkk _ _
     ·exact QAM _ _
 ·simp
theorem QM2:∀ (ops:List TOp') (rows:List (List Int)) (d:List Int),(QJ ops rows d).2.1.length≤6+d.length
 | [],rows,d=>by simp [QJ]
 | o::os,[],d=>by simp [QJ]
 | o::os,r::rs,d=>by simp only [QJ];have:=bwd6 o r (QJ os rs d).2.1;omega
theorem Qgn:∀ (ops:List TOp') (x:List Int),sz (Qx ops x).1≤1+x.length+7*ops.length
 | [],x=>by simp only [Qx,Jv,Ja,List.length_nil];have:sz ([]:List (List Int))=0:=rfl;omega
 | o::r,x=>by
  have h1:=Qgn r (Y1 o x).1
  have h2:=fwd6 o x
  simp only [Qx,Jv,Ja,List.length_cons];omega
theorem Qty:∀ (a b:List (List Int)),sz (Zf a b).1≤sz a
 | [],b=>by simp [Zf]
 | a::aa,[]=>by simp only [Zf];exact Nat.zero_le _
 | a::aa,b::bb=>by
  have h1:=Qty aa bb
  have h2:=QmW Zk a b
  simp only [Zf,Jv,Ja];omega
theorem QcC {s:Qc} (h:Q9 s=true):QN (sOps s)=true:=by
 simp only [Q9,Bool.and_eq_true] at h;exact h.1.1.1.1
theorem QzV {s:Qc} (h:Q9 s=true):(sOps s).length≤8:=(YV (QcC h)).2
theorem QyU {s:Qc} (h:Q9 s=true):0≤sPc s∧sPc s≤(QD s).length:=by
 simp only [Q9,Bool.and_eq_true,QR] at h;exact h.1.1.1.2
theorem QpZ {s:Qc} (h:Q9 s=true):∀ x,x∈Qk s→QaF s x=true:=by
 simp only [Q9,Bool.and_eq_true,List.all_eq_true] at h;exact h.1.2
theorem QJ6 {s:Qc} (h:Q9 s=true):(QE s).length=(sOps s).length∧Z6 (sOps s) (QE s)=true:=by
 simp only [Q9,Bool.and_eq_true,JM,beq_iff_eq] at h;exact h.1.1.2
theorem Qy9 {s:Qc} {x:Yg} (h:Q9 s=true) (hx:QaF s x=true):1≤x.2.length∧(x.2.length:Int)=Jm s∧Qs (gtd [] x.2 0) (QZ (sOps s))=true:=by
 simp only [QaF,Bool.and_eq_true,beq_iff_eq] at hx
 obtain ⟨h1,h2⟩:=hx
 have h3:1≤x.2.length:=by unfold Jm at h1;split at h1 <;> omega
 refine ⟨h3,h1,?_⟩
 unfold YJ at h2
 rw [← h1,Int.toNat_natCast,List.take_length] at h2
 cases hr:x.2 with
 | nil=>rw [hr] at h3;simp at h3
 | cons r rs =>
  rw [hr] at h2
  simp only [Jc,Bool.and_eq_true] at h2
  have hm:=QcC h
  have hl:=YV hm
  have:Qba (sOps s) 0=QZ (sOps s):=by
   unfold Qba QZ
   rw [if_pos (by omega),if_pos hm]
  rw [QcH,← this]
  exact h2.1
theorem QtL:∀ (l:List Yg) (m k:Int),0≤k→JW l m k<k+l.length∧-1≤JW l m k
 | [],m,k,hk=>by simp only [JW,List.length_nil];omega
 | x::r,m,k,hk=>by
  have:=QtL r m (k+1) (by omega)
  simp only [JW,List.length_cons]
  split <;> omega
theorem Qkn (l:List Yg) (m:Int):QS l m<l.length∧-1≤QS l m:=by
 have:=QtL l m 0 (Int.le_refl _)
 unfold QS;omega
theorem QKk (s:Qc) (m:Int) (x t:List Int):sz (YR s m x t)≤sz s+100:=by
 unfold YR
 split
 ·rename_i h
  simp only [Qax,Bool.and_eq_true] at h
  have h1:=QzV h.1.1.1
  have h2:=Qa4 h.1.1.2
  have h3:=Qgn (sOps s) x
  have h4:=Qfs [] (Qx (sOps s) x).1 (sOps s).length
  have h5:sz (if QB s=true then List.take 1 (Qx (sOps s) x).1 else (Qx (sOps s) x).1)≤sz (Qx (sOps s) x).1:=by
   split
   ·exact QkI _ _
   ·exact Nat.le_refl _
  have h6:sz (if Qw s=true then sY s else gtd [] (Qx (sOps s) x).1 (sOps s).length)≤sz (sY s)+sz (gtd [] (Qx (sOps s) x).1 (sOps s).length):=by
   split <;> ((try simp only [sPc,QD,sOps,Qw,QB,Qk,QI,sX,sY,sG,sD,QE,QH,sSat,QO,QF,Qz,QA] at *);omega)
  have h7:(gtd [] (Qx (sOps s) x).1 (sOps s).length).length≤6:=by
   have:gtd [] (Qx (sOps s) x).1 (sOps s).length=ZK (sOps s) x:=rfl
   rw [this]
   have hv:∀ (ops:List TOp') (x:List Int),x.length≤6→(ZK ops x).length≤6:=by
    intro ops
    induction ops with
    | nil=>intro x hx;rw [Qgs];exact hx
    | cons o r ih=>intro x hx;rw [Qfd];exact ih _ (fwd6 o x)
   exact hv _ _ h2
  have h8:=Ja (gtd [] (Qx (sOps s) x).1 (sOps s).length)
  have e:sz ([]:List Int)=0:=rfl
  rw [Yk,Yk s]
  have e3:sz ([]:List Yg)=0:=rfl
  simp only [Qk,sX,Qe1,Jv,Qcu,Yd,e,e3]
  have e2:sz ([]:List Yg)=0:=rfl
  ((try simp only [sPc,QD,sOps,Qw,QB,Qk,QI,sX,sY,sG,sD,QE,QH,sSat,QO,QF,Qz,QA] at *);omega)
 ·((try simp only [sPc,QD,sOps,Qw,QB,Qk,QI,sX,sY,sG,sD,QE,QH,sSat,QO,QF,Qz,QA] at *);omega)
theorem QLZ (s:Qc) (m:Int):sz (Jp s m)≤sz s+100:=by
 unfold Jp
 simp only
 split
 ·rename_i h
  simp only [Bool.and_eq_true,decide_eq_true_eq] at h
  have h1:=QzV h.1
  have hf:=Qkn (Qk s) m
  have hk:(QS (Qk s) m).toNat<(Qk s).length:=by ((try simp only [sPc,QD,sOps,Qw,QB,Qk,QI,sX,sY,sG,sD,QE,QH,sSat,QO,QF,Qz,QA] at *);omega)
  have h2:=Qa4 (Qy9 h.1 (QpZ h.1 _ (JK hk Z5))).2.2
  have h3:=Qgn (sOps s) (gtd [] (gtd Z5 (Qk s) (QS (Qk s) m).toNat).2 0)
  rw [Yk,Yk s]
  ((try simp only [sPc,QD,sOps,Qw,QB,Qk,QI,sX,sY,sG,sD,QE,QH,sSat,QO,QF,Qz,QA] at *);omega)
 ·((try simp only [sPc,QD,sOps,Qw,QB,Qk,QI,sX,sY,sG,sD,QE,QH,sSat,QO,QF,Qz,QA] at *);omega)
theorem QQR (s:Qc) (m:Int) (t:List Int):sz (ZW s m t)≤sz s+100:=by
 unfold ZW
 simp only
 split
 ·rename_i h
  simp only [Qat,Bool.and_eq_true] at h
  have h1:=Qa4 h.2
  have h2:=QM2 (sOps s) (YG s (QS (Qk s) m)) (bwdD s (QS (Qk s) m) t).1
  have h3:=Qty (sSum s).1 (QJ (sOps s) (YG s (QS (Qk s) m)) (bwdD s (QS (Qk s) m) t).1).1
  have h4:=Qnf (Qk s) (QS (Qk s) m).toNat
  have h5:sz (List.drop ((QS (Qk s) m).toNat+1) (Qk s))≤sz (List.drop (QS (Qk s) m).toNat (Qk s)):=by
   rw [← List.drop_drop];exact Qu5 _ _
  have h6:=Ja (QJ (sOps s) (YG s (QS (Qk s) m)) (bwdD s (QS (Qk s) m) t).1).2.1
  have e:sz ([]:List Int)=0:=rfl
  have e2:sz ([]:List (List Int))=0:=rfl
  rw [Yk,Yk s]
  simp only [Qk,QI,sG,QE,Qe1,e,e2,Yr]
  ((try simp only [sPc,QD,sOps,Qw,QB,Qk,QI,sX,sY,sG,sD,QE,QH,sSat,QO,QF,Qz,QA] at *);omega)
 ·((try simp only [sPc,QD,sOps,Qw,QB,Qk,QI,sX,sY,sG,sD,QE,QH,sSat,QO,QF,Qz,QA] at *);omega)
theorem QzR (q:Qe):sz (ZB q).1+sz (ZB q).2.1.2≤sz q:=by
 unfold ZB
 split
 ·rename_i h
  simp only [Bool.and_eq_true,decide_eq_true_eq] at h
  obtain ⟨c,l⟩:=q
  cases l with
  | nil=>simp at h
  | cons x l=>simp only [List.tail_cons,QcH,Qcu,Yd,Jv];rw [YA x,Yd];((try simp only [sPc,QD,sOps,Qw,QB,Qk,QI,sX,sY,sG,sD,QE,QH,sSat,QO,QF,Qz,QA] at *);omega)
 ·have:sz ([]:List Int)=0:=rfl
  simp only;((try simp only [sPc,QD,sOps,Qw,QB,Qk,QI,sX,sY,sG,sD,QE,QH,sSat,QO,QF,Qz,QA] at *);omega)
theorem QwQ (q:Qe) (x:ZJ):sz (YX q x).1≤sz q+1+sz x.2:=by
 unfold YX
 split
 ·have:sz ([]:List ZJ)=0:=rfl
  simp only [Qcu,Qe1,Jv,Yd]
  rw [YA q,Yd,YA x,Yd];((try simp only [sPc,QD,sOps,Qw,QB,Qk,QI,sX,sY,sG,sD,QE,QH,sSat,QO,QF,Qz,QA] at *);omega)
 ·simp only;((try simp only [sPc,QD,sOps,Qw,QB,Qk,QI,sX,sY,sG,sD,QE,QH,sSat,QO,QF,Qz,QA] at *);omega)
theorem QDE (p:Qd) (k:Nat) (x:Qc) (i:TIns):sz (Z8 p k x i).1+sz (Z8 p k x i).2.1+sz (Z8 p k x i).2.2≤sz x+sz (Qz p)+sz (QA p)+100:=by
 have e:sz ([]:List Int)=0:=rfl
 have ed:sz QV=0:=rfl
 unfold Z8
 simp only
 split
 ·have h1:=QzR (gtd QV (Qz p) (k-1))
  have h2:=QdJ QV (ZB (gtd QV (Qz p) (k-1))).1 (Qz p) (k-1)
  have h3:sz (setX x (ZB (gtd QV (Qz p) (k-1))).2.1.2)≤sz x+sz (ZB (gtd QV (Qz p) (k-1))).2.1.2:=by
   rw [Yk,Yk x];simp only [setX];((try simp only [sPc,QD,sOps,Qw,QB,Qk,QI,sX,sY,sG,sD,QE,QH,sSat,QO,QF,Qz,QA] at *);omega)
  simp only;((try simp only [sPc,QD,sOps,Qw,QB,Qk,QI,sX,sY,sG,sD,QE,QH,sSat,QO,QF,Qz,QA] at *);omega)
 split
 ·have h:=QKk x i.2 (if k=0 then (gtd Zm (QO p) i.2.toNat).1 else sX x) (gtd Zm (QO p) i.2.toNat).2
  simp only;((try simp only [sPc,QD,sOps,Qw,QB,Qk,QI,sX,sY,sG,sD,QE,QH,sSat,QO,QF,Qz,QA] at *);omega)
 split
 ·have h1:=QwQ (gtd QV (Qz p) k) (i.2,sY x)
  have h2:=QdJ QV (YX (gtd QV (Qz p) k) (i.2,sY x)).1 (Qz p) k
  have h3:sz (setY x [])+sz (sY x)=sz x:=by rw [Yk,Yk x];simp only [setY,e];((try simp only [sPc,QD,sOps,Qw,QB,Qk,QI,sX,sY,sG,sD,QE,QH,sSat,QO,QF,Qz,QA] at *);omega)
  simp only at h1 ⊢;((try simp only [sPc,QD,sOps,Qw,QB,Qk,QI,sX,sY,sG,sD,QE,QH,sSat,QO,QF,Qz,QA] at *);omega)
 split
 ·have h1:=QzR (gtd QV (QA p) k)
  have h2:=QdJ QV (ZB (gtd QV (QA p) k)).1 (QA p) k
  have h3:sz (setG x (ZB (gtd QV (QA p) k)).2.1.2)≤sz x+sz (ZB (gtd QV (QA p) k)).2.1.2:=by
   rw [Yk,Yk x];simp only [setG];((try simp only [sPc,QD,sOps,Qw,QB,Qk,QI,sX,sY,sG,sD,QE,QH,sSat,QO,QF,Qz,QA] at *);omega)
  simp only;((try simp only [sPc,QD,sOps,Qw,QB,Qk,QI,sX,sY,sG,sD,QE,QH,sSat,QO,QF,Qz,QA] at *);omega)
 split
 ·have h:=QLZ x i.2
  simp only;((try simp only [sPc,QD,sOps,Qw,QB,Qk,QI,sX,sY,sG,sD,QE,QH,sSat,QO,QF,Qz,QA] at *);omega)
 split
 ·have h:=QQR x i.2 (gtd Zm (QO p) i.2.toNat).2
  have h3:∀ y:Qc,sz (setD y [])≤sz y:=by intro y;rw [Yk,Yk y];simp only [setD,e];((try simp only [sPc,QD,sOps,Qw,QB,Qk,QI,sX,sY,sG,sD,QE,QH,sSat,QO,QF,Qz,QA] at *);omega)
  have h4:=h3 (ZW x i.2 (gtd Zm (QO p) i.2.toNat).2)
  simp only
  split <;> ((try simp only [sPc,QD,sOps,Qw,QB,Qk,QI,sX,sY,sG,sD,QE,QH,sSat,QO,QF,Qz,QA] at *);omega)
 split
 ·have h1:=QwQ (gtd QV (QA p) (k-1)) (i.2,sD x)
  have h2:=QdJ QV (YX (gtd QV (QA p) (k-1)) (i.2,sD x)).1 (QA p) (k-1)
  have h3:sz (setD x [])+sz (sD x)=sz x:=by rw [Yk,Yk x];simp only [setD,e];((try simp only [sPc,QD,sOps,Qw,QB,Qk,QI,sX,sY,sG,sD,QE,QH,sSat,QO,QF,Qz,QA] at *);omega)
  simp only at h1 ⊢;((try simp only [sPc,QD,sOps,Qw,QB,Qk,QI,sX,sY,sG,sD,QE,QH,sSat,QO,QF,Qz,QA] at *);omega)
 ·simp only;((try simp only [sPc,QD,sOps,Qw,QB,Qk,QI,sX,sY,sG,sD,QE,QH,sSat,QO,QF,Qz,QA] at *);omega)
theorem QsW (p:Qd) (s:Int):sz (Z3 p s)≤sz p+100:=by
 unfold Z3
 split
 ·have h1:=QDE p s.toNat (gtd QL (QF p) s.toNat) (Qu p s)
  have h2:=QdJ QL (Yo (Z8 p s.toNat (gtd QL (QF p) s.toNat) (Qu p s)).1 (sPc (gtd QL (QF p) s.toNat)+1)) (QF p) s.toNat
  have h3:∀ (y:Qc) (v:Int),sz (Yo y v)=sz y:=by intro y v;rw [Yk,Yk y];rfl
  rw [h3] at h2
  have ed:sz QL=0:=rfl
  rw [Qfg,Qfg p]
  simp only
  ((try simp only [sPc,QD,sOps,Qw,QB,Qk,QI,sX,sY,sG,sD,QE,QH,sSat,QO,QF,Qz,QA] at *);omega)
 ·((try simp only [sPc,QD,sOps,Qw,QB,Qk,QI,sX,sY,sG,sD,QE,QH,sSat,QO,QF,Qz,QA] at *);omega)
theorem QuP:∀ (n k:Nat) (p:Qd),sz (YY k n p)≤sz p+100*n
 | 0,k,p=>by simp [YY]
 | n+1,k,p=>by
  have h1:=QuP n (k+1) (Z3 p (Int.tmod (k:Int) (QF p).length))
  have h2:=QsW p (Int.tmod (k:Int) (QF p).length)
  simp only [YY];((try simp only [sPc,QD,sOps,Qw,QB,Qk,QI,sX,sY,sG,sD,QE,QH,sSat,QO,QF,Qz,QA] at *);omega)
theorem QQP (p:Qd) (n:Int):sz (Jb p n)≤sz p+200000:=by
 unfold Jb
 split
 ·have:=QuP (min n.toNat 2000) 0 p
  ((try simp only [sPc,QD,sOps,Qw,QB,Qk,QI,sX,sY,sG,sD,QE,QH,sSat,QO,QF,Qz,QA] at *);omega)
 ·((try simp only [sPc,QD,sOps,Qw,QB,Qk,QI,sX,sY,sG,sD,QE,QH,sSat,QO,QF,Qz,QA] at *);omega)
end Go.Proofs.YtjbdljkhbglnhaaGreat.Am
namespace Go.Proofs.YtjbdljkhbglnhaaGreat.Am
open Go Sz
theorem Qpc (a b:Int):decide (a≥b) = !decide (a<b):=by
 rw [Bool.eq_iff_iff];simp
theorem QoJ {s:Qc} {m:Int} {x t:List Int} (h:¬ Qax s m x t=true):YR s m x t=s:=by unfold YR;rw [if_neg h]
theorem QQh {s:Qc} {m:Int} (h:¬ (Q9 s&&decide (0≤QS (Qk s) m))=true):Jp s m=s:=by unfold Jp;simp only;rw [if_neg h]
theorem QM5 {s:Qc} {m:Int} {t:List Int} (h:¬ Qat s (QS (Qk s) m) t=true):ZW s m t=s:=by unfold ZW;simp only;rw [if_neg h]
theorem QOB (s:Qc) (m:Int) (x t:List Int):Qax s m x t=(!(((!(Q9 s))||(!(Qs x (QZ (ZR s)))))||decide (QS s.2.2.2.2.2.1 m≥0))&&!(s.2.2.2.1&&(!(Qs t (Q3 (ZR s)))))):=by
 unfold Qax
 rw [Qpc]
 show (Q9 s&&Qs x (QZ (ZR s))&&decide (QS s.2.2.2.2.2.1 m<0)&&(!s.2.2.2.1||Qs t (Q3 (ZR s))))=_
 cases Q9 s <;> cases Qs x (QZ (ZR s)) <;> cases decide (QS s.2.2.2.2.2.1 m<0) <;> cases s.2.2.2.1 <;> cases Qs t (Q3 (ZR s)) <;> rfl
theorem Qxp (s:Qc) (m:Int):((!(Q9 s))||decide (QS s.2.2.2.2.2.1 m<0)) = !(Q9 s&&decide (0≤QS s.2.2.2.2.2.1 m)):=by
 have:=Qpc (QS s.2.2.2.2.2.1 m) 0
 rw [show decide (0≤QS s.2.2.2.2.2.1 m)=decide (QS s.2.2.2.2.2.1 m≥0) from rfl,this]
 cases Q9 s <;> cases decide (QS s.2.2.2.2.2.1 m<0) <;> rfl
theorem QFJ {s:Qc} {m:Int} {x t:List Int} (h:Qax s m x t=true):YR s m x t =
  (sPc s,QD s,sOps s,Qw s,QB s,Qk s++[(m,if QB s then (Qx (sOps s) x).1.take 1 else (Qx (sOps s) x).1)],QI s,[],(if Qw s then sY s else gtd [] (Qx (sOps s) x).1 (sOps s).length),sG s,sD s,QE s,
   (if Qw s then (Zk (QH s) (Yh (gtd [] (Qx (sOps s) x).1 (sOps s).length) t).1).1 else QH s),
   (sSat s||(Qx (sOps s) x).2||(Qw s&&((Yh (gtd [] (Qx (sOps s) x).1 (sOps s).length) t).2||(Zk (QH s) (Yh (gtd [] (Qx (sOps s) x).1 (sOps s).length) t).1).2)))):=by
 unfold YR;rw [if_pos h]
theorem QLL {s:Qc} {m:Int} {t:List Int} {rows:List (List Int)} {d:List Int} {b:Bool} (h:Qat s (QS (Qk s) m) t=true) (hr:rows=YG s (QS (Qk s) m)) (hd:(d,b)=bwdD s (QS (Qk s) m) t):ZW s m t =
  (sPc s,QD s,sOps s,Qw s,QB s,(Qk s).take (QS (Qk s) m).toNat++(Qk s).drop ((QS (Qk s) m).toNat+1),[],sX s,sY s,[],(QJ (sOps s) rows d).2.1,
   (Yr (sSum s) ((QJ (sOps s) rows d).1,0,b||(QJ (sOps s) rows d).2.2)).1,(Yr (sSum s) ((QJ (sOps s) rows d).1,0,b||(QJ (sOps s) rows d).2.2)).2.1,(Yr (sSum s) ((QJ (sOps s) rows d).1,0,b||(QJ (sOps s) rows d).2.2)).2.2):=by
 unfold ZW
 simp only
 rw [if_pos h,← hr,← hd]
theorem Qk9 (s:Qc) (k:Int) (t:List Int):Qat s k t=(Q9 s&&decide (0≤k)&&((YG s k).length==(sOps s).length+1)&&YJ (sOps s) (YG s k) (sOps s).length&&Qs (bwdD s k t).1 (Q3 (sOps s))):=rfl
theorem QJ2 {α:Type} {l:List α} {k:Nat} (hk:k<l.length):List.take (k+(List.take (l.length-(k+1)) (List.drop (k+1) l)).length) (List.take k l++List.take (l.length-(k+1)) (List.drop (k+1) l))=List.take k l++List.drop (k+1) l:=by
 have e:List.take (l.length-(k+1)) (List.drop (k+1) l)=List.drop (k+1) l:=List.take_of_length_le (by simp)
 rw [e]
 exact List.take_of_length_le (by simp;omega)
theorem Qw4 (f:Int→Int→Int) (x:List Int):∀ d:List Int,(d.flatMap fun a=>x.map (f a)).length=d.length*x.length
 | []=>by simp
 | a::d=>by rw [List.flatMap_cons,List.length_append,Qw4 f x d,List.length_map,List.length_cons,Nat.add_mul];omega
theorem QvM (d x:List Int):(ZM d x).1.2.2.length≤36:=by
 unfold ZM
 split
 ·rename_i h
  simp only [Bool.and_eq_true] at h
  have h1:=vec6 h.1
  have h2:=vec6 h.2
  simp only
  rw [Qw4 (fun a b=>(ZT a b).1) x d]
  exact Nat.le_trans (Nat.mul_le_mul h1 h2) (by omega)
 ·simp
theorem QIm (o:TOp') (x d:List Int):(YL o x d).2.1.length≤36:=by
 unfold YL
 split
 ·rename_i h
  simp only [Bool.and_eq_true] at h
  split
  ·exact QvM _ _
  ·split
   ·exact Nat.le_trans (Qa4 h.2) (by omega)
   ·split
    ·simp
    ·split
     ·exact QvM _ _
     ·simp
 ·simp
theorem Qvc:∀ (ops:List TOp') (rows:List (List Int)) (d:List Int),sz (QJ ops rows d).1≤37*ops.length
 | [],rows,d=>by simp [QJ]
 | o::os,[],d=>by simp only [QJ];exact Nat.zero_le _
 | o::os,r::rs,d=>by
  have h1:=QIm o r (QJ os rs d).2.1
  have h2:=Qvc os rs d
  simp only [QJ,Jv,Ja,List.length_cons];omega
end Go.Proofs.YtjbdljkhbglnhaaGreat.Am
namespace Go.Proofs.YtjbdljkhbglnhaaGreat.Am
open Go Sz
theorem Qlf {nb:Int}:∀ {l:List Qc},QaE nb l=true→∀ x,x∈l→Q9 x=true∧∀ i,i∈x.2.1→0≤i.2∧i.2<nb
 | [],_,x,hx=>by cases hx
 | s::r,h,x,hx=>by
  simp only [QaE,Bool.and_eq_true,List.all_eq_true,QR] at h
  rcases List.mem_cons.1 hx with rfl | hx
  ·exact ⟨h.1.1.1,fun i hi=>by have:=h.1.2 i hi;omega⟩
  ·exact Qlf h.2 x hx
theorem QMK {p:Qd} {s:Int} (he:YH p s=true):∃ k:Nat,s=k∧k<p.2.1.length∧p.2.1.length≤4∧p.2.2.1.length+1=p.2.1.length∧p.2.2.2.length+1=p.2.1.length∧Q9 (gtd QL p.2.1 k)=true ∧
  0≤(Qu p s).2∧(Qu p s).2<p.1.length∧((Qu p s).1=1→0<k)∧((Qu p s).1=3→k+1<p.2.1.length)∧((Qu p s).1=4→k+1<p.2.1.length)∧((Qu p s).1=7→0<k) ∧
  ((Qu p s).1=1∨(Qu p s).1=2∨(Qu p s).1=3∨(Qu p s).1=4∨(Qu p s).1=5∨(Qu p s).1=6∨(Qu p s).1=7∨(Qu p s).1=8):=by
 simp only [YH,Bool.and_eq_true] at he
 obtain ⟨⟨h1,h2⟩,h3⟩:=he
 simp only [ZV,Bool.and_eq_true,QR,beq_iff_eq] at h1
 have h2':=QR.1 h2
 obtain ⟨k,rfl⟩:=Int.eq_ofNat_of_zero_le h2'.1
 have hk:k<p.2.1.length:=by omega
 have hg:=Qlf h1.2.2 _ (JK hk QL)
 have hkind:(Qu p (k:Int)).1=1∨(Qu p (k:Int)).1=2∨(Qu p (k:Int)).1=3∨(Qu p (k:Int)).1=4∨(Qu p (k:Int)).1=5∨(Qu p (k:Int)).1=6∨(Qu p (k:Int)).1=7∨(Qu p (k:Int)).1=8:=by
  generalize (Qu p (k:Int)).1=kd at h3
  unfold QaM at h3
  simp only at h3
  split at h3
  ·omega
  split at h3
  ·omega
  split at h3
  ·omega
  split at h3
  ·omega
  split at h3
  ·omega
  split at h3
  ·omega
  ·cases h3
 have hM:0≤(Qu p (k:Int)).2∧(Qu p (k:Int)).2<p.1.length:=by
  have hn:Qu p (k:Int)=QdV (gtd QL p.2.1 k):=by
   unfold Qu;rw [if_pos h2,Int.toNat_natCast]
  rw [hn] at hkind ⊢
  unfold QdV at hkind ⊢
  split
  ·rename_i hpc
   have hpc:=QR.1 hpc
   exact hg.2 _ (JK (by omega) dIns)
  ·rename_i hpc
   rw [if_neg hpc] at hkind
   simp at hkind
 refine ⟨k,rfl,hk,by omega,by omega,by omega,hg.1,hM.1,hM.2,?_,?_,?_,?_,hkind⟩
 all_goals
  intro hkd
  rw [hkd] at h3
  simp [QaM] at h3
  omega
theorem QDD {p:Qd} {s:Int} (h:YH p s=false):Z3 p s=p:=by unfold Z3;rw [if_neg (by rw [h];simp)]
theorem QDo {p:Qd} {k:Nat} {x y:Qc} {a b:List Qe} (h:YH p (k:Int)=true) (hx:x=gtd QL p.2.1 k) (hy:Z8 p k x (Qu p (k:Int))=(y,a,b)) (hpc:y.1=x.1) :
  Z3 p (k:Int)=(p.1,p.2.1.set k (y.1+1,y.2),a,b):=by
 unfold Z3
 rw [if_pos h]
 simp only [Int.toNat_natCast]
 rw [show gtd QL (QF p) k=x from hx.symm,hy]
 simp only
 rw [hpc]
 rfl
theorem QKM (p:Qd) (s:Int):(Z3 p s).2.1.length=p.2.1.length:=by
 unfold Z3;split
 ·simp
 ·rfl
theorem QHd (s:Qc) (m:Int) (x t:List Int):(YR s m x t).1=s.1:=by unfold YR;split <;> rfl
theorem QFo (s:Qc) (m:Int):(Jp s m).1=s.1:=by unfold Jp;simp only;split <;> rfl
theorem QtB (s:Qc) (m:Int) (t:List Int):(ZW s m t).1=s.1:=by unfold ZW;simp only;split <;> rfl
theorem pi1 {p:Qd} {k:Nat} {x:Qc} {i:TIns} (h:i.1=1):Z8 p k x i=(setX x (ZB (gtd QV (Qz p) (k-1))).2.1.2,(Qz p).set (k-1) (ZB (gtd QV (Qz p) (k-1))).1,QA p):=by
 unfold Z8;simp only [h];simp
theorem pi2 {p:Qd} {k:Nat} {x:Qc} {i:TIns} (h:i.1=2):Z8 p k x i=(YR x i.2 (if k=0 then (gtd Zm (QO p) i.2.toNat).1 else sX x) (gtd Zm (QO p) i.2.toNat).2,Qz p,QA p):=by
 unfold Z8;simp only [h];simp
theorem pi3 {p:Qd} {k:Nat} {x:Qc} {i:TIns} (h:i.1=3):Z8 p k x i=(setY x [],(Qz p).set k (YX (gtd QV (Qz p) k) (i.2,sY x)).1,QA p):=by
 unfold Z8;simp only [h];simp
theorem pi4 {p:Qd} {k:Nat} {x:Qc} {i:TIns} (h:i.1=4):Z8 p k x i=(setG x (ZB (gtd QV (QA p) k)).2.1.2,Qz p,(QA p).set k (ZB (gtd QV (QA p) k)).1):=by
 unfold Z8;simp only [h];simp
theorem pi5 {p:Qd} {k:Nat} {x:Qc} {i:TIns} (h:i.1=5):Z8 p k x i=(Jp x i.2,Qz p,QA p):=by
 unfold Z8;simp only [h];simp
theorem pi6 {p:Qd} {k:Nat} {x:Qc} {i:TIns} (h:i.1=6):Z8 p k x i=((if k=0 then setD (ZW x i.2 (gtd Zm (QO p) i.2.toNat).2) [] else ZW x i.2 (gtd Zm (QO p) i.2.toNat).2),Qz p,QA p):=by
 unfold Z8;simp only [h];simp
theorem pi7 {p:Qd} {k:Nat} {x:Qc} {i:TIns} (h:i.1=7):Z8 p k x i=(setD x [],Qz p,(QA p).set (k-1) (YX (gtd QV (QA p) (k-1)) (i.2,sD x)).1):=by
 unfold Z8;simp only [h];simp
theorem pi8 {p:Qd} {k:Nat} {x:Qc} {i:TIns} (h:i.1=8):Z8 p k x i=(x,Qz p,QA p):=by
 unfold Z8;simp only [h];simp
theorem QqG {m:Q5} (h:QN m=true):sz m≤296:=by
 have hl:=YV h
 have hm:=Qor h
 have:∀ l:List TOp',(∀ o,o∈l→Za o=true)→sz l≤37*l.length:=by
  intro l
  induction l with
  | nil=>intro _;exact Nat.zero_le _
  | cons o l ih =>
   intro hh
   have h1:=QjP (hh o (List.mem_cons_self ..))
   have h2:=ih (fun y hy=>hh y (List.mem_cons_of_mem _ hy))
   have h3:=Ja o.2.2.2
   simp only [Jv,YA,Yd,List.length_cons]
   omega
 have:=this m hm
 omega
theorem QzP {m:Q5} {b:List Qj} (h:ZQ m b=true):sz b≤65:=by
 simp only [ZQ,Bool.and_eq_true,QR,List.all_eq_true] at h
 have:∀ l:List Qj,(∀ o,o∈l→Y5 m o=true)→sz l≤13*l.length:=by
  intro l
  induction l with
  | nil=>intro _;exact Nat.zero_le _
  | cons o l ih =>
   intro hh
   have h1:=hh o (List.mem_cons_self ..)
   simp only [Y5,Bool.and_eq_true] at h1
   have h4:=Qa4 h1.1.2
   have h5:=Qa4 h1.2
   have h2:=ih (fun y hy=>hh y (List.mem_cons_of_mem _ hy))
   have h3:=Ja o.1
   have h6:=Ja o.2
   simp only [Jv,YA,List.length_cons]
   omega
 have:=this b h.2
 omega
theorem QFF (l:List TIns):sz l=l.length:=QA1 l (fun _=>rfl)
theorem QIr (ops:Q5) (plan:List TIns) (a b:Bool):sz (Qaq ops plan a b)≤plan.length+600:=by
 unfold Qaq
 split
 ·rename_i h
  have h1:=QqG h
  have h2:=Qv8 h (QJq h)
  have h3:=QFF plan
  have h4:sz (ZO ops).1≤sz (ZO ops):=by simp only [YA];omega
  have e0:sz ([]:List Int)=0:=rfl
  have e1:sz ([]:List (List Int))=0:=rfl
  have e2:sz ([]:List Yg)=0:=rfl
  rw [Yk]
  simp only [QD,sOps,Qk,QI,sX,sY,sG,sD,QE,e0,e1,e2]
  omega
 ·exact Nat.zero_le _
theorem Qma (c:Qo) (n micro:Int):∀ k:Nat,sz (Qan c n micro k)≤700*k
 | 0=>Nat.zero_le _
 | k+1=>by
  have h:=Qma c n micro k
  have e2:sz ([]:List Qc)=0:=rfl
  rw [Qan,Qe1,Jv,e2]
  have h1:=QIr (slice (Q0 c) (Qr (Q0 c) (Q8 c) k).1 (Qr (Q0 c) (Q8 c) k).2) (ZZ (cDs c) n k micro (gtd false (J4 c) k)) (decide ((k:Int)=n-1)) (gtd false (J4 c) k)
  have h2:=Qib (cDs c) n k micro (gtd false (J4 c) k)
  omega
theorem QpJ:∀ l:List Int,sz (l.map fun n=>((n,[]):Qe))=l.length
 | []=>rfl
 | n::l=>by
  have e:sz ([]:List ZJ)=0:=rfl
  simp only [List.map_cons,Jv,Qcu,Yd,QpJ l,e,List.length_cons];omega
theorem QCq (c:Qo) (b:List Qj):sz (Yn c b)≤10000:=by
 unfold Yn
 split
 ·rename_i h
  have A:=QjD h
  have hn:=Qgm A
  have h1:=QzP A.batch
  have h2:=Qma c (QK c) b.length (QK c).toNat
  have h3:=QgE A
  have h4:=QpJ (J2 c)
  have h5:=A.stages
  have h6:nSt c=(Q8 c).length+1:=rfl
  rw [Qfg]
  simp only [QO,QF,Qz,QA]
  omega
 ·exact Nat.zero_le _
end Go.Proofs.YtjbdljkhbglnhaaGreat.Am

