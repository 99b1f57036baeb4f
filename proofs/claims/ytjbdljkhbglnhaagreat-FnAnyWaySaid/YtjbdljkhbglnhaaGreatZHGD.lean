/- -/
import Derived.Test.YtjbdljkhbglnhaaGreatZHGB
import Derived.Test.YtjbdljkhbglnhaaGreatZHGC
set_option linter.all false
namespace Go.Proofs.YtjbdljkhbglnhaaGreat.Am
open Go Sz
def QlX (ops:QU) (plan:List TIns) (_ _:Bool):Prop:=sz ops≤2147483648∧plan.length≤2147483648
def Qgt (s:Qc) (_:Int) (_ _:List Int):Prop:=sz s≤2147483648
def QiN (s:Qc) (_:Int):Prop:=sz s≤2147483648
def QiE (s:Qc) (_:Int) (_:List Int):Prop:=sz s≤2147483648
def Qnx (p:Qr) (_:Int):Prop:=sz p≤1073741824
def Qnq (p:Qr):Prop:=sz p≤2147483648∧Qnc p
def JB (c:Ql) (b:List Qd):QZ × Int:=(if Zj c b=0 then Qa1 (QV c) b else Qfj,Zj c b)
theorem Yl (s:Qc):sz s=sz (QG s)+sz (sOps s)+sz (Qi s)+sz (QK s)+sz (sX s)+sz (sY s)+sz (sG s)+sz (sD s)+sz (QD s):=by
 simp only [YB,Yb,Qa3];((try simp only [sPc,QG,sOps,Qu,QF,Qi,QK,sX,sY,sG,sD,QD,QC,sSat,QN,QE,Qz,QA] at *);omega)
theorem Qd4 (p:Qr):sz p=sz (QN p)+sz (QE p)+sz (Qz p)+sz (QA p):=by
 simp only [YB];((try simp only [sPc,QG,sOps,Qu,QF,Qi,QK,sX,sY,sG,sD,QD,QC,sSat,QN,QE,Qz,QA] at *);omega)
theorem QBW (m:QU):(ZU m).2=(0,false):=by unfold ZU;split <;> rfl
theorem Qef {α:Type} [Sz α] (d:α) (v:α):∀ (l:List α) (i:Nat),sz (l.set i v)+sz (gtd d l i)≤sz l+sz v+sz d
 | [],i=>by simp [gtd]
 | x::l,0=>by simp only [List.set_cons_zero,Jg,Qbg];omega
 | x::l,i+1=>by
  have:=Qef d v l i
  simp only [List.set_cons_succ,Jg,QFY];omega
theorem Qfc {α:Type} [Sz α] (d:α) (l:List α) (i:Nat):sz (gtd d l i)≤sz l+sz d:=by
 by_cases h:i<l.length
 ·have:=Qnp (Y7 h d);omega
 ·have:gtd d l i=d:=by simp [gtd,List.getD_eq_getElem?_getD,List.getElem?_eq_none (Nat.le_of_not_lt h)]
  rw [this];omega
theorem vec6 {v:List Int} (h:Q8 v=true):v.length≤6:=by
 simp only [Q8,Bool.and_eq_true,QJ] at h;omega
theorem Qbn {v:List Int} {n:Int} (h:Qs v n=true):v.length≤6:=by
 simp only [Qs,Bool.and_eq_true] at h;exact vec6 h.1
theorem QmN (f:Int→Int→Int × Bool):∀ (a b:List Int),(vz f a b).1.length≤a.length
 | [],b=>by simp [vz]
 | a::aa,[]=>by simp [vz]
 | a::aa,b::bb=>by simp only [vz,List.length_cons];have:=QmN f aa bb;omega
theorem QsY (f:Int→Int × Bool):∀ (a:List Int),(v1 f a).1.length≤a.length
 | []=>by simp [v1]
 | a::aa=>by simp only [v1,List.length_cons];have:=QsY f aa;omega
theorem Qui {a b:List Int} (h:Ya a b=true):a.length≤6:=by
 simp only [Ya,Bool.and_eq_true] at h;exact vec6 h.1
theorem QmM (a b:List Int):(ZY a b).1.length≤6:=by
 unfold ZY
 split
 ·rename_i h;have:=QmN Zl a b;have:=Qui h;omega
 ·simp
theorem QpE (c:Int) (a:List Int):(Yy c a).1.length≤6:=by
 unfold Yy
 split
 ·rename_i h
  simp only [Bool.and_eq_true] at h
  have:=QsY (ZV c) a;have:=vec6 h.2;omega
 ·simp
theorem QGx (a:List Int):(Jn a).length≤6:=by
 unfold Jn
 split
 ·rename_i h;simp;exact vec6 h
 ·simp
theorem QAL (x d:List Int):(Jo x d).length≤6:=by
 unfold Jo
 split
 ·rename_i h;have:=Qui h;simp;omega
 ·simp
theorem QB9 (m:TMat) (x:List Int):(ZM m x).1.length≤6:=by
 unfold ZM
 split
 ·rename_i h
  simp only [Bool.and_eq_true,ZQ,QJ] at h
  simp;omega
 ·simp
theorem QCS (m:TMat) (x:List Int):(Z5 m x).1.length≤6:=by
 unfold Z5
 split
 ·rename_i h
  simp only [Bool.and_eq_true,ZQ,QJ] at h
  simp;omega
 ·simp
theorem fwd6 (o:TOp') (x:List Int):(Y4 o x).1.length≤6:=by
 unfold Y4
 split
 ·split
  ·exact QB9 _ _
  ·split
   ·exact QmM _ _
   ·split
    ·exact QpE _ _
    ·split
     ·exact QmM _ _
     ·exact QGx _
 ·simp
theorem bwd6 (o:TOp') (x d:List Int):(YS o x d).1.length≤6:=by
 unfold YS
 split
 ·rename_i h
  simp only [Bool.and_eq_true] at h
  split
  ·exact QCS _ _
  ·split
   ·exact Qbn h.2
   ·split
    ·exact QpE _ _
    ·split
     ·exact QmM _ _
     ·exact QAL _ _
 ·simp
theorem QIP:∀ (ops:List TOp') (rows:List (List Int)) (d:List Int),(QM ops rows d).2.1.length≤6+d.length
 | [],rows,d=>by simp [QM]
 | o::os,[],d=>by simp [QM]
 | o::os,r::rs,d=>by simp only [QM];have:=bwd6 o r (QM os rs d).2.1;omega
theorem Qhs:∀ (ops:List TOp') (x:List Int),sz (Qy ops x).1≤1+x.length+7*ops.length
 | [],x=>by simp only [Qy,Jg,Je,List.length_nil];have:sz ([]:List (List Int))=0:=rfl;omega
 | o::r,x=>by
  have h1:=Qhs r (Y4 o x).1
  have h2:=fwd6 o x
  simp only [Qy,Jg,Je,List.length_cons];omega
theorem QpL:∀ (a b:List (List Int)),sz (Zg a b).1≤sz a
 | [],b=>by simp [Zg]
 | a::aa,[]=>by simp only [Zg];exact Nat.zero_le _
 | a::aa,b::bb=>by
  have h1:=QpL aa bb
  have h2:=QmN Zl a b
  simp only [Zg,Jg,Je];omega
theorem QcJ {s:Qc} (h:Zc s=true):Qw (sOps s)=true:=by
 simp only [Zc,Bool.and_eq_true] at h;exact h.1.1.1.1
theorem Qpi {s:Qc} (h:Zc s=true):(sOps s).length≤8:=(Yx (QcJ h)).2
theorem QrU {s:Qc} (h:Zc s=true):0≤sPc s∧sPc s≤(QG s).length:=by
 simp only [Zc,Bool.and_eq_true,QJ] at h;exact h.1.1.1.2
theorem Qrf {s:Qc} (h:Zc s=true):∀ x,x∈Qi s→QaT s x=true:=by
 simp only [Zc,Bool.and_eq_true,List.all_eq_true] at h;exact h.1.2
theorem QIc {s:Qc} (h:Zc s=true):(QD s).length=(sOps s).length∧ZP (sOps s) (QD s)=true:=by
 simp only [Zc,Bool.and_eq_true,JF,beq_iff_eq] at h;exact h.1.1.2
theorem Qvq {s:Qc} {x:Yi} (h:Zc s=true) (hx:QaT s x=true):1≤x.2.length∧(x.2.length:Int)=Jh s∧Qs (gtd [] x.2 0) (QX (sOps s))=true:=by
 simp only [QaT,Bool.and_eq_true,beq_iff_eq] at hx
 obtain ⟨h1,h2⟩:=hx
 have h3:1≤x.2.length:=by unfold Jh at h1;split at h1 <;> omega
 refine ⟨h3,h1,?_⟩
 unfold YK at h2
 rw [← h1,Int.toNat_natCast,List.take_length] at h2
 cases hr:x.2 with
 | nil=>rw [hr] at h3;simp at h3
 | cons r rs =>
  rw [hr] at h2
  simp only [Jd,Bool.and_eq_true] at h2
  have hm:=QcJ h
  have hl:=Yx hm
  have:Qa6 (sOps s) 0=QX (sOps s):=by
   unfold Qa6 QX
   rw [if_pos (by omega),if_pos hm]
  rw [Qbg,← this]
  exact h2.1
theorem QuT:∀ (l:List Yi) (m k:Int),0≤k→J4 l m k<k+l.length∧-1≤J4 l m k
 | [],m,k,hk=>by simp only [J4,List.length_nil];omega
 | x::r,m,k,hk=>by
  have:=QuT r m (k+1) (by omega)
  simp only [J4,List.length_cons]
  split <;> omega
theorem Qnk (l:List Yi) (m:Int):QR l m<l.length∧-1≤QR l m:=by
 have:=QuT l m 0 (Int.le_refl _)
 unfold QR;omega
theorem QLv (s:Qc) (m:Int) (x t:List Int):sz (YW s m x t)≤sz s+100:=by
 unfold YW
 split
 ·rename_i h
  simp only [Qaw,Bool.and_eq_true] at h
  have h1:=Qpi h.1.1.1
  have h2:=Qbn h.1.1.2
  have h3:=Qhs (sOps s) x
  have h4:=Qfc [] (Qy (sOps s) x).1 (sOps s).length
  have h5:sz (if QF s=true then List.take 1 (Qy (sOps s) x).1 else (Qy (sOps s) x).1)≤sz (Qy (sOps s) x).1:=by
   split
   ·exact QmR _ _
   ·exact Nat.le_refl _
  have h6:sz (if Qu s=true then sY s else gtd [] (Qy (sOps s) x).1 (sOps s).length)≤sz (sY s)+sz (gtd [] (Qy (sOps s) x).1 (sOps s).length):=by
   split <;> ((try simp only [sPc,QG,sOps,Qu,QF,Qi,QK,sX,sY,sG,sD,QD,QC,sSat,QN,QE,Qz,QA] at *);omega)
  have h7:(gtd [] (Qy (sOps s) x).1 (sOps s).length).length≤6:=by
   have:gtd [] (Qy (sOps s) x).1 (sOps s).length=ZK (sOps s) x:=rfl
   rw [this]
   have hv:∀ (ops:List TOp') (x:List Int),x.length≤6→(ZK ops x).length≤6:=by
    intro ops
    induction ops with
    | nil=>intro x hx;rw [Qgu];exact hx
    | cons o r ih=>intro x hx;rw [QeS];exact ih _ (fwd6 o x)
   exact hv _ _ h2
  have h8:=Je (gtd [] (Qy (sOps s) x).1 (sOps s).length)
  have e:sz ([]:List Int)=0:=rfl
  rw [Yl,Yl s]
  have e3:sz ([]:List Yi)=0:=rfl
  simp only [Qi,sX,Qe3,Jg,QcR,Yb,e,e3]
  have e2:sz ([]:List Yi)=0:=rfl
  ((try simp only [sPc,QG,sOps,Qu,QF,Qi,QK,sX,sY,sG,sD,QD,QC,sSat,QN,QE,Qz,QA] at *);omega)
 ·((try simp only [sPc,QG,sOps,Qu,QF,Qi,QK,sX,sY,sG,sD,QD,QC,sSat,QN,QE,Qz,QA] at *);omega)
theorem QOU (s:Qc) (m:Int):sz (Jk s m)≤sz s+100:=by
 unfold Jk
 simp only
 split
 ·rename_i h
  simp only [Bool.and_eq_true,decide_eq_true_eq] at h
  have h1:=Qpi h.1
  have hf:=Qnk (Qi s) m
  have hk:(QR (Qi s) m).toNat<(Qi s).length:=by ((try simp only [sPc,QG,sOps,Qu,QF,Qi,QK,sX,sY,sG,sD,QD,QC,sSat,QN,QE,Qz,QA] at *);omega)
  have h2:=Qbn (Qvq h.1 (Qrf h.1 _ (Y7 hk YC))).2.2
  have h3:=Qhs (sOps s) (gtd [] (gtd YC (Qi s) (QR (Qi s) m).toNat).2 0)
  rw [Yl,Yl s]
  ((try simp only [sPc,QG,sOps,Qu,QF,Qi,QK,sX,sY,sG,sD,QD,QC,sSat,QN,QE,Qz,QA] at *);omega)
 ·((try simp only [sPc,QG,sOps,Qu,QF,Qi,QK,sX,sY,sG,sD,QD,QC,sSat,QN,QE,Qz,QA] at *);omega)
theorem QMO (s:Qc) (m:Int) (t:List Int):sz (Z3 s m t)≤sz s+100:=by
 unfold Z3
 simp only
 split
 ·rename_i h
  simp only [QaK,Bool.and_eq_true] at h
  have h1:=Qbn h.2
  have h2:=QIP (sOps s) (YL s (QR (Qi s) m)) (bwdD s (QR (Qi s) m) t).1
  have h3:=QpL (sSum s).1 (QM (sOps s) (YL s (QR (Qi s) m)) (bwdD s (QR (Qi s) m) t).1).1
  have h4:=Qkv (Qi s) (QR (Qi s) m).toNat
  have h5:sz (List.drop ((QR (Qi s) m).toNat+1) (Qi s))≤sz (List.drop (QR (Qi s) m).toNat (Qi s)):=by
   rw [← List.drop_drop];exact QuW _ _
  have h6:=Je (QM (sOps s) (YL s (QR (Qi s) m)) (bwdD s (QR (Qi s) m) t).1).2.1
  have e:sz ([]:List Int)=0:=rfl
  have e2:sz ([]:List (List Int))=0:=rfl
  rw [Yl,Yl s]
  simp only [Qi,QK,sG,QD,Qe3,e,e2,Ym]
  ((try simp only [sPc,QG,sOps,Qu,QF,Qi,QK,sX,sY,sG,sD,QD,QC,sSat,QN,QE,Qz,QA] at *);omega)
 ·((try simp only [sPc,QG,sOps,Qu,QF,Qi,QK,sX,sY,sG,sD,QD,QC,sSat,QN,QE,Qz,QA] at *);omega)
theorem QwN (q:Qm):sz (ZH q).1+sz (ZH q).2.1.2≤sz q:=by
 unfold ZH
 split
 ·rename_i h
  simp only [Bool.and_eq_true,decide_eq_true_eq] at h
  obtain ⟨c,l⟩:=q
  cases l with
  | nil=>simp at h
  | cons x l=>simp only [List.tail_cons,Qbg,QcR,Yb,Jg];rw [YB x,Yb];((try simp only [sPc,QG,sOps,Qu,QF,Qi,QK,sX,sY,sG,sD,QD,QC,sSat,QN,QE,Qz,QA] at *);omega)
 ·have:sz ([]:List Int)=0:=rfl
  simp only;((try simp only [sPc,QG,sOps,Qu,QF,Qi,QK,sX,sY,sG,sD,QD,QC,sSat,QN,QE,Qz,QA] at *);omega)
theorem QpN (q:Qm) (x:Z8):sz (Y2 q x).1≤sz q+1+sz x.2:=by
 unfold Y2
 split
 ·have:sz ([]:List Z8)=0:=rfl
  simp only [QcR,Qe3,Jg,Yb]
  rw [YB q,Yb,YB x,Yb];((try simp only [sPc,QG,sOps,Qu,QF,Qi,QK,sX,sY,sG,sD,QD,QC,sSat,QN,QE,Qz,QA] at *);omega)
 ·simp only;((try simp only [sPc,QG,sOps,Qu,QF,Qi,QK,sX,sY,sG,sD,QD,QC,sSat,QN,QE,Qz,QA] at *);omega)
theorem QLt (p:Qr) (k:Nat) (x:Qc) (i:TIns):sz (Z6 p k x i).1+sz (Z6 p k x i).2.1+sz (Z6 p k x i).2.2≤sz x+sz (Qz p)+sz (QA p)+100:=by
 have e:sz ([]:List Int)=0:=rfl
 have ed:sz QW=0:=rfl
 unfold Z6
 simp only
 split
 ·have h1:=QwN (gtd QW (Qz p) (k-1))
  have h2:=Qef QW (ZH (gtd QW (Qz p) (k-1))).1 (Qz p) (k-1)
  have h3:sz (setX x (ZH (gtd QW (Qz p) (k-1))).2.1.2)≤sz x+sz (ZH (gtd QW (Qz p) (k-1))).2.1.2:=by
   rw [Yl,Yl x];simp only [setX];((try simp only [sPc,QG,sOps,Qu,QF,Qi,QK,sX,sY,sG,sD,QD,QC,sSat,QN,QE,Qz,QA] at *);omega)
  simp only;((try simp only [sPc,QG,sOps,Qu,QF,Qi,QK,sX,sY,sG,sD,QD,QC,sSat,QN,QE,Qz,QA] at *);omega)
 split
 ·have h:=QLv x i.2 (if k=0 then (gtd Zn (QN p) i.2.toNat).1 else sX x) (gtd Zn (QN p) i.2.toNat).2
  simp only;((try simp only [sPc,QG,sOps,Qu,QF,Qi,QK,sX,sY,sG,sD,QD,QC,sSat,QN,QE,Qz,QA] at *);omega)
 split
 ·have h1:=QpN (gtd QW (Qz p) k) (i.2,sY x)
  have h2:=Qef QW (Y2 (gtd QW (Qz p) k) (i.2,sY x)).1 (Qz p) k
  have h3:sz (setY x [])+sz (sY x)=sz x:=by rw [Yl,Yl x];simp only [setY,e];((try simp only [sPc,QG,sOps,Qu,QF,Qi,QK,sX,sY,sG,sD,QD,QC,sSat,QN,QE,Qz,QA] at *);omega)
  simp only at h1 ⊢;((try simp only [sPc,QG,sOps,Qu,QF,Qi,QK,sX,sY,sG,sD,QD,QC,sSat,QN,QE,Qz,QA] at *);omega)
 split
 ·have h1:=QwN (gtd QW (QA p) k)
  have h2:=Qef QW (ZH (gtd QW (QA p) k)).1 (QA p) k
  have h3:sz (setG x (ZH (gtd QW (QA p) k)).2.1.2)≤sz x+sz (ZH (gtd QW (QA p) k)).2.1.2:=by
   rw [Yl,Yl x];simp only [setG];((try simp only [sPc,QG,sOps,Qu,QF,Qi,QK,sX,sY,sG,sD,QD,QC,sSat,QN,QE,Qz,QA] at *);omega)
  simp only;((try simp only [sPc,QG,sOps,Qu,QF,Qi,QK,sX,sY,sG,sD,QD,QC,sSat,QN,QE,Qz,QA] at *);omega)
 split
 ·have h:=QOU x i.2
  simp only;((try simp only [sPc,QG,sOps,Qu,QF,Qi,QK,sX,sY,sG,sD,QD,QC,sSat,QN,QE,Qz,QA] at *);omega)
 split
 ·have h:=QMO x i.2 (gtd Zn (QN p) i.2.toNat).2
  have h3:∀ y:Qc,sz (setD y [])≤sz y:=by intro y;rw [Yl,Yl y];simp only [setD,e];((try simp only [sPc,QG,sOps,Qu,QF,Qi,QK,sX,sY,sG,sD,QD,QC,sSat,QN,QE,Qz,QA] at *);omega)
  have h4:=h3 (Z3 x i.2 (gtd Zn (QN p) i.2.toNat).2)
  simp only
  split <;> ((try simp only [sPc,QG,sOps,Qu,QF,Qi,QK,sX,sY,sG,sD,QD,QC,sSat,QN,QE,Qz,QA] at *);omega)
 split
 ·have h1:=QpN (gtd QW (QA p) (k-1)) (i.2,sD x)
  have h2:=Qef QW (Y2 (gtd QW (QA p) (k-1)) (i.2,sD x)).1 (QA p) (k-1)
  have h3:sz (setD x [])+sz (sD x)=sz x:=by rw [Yl,Yl x];simp only [setD,e];((try simp only [sPc,QG,sOps,Qu,QF,Qi,QK,sX,sY,sG,sD,QD,QC,sSat,QN,QE,Qz,QA] at *);omega)
  simp only at h1 ⊢;((try simp only [sPc,QG,sOps,Qu,QF,Qi,QK,sX,sY,sG,sD,QD,QC,sSat,QN,QE,Qz,QA] at *);omega)
 ·simp only;((try simp only [sPc,QG,sOps,Qu,QF,Qi,QK,sX,sY,sG,sD,QD,QC,sSat,QN,QE,Qz,QA] at *);omega)
theorem QL4 (p:Qr) (s:Int):sz (Yg p s)≤sz p+100:=by
 unfold Yg
 split
 ·have h1:=QLt p s.toNat (gtd QQ (QE p) s.toNat) (Qt p s)
  have h2:=Qef QQ (Yq (Z6 p s.toNat (gtd QQ (QE p) s.toNat) (Qt p s)).1 (sPc (gtd QQ (QE p) s.toNat)+1)) (QE p) s.toNat
  have h3:∀ (y:Qc) (v:Int),sz (Yq y v)=sz y:=by intro y v;rw [Yl,Yl y];rfl
  rw [h3] at h2
  have ed:sz QQ=0:=rfl
  rw [Qd4,Qd4 p]
  simp only
  ((try simp only [sPc,QG,sOps,Qu,QF,Qi,QK,sX,sY,sG,sD,QD,QC,sSat,QN,QE,Qz,QA] at *);omega)
 ·((try simp only [sPc,QG,sOps,Qu,QF,Qi,QK,sX,sY,sG,sD,QD,QC,sSat,QN,QE,Qz,QA] at *);omega)
theorem QqH:∀ (n k:Nat) (p:Qr),sz (ZE k n p)≤sz p+100*n
 | 0,k,p=>by simp [ZE]
 | n+1,k,p=>by
  have h1:=QqH n (k+1) (Yg p (Int.tmod (k:Int) (QE p).length))
  have h2:=QL4 p (Int.tmod (k:Int) (QE p).length)
  simp only [ZE];((try simp only [sPc,QG,sOps,Qu,QF,Qi,QK,sX,sY,sG,sD,QD,QC,sSat,QN,QE,Qz,QA] at *);omega)
end Go.Proofs.YtjbdljkhbglnhaaGreat.Am
namespace Go.Proofs.YtjbdljkhbglnhaaGreat.Am
open Go Sz
theorem Qtf (a b:Int):decide (a≥b) = !decide (a<b):=by
 rw [Bool.eq_iff_iff];simp
theorem QrY {s:Qc} {m:Int} {x t:List Int} (h:¬ Qaw s m x t=true):YW s m x t=s:=by unfold YW;rw [if_neg h]
theorem QFy {s:Qc} {m:Int} (h:¬ (Zc s&&decide (0≤QR (Qi s) m))=true):Jk s m=s:=by unfold Jk;simp only;rw [if_neg h]
theorem QQM {s:Qc} {m:Int} {t:List Int} (h:¬ QaK s (QR (Qi s) m) t=true):Z3 s m t=s:=by unfold Z3;simp only;rw [if_neg h]
theorem QGv (s:Qc) (m:Int) (x t:List Int):Qaw s m x t=(!(((!(Zc s))||(!(Qs x (QX (ZW s)))))||decide (QR s.2.2.2.2.2.1 m≥0))&&!(s.2.2.2.1&&(!(Qs t (Q1 (ZW s)))))):=by
 unfold Qaw
 rw [Qtf]
 show (Zc s&&Qs x (QX (ZW s))&&decide (QR s.2.2.2.2.2.1 m<0)&&(!s.2.2.2.1||Qs t (Q1 (ZW s))))=_
 cases Zc s <;> cases Qs x (QX (ZW s)) <;> cases decide (QR s.2.2.2.2.2.1 m<0) <;> cases s.2.2.2.1 <;> cases Qs t (Q1 (ZW s)) <;> rfl
theorem Qpn (s:Qc) (m:Int):((!(Zc s))||decide (QR s.2.2.2.2.2.1 m<0)) = !(Zc s&&decide (0≤QR s.2.2.2.2.2.1 m)):=by
 have:=Qtf (QR s.2.2.2.2.2.1 m) 0
 rw [show decide (0≤QR s.2.2.2.2.2.1 m)=decide (QR s.2.2.2.2.2.1 m≥0) from rfl,this]
 cases Zc s <;> cases decide (QR s.2.2.2.2.2.1 m<0) <;> rfl
theorem QMC {s:Qc} {m:Int} {x t:List Int} (h:Qaw s m x t=true):YW s m x t =
  (sPc s,QG s,sOps s,Qu s,QF s,Qi s++[(m,if QF s then (Qy (sOps s) x).1.take 1 else (Qy (sOps s) x).1)],QK s,[],(if Qu s then sY s else gtd [] (Qy (sOps s) x).1 (sOps s).length),sG s,sD s,QD s,
   (if Qu s then (Zl (QC s) (Yh (gtd [] (Qy (sOps s) x).1 (sOps s).length) t).1).1 else QC s),
   (sSat s||(Qy (sOps s) x).2||(Qu s&&((Yh (gtd [] (Qy (sOps s) x).1 (sOps s).length) t).2||(Zl (QC s) (Yh (gtd [] (Qy (sOps s) x).1 (sOps s).length) t).1).2)))):=by
 unfold YW;rw [if_pos h]
theorem QAi {s:Qc} {m:Int} {t:List Int} {rows:List (List Int)} {d:List Int} {b:Bool} (h:QaK s (QR (Qi s) m) t=true) (hr:rows=YL s (QR (Qi s) m)) (hd:(d,b)=bwdD s (QR (Qi s) m) t):Z3 s m t =
  (sPc s,QG s,sOps s,Qu s,QF s,(Qi s).take (QR (Qi s) m).toNat++(Qi s).drop ((QR (Qi s) m).toNat+1),[],sX s,sY s,[],(QM (sOps s) rows d).2.1,
   (Ym (sSum s) ((QM (sOps s) rows d).1,0,b||(QM (sOps s) rows d).2.2)).1,(Ym (sSum s) ((QM (sOps s) rows d).1,0,b||(QM (sOps s) rows d).2.2)).2.1,(Ym (sSum s) ((QM (sOps s) rows d).1,0,b||(QM (sOps s) rows d).2.2)).2.2):=by
 unfold Z3
 simp only
 rw [if_pos h,← hr,← hd]
theorem QnT (s:Qc) (k:Int) (t:List Int):QaK s k t=(Zc s&&decide (0≤k)&&((YL s k).length==(sOps s).length+1)&&YK (sOps s) (YL s k) (sOps s).length&&Qs (bwdD s k t).1 (Q1 (sOps s))):=rfl
theorem QCt {α:Type} {l:List α} {k:Nat} (hk:k<l.length):List.take (k+(List.take (l.length-(k+1)) (List.drop (k+1) l)).length) (List.take k l++List.take (l.length-(k+1)) (List.drop (k+1) l))=List.take k l++List.drop (k+1) l:=by
 have e:List.take (l.length-(k+1)) (List.drop (k+1) l)=List.drop (k+1) l:=List.take_of_length_le (by simp)
 rw [e]
 exact List.take_of_length_le (by simp;omega)
theorem Qq3 (f:Int→Int→Int) (x:List Int):∀ d:List Int,(d.flatMap fun a=>x.map (f a)).length=d.length*x.length
 | []=>by simp
 | a::d=>by rw [List.flatMap_cons,List.length_append,Qq3 f x d,List.length_map,List.length_cons,Nat.add_mul];omega
theorem Qtu (d x:List Int):(ZT d x).1.2.2.length≤36:=by
 unfold ZT
 split
 ·rename_i h
  simp only [Bool.and_eq_true] at h
  have h1:=vec6 h.1
  have h2:=vec6 h.2
  simp only
  rw [Qq3 (fun a b=>(ZV a b).1) x d]
  exact Nat.le_trans (Nat.mul_le_mul h1 h2) (by omega)
 ·simp
theorem QIJ (o:TOp') (x d:List Int):(YS o x d).2.1.length≤36:=by
 unfold YS
 split
 ·rename_i h
  simp only [Bool.and_eq_true] at h
  split
  ·exact Qtu _ _
  ·split
   ·exact Nat.le_trans (Qbn h.2) (by omega)
   ·split
    ·simp
    ·split
     ·exact Qtu _ _
     ·simp
 ·simp
theorem QwL:∀ (ops:List TOp') (rows:List (List Int)) (d:List Int),sz (QM ops rows d).1≤37*ops.length
 | [],rows,d=>by simp [QM]
 | o::os,[],d=>by simp only [QM];exact Nat.zero_le _
 | o::os,r::rs,d=>by
  have h1:=QIJ o r (QM os rs d).2.1
  have h2:=QwL os rs d
  simp only [QM,Jg,Je,List.length_cons];omega
end Go.Proofs.YtjbdljkhbglnhaaGreat.Am
namespace Go.Proofs.YtjbdljkhbglnhaaGreat.Am
open Go Sz
theorem Qly {nb:Int}:∀ {l:List Qc},QaH nb l=true→∀ x,x∈l→Zc x=true∧∀ i,i∈x.2.1→0≤i.2∧i.2<nb
 | [],_,x,hx=>by cases hx
 | s::r,h,x,hx=>by
  simp only [QaH,Bool.and_eq_true,List.all_eq_true,QJ] at h
  rcases List.mem_cons.1 hx with rfl | hx
  ·exact ⟨h.1.1.1,fun i hi=>by have:=h.1.2 i hi;omega⟩
  ·exact Qly h.2 x hx
theorem QBq {p:Qr} {s:Int} (he:YF p s=true):∃ k:Nat,s=k∧k<p.2.1.length∧p.2.1.length≤4∧p.2.2.1.length+1=p.2.1.length∧p.2.2.2.length+1=p.2.1.length∧Zc (gtd QQ p.2.1 k)=true ∧
  0≤(Qt p s).2∧(Qt p s).2<p.1.length∧((Qt p s).1=1→0<k)∧((Qt p s).1=3→k+1<p.2.1.length)∧((Qt p s).1=4→k+1<p.2.1.length)∧((Qt p s).1=7→0<k) ∧
  ((Qt p s).1=1∨(Qt p s).1=2∨(Qt p s).1=3∨(Qt p s).1=4∨(Qt p s).1=5∨(Qt p s).1=6∨(Qt p s).1=7∨(Qt p s).1=8):=by
 simp only [YF,Bool.and_eq_true] at he
 obtain ⟨⟨h1,h2⟩,h3⟩:=he
 simp only [ZZ,Bool.and_eq_true,QJ,beq_iff_eq] at h1
 have h2':=QJ.1 h2
 obtain ⟨k,rfl⟩:=Int.eq_ofNat_of_zero_le h2'.1
 have hk:k<p.2.1.length:=by omega
 have hg:=Qly h1.2.2 _ (Y7 hk QQ)
 have hkind:(Qt p (k:Int)).1=1∨(Qt p (k:Int)).1=2∨(Qt p (k:Int)).1=3∨(Qt p (k:Int)).1=4∨(Qt p (k:Int)).1=5∨(Qt p (k:Int)).1=6∨(Qt p (k:Int)).1=7∨(Qt p (k:Int)).1=8:=by
  generalize (Qt p (k:Int)).1=kd at h3
  unfold QaQ at h3
  simp only at h3
  split at h3
  ·omega
  split at h3
  ·omega
  split at h3
  ·omega
  split at h3
  ·omega
  split at h3
  ·omega
  split at h3
  ·omega
  ·cases h3
 have hM:0≤(Qt p (k:Int)).2∧(Qt p (k:Int)).2<p.1.length:=by
  have hn:Qt p (k:Int)=Qee (gtd QQ p.2.1 k):=by
   unfold Qt;rw [if_pos h2,Int.toNat_natCast]
  rw [hn] at hkind ⊢
  unfold Qee at hkind ⊢
  split
  ·rename_i hpc
   have hpc:=QJ.1 hpc
   exact hg.2 _ (Y7 (by omega) dIns)
  ·rename_i hpc
   rw [if_neg hpc] at hkind
   simp at hkind
 refine ⟨k,rfl,hk,by omega,by omega,by omega,hg.1,hM.1,hM.2,?_,?_,?_,?_,hkind⟩
 all_goals
  intro hkd
  rw [hkd] at h3
  simp [QaQ] at h3
  omega
theorem QEX {p:Qr} {s:Int} (h:YF p s=false):Yg p s=p:=by unfold Yg;rw [if_neg (by rw [h];simp)]
theorem QFj {p:Qr} {k:Nat} {x y:Qc} {a b:List Qm} (h:YF p (k:Int)=true) (hx:x=gtd QQ p.2.1 k) (hy:Z6 p k x (Qt p (k:Int))=(y,a,b)) (hpc:y.1=x.1) :
  Yg p (k:Int)=(p.1,p.2.1.set k (y.1+1,y.2),a,b):=by
 unfold Yg
 rw [if_pos h]
 simp only [Int.toNat_natCast]
 rw [show gtd QQ (QE p) k=x from hx.symm,hy]
 simp only
 rw [hpc]
 rfl
theorem QBN (s:Qc) (m:Int) (x t:List Int):(YW s m x t).1=s.1:=by unfold YW;split <;> rfl
theorem QJu (s:Qc) (m:Int):(Jk s m).1=s.1:=by unfold Jk;simp only;split <;> rfl
theorem QyE (s:Qc) (m:Int) (t:List Int):(Z3 s m t).1=s.1:=by unfold Z3;simp only;split <;> rfl
theorem pi1 {p:Qr} {k:Nat} {x:Qc} {i:TIns} (h:i.1=1):Z6 p k x i=(setX x (ZH (gtd QW (Qz p) (k-1))).2.1.2,(Qz p).set (k-1) (ZH (gtd QW (Qz p) (k-1))).1,QA p):=by
 unfold Z6;simp only [h];simp
theorem pi2 {p:Qr} {k:Nat} {x:Qc} {i:TIns} (h:i.1=2):Z6 p k x i=(YW x i.2 (if k=0 then (gtd Zn (QN p) i.2.toNat).1 else sX x) (gtd Zn (QN p) i.2.toNat).2,Qz p,QA p):=by
 unfold Z6;simp only [h];simp
theorem pi3 {p:Qr} {k:Nat} {x:Qc} {i:TIns} (h:i.1=3):Z6 p k x i=(setY x [],(Qz p).set k (Y2 (gtd QW (Qz p) k) (i.2,sY x)).1,QA p):=by
 unfold Z6;simp only [h];simp
theorem pi4 {p:Qr} {k:Nat} {x:Qc} {i:TIns} (h:i.1=4):Z6 p k x i=(setG x (ZH (gtd QW (QA p) k)).2.1.2,Qz p,(QA p).set k (ZH (gtd QW (QA p) k)).1):=by
 unfold Z6;simp only [h];simp
theorem pi5 {p:Qr} {k:Nat} {x:Qc} {i:TIns} (h:i.1=5):Z6 p k x i=(Jk x i.2,Qz p,QA p):=by
 unfold Z6;simp only [h];simp
theorem pi6 {p:Qr} {k:Nat} {x:Qc} {i:TIns} (h:i.1=6):Z6 p k x i=((if k=0 then setD (Z3 x i.2 (gtd Zn (QN p) i.2.toNat).2) [] else Z3 x i.2 (gtd Zn (QN p) i.2.toNat).2),Qz p,QA p):=by
 unfold Z6;simp only [h];simp
theorem pi7 {p:Qr} {k:Nat} {x:Qc} {i:TIns} (h:i.1=7):Z6 p k x i=(setD x [],Qz p,(QA p).set (k-1) (Y2 (gtd QW (QA p) (k-1)) (i.2,sD x)).1):=by
 unfold Z6;simp only [h];simp
theorem pi8 {p:Qr} {k:Nat} {x:Qc} {i:TIns} (h:i.1=8):Z6 p k x i=(x,Qz p,QA p):=by
 unfold Z6;simp only [h];simp
theorem QuK {m:QU} (h:Qw m=true):sz m≤296:=by
 have hl:=Yx h
 have hm:=QlL h
 have:∀ l:List TOp',(∀ o,o∈l→Q7 o=true)→sz l≤37*l.length:=by
  intro l
  induction l with
  | nil=>intro _;exact Nat.zero_le _
  | cons o l ih =>
   intro hh
   have h1:=QnD (hh o (List.mem_cons_self ..))
   have h2:=ih (fun y hy=>hh y (List.mem_cons_of_mem _ hy))
   have h3:=Je o.2.2.2
   simp only [Jg,YB,Yb,List.length_cons]
   omega
 have:=this m hm
 omega
theorem Qw8 {m:QU} {b:List Qd} (h:ZC m b=true):sz b≤65:=by
 simp only [ZC,Bool.and_eq_true,QJ,List.all_eq_true] at h
 have:∀ l:List Qd,(∀ o,o∈l→Yn m o=true)→sz l≤13*l.length:=by
  intro l
  induction l with
  | nil=>intro _;exact Nat.zero_le _
  | cons o l ih =>
   intro hh
   have h1:=hh o (List.mem_cons_self ..)
   simp only [Yn,Bool.and_eq_true] at h1
   have h4:=Qbn h1.1.2
   have h5:=Qbn h1.2
   have h2:=ih (fun y hy=>hh y (List.mem_cons_of_mem _ hy))
   have h3:=Je o.1
   have h6:=Je o.2
   simp only [Jg,YB,List.length_cons]
   omega
 have:=this b h.2
 omega
theorem QKS (l:List TIns):sz l=l.length:=QKN l (fun _=>rfl)
theorem QLE (ops:QU) (plan:List TIns) (a b:Bool):sz (Qay ops plan a b)≤plan.length+600:=by
 unfold Qay
 split
 ·rename_i h
  have h1:=QuK h
  have h2:=QtE h (QtO h)
  have h3:=QKS plan
  have h4:sz (ZU ops).1≤sz (ZU ops):=by simp only [YB];omega
  have e0:sz ([]:List Int)=0:=rfl
  have e1:sz ([]:List (List Int))=0:=rfl
  have e2:sz ([]:List Yi)=0:=rfl
  rw [Yl]
  simp only [QG,sOps,Qi,QK,sX,sY,sG,sD,QD,e0,e1,e2]
  omega
 ·exact Nat.zero_le _
theorem Ql1 (c:Ql) (n micro:Int):∀ k:Nat,sz (Qar c n micro k)≤700*k
 | 0=>Nat.zero_le _
 | k+1=>by
  have h:=Ql1 c n micro k
  have e2:sz ([]:List Qc)=0:=rfl
  rw [Qar,Qe3,Jg,e2]
  have h1:=QLE (slice (QV c) (Qp (QV c) (Q3 c) k).1 (Qp (QV c) (Q3 c) k).2) (Z7 (cDs c) n k micro (gtd false (JW c) k)) (decide ((k:Int)=n-1)) (gtd false (JW c) k)
  have h2:=Qqq (cDs c) n k micro (gtd false (JW c) k)
  omega
theorem QxV:∀ l:List Int,sz (l.map fun n=>((n,[]):Qm))=l.length
 | []=>rfl
 | n::l=>by
  have e:sz ([]:List Z8)=0:=rfl
  simp only [List.map_cons,Jg,QcR,Yb,QxV l,e,List.length_cons];omega
theorem QI8 (c:Ql) (b:List Qd):sz (Zr c b)≤10000:=by
 unfold Zr
 split
 ·rename_i h
  have A:=Qi8 h
  have hn:=Qjh A
  have h1:=Qw8 A.batch
  have h2:=Ql1 c (QH c) b.length (QH c).toNat
  have h3:=QgS A
  have h4:=QxV (Jr c)
  have h5:=A.stages
  have h6:nSt c=(Q3 c).length+1:=rfl
  rw [Qd4]
  simp only [QN,QE,Qz,QA]
  omega
 ·exact Nat.zero_le _
end Go.Proofs.YtjbdljkhbglnhaaGreat.Am

