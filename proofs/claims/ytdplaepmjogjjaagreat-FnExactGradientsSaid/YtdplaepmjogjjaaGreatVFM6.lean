/- -/
import Derived.Test.YtdplaepmjogjjaaGreatVFM5
set_option linter.all false
namespace Go.Proofs.YtdplaepmjogjjaaGreat.Am
open Go Sz
def w9(ops:Zo)(ew:List bE)(_ _:Bool):Prop:=sz ops<=2147483648/\ew.length<=2147483648
def oP(s:Qc)(_:Int)(_ _:List Int):Prop:=sz s<=2147483648
def rV(s:Qc)(_:Int):Prop:=sz s<=2147483648
def rW(s:Qc)(_:Int)(_:List Int):Prop:=sz s<=2147483648
def uT(p:Ql)(_:Int):Prop:=sz p<=1073741824
def Ro(p:Ql)(_:Int):Prop:=sz p<=536870912
def xa(p:Ql):Prop:=sz p<=2147483648/\oC p
def Yi(c:QC)(b:List Qi):QL × Int:=(if Zp c b=0 then oE (Q8 c) b else t6,Zp c b)
theorem Z3(s:Qc):sz s=sz (Qx s)+sz (aM s)+sz (Qe s)+sz (Qz s)+sz (sX s)+sz (sY s)+sz (sG s)+sz (sD s)+sz (Qt s):=by
 simp only[Q9,Q1,ZJ];((try simp only[bT,Qx,aM,Qn,Qq,Qe,Qz,sX,sY,sG,sD,Qt,Qo,bg,QB,Qu,Qv,Qw]at *);omega)
theorem qp(p:Ql):sz p=sz (QB p)+sz (Qu p)+sz (Qv p)+sz (Qw p):=by
 simp only[Q9];((try simp only[bT,Qx,aM,Qn,Qq,Qe,Qz,sX,sY,sG,sD,Qt,Qo,bg,QB,Qu,Qv,Qw]at *);omega)
theorem QDv(m:Zo):(ZA m).2=(0,false):=by unfold ZA;split <;> rfl
theorem xc{α:Type}[Sz α](d:α)(v:α):∀(l:List α)(i:Nat),sz (l.set i v)+sz (aq d l i)<=sz l+sz v+sz d
 | [],i=>by simp[aq]
 | x::l,0=>by simp only[List.set_cons_zero,YZ,rp];omega
 | x::l,i+1=>by
  have:=xc d v l i;simp only[List.set_cons_succ,YZ,Q0c];omega
theorem qs{α:Type}[Sz α](d:α)(l:List α)(i:Nat):sz (aq d l i)<=sz l+sz d:=by
 by_cases h:i<l.length
 ·have:=C6 (Js h d);omega
 ·have:aq d l i=d:=by simp[aq,List.getD_eq_getElem?_getD,List.getElem?_eq_none (Nat.le_of_not_lt h)]
  rw[this];omega
theorem lU{v:List Int}(h:QH v=true):v.length<=6:=by
 simp only[QH,Bool.and_eq_true,QW]at h;omega
theorem Jy{v:List Int}{n:Int}(h:Qr v n=true):v.length<=6:=by
 simp only[Qr,Bool.and_eq_true]at h;exact lU h.1
theorem Rp(f:Int->Int->Int × Bool):∀(a b:List Int),(vz f a b).1.length<=a.length
 | [],b=>by simp[vz]
 | a::aa,[]=>by simp[vz]
 | a::aa,b::bb=>by simp only[vz,List.length_cons];have:=Rp f aa bb;omega
theorem Qvc(f:Int->Int × Bool):∀(a:List Int),(v1 f a).1.length<=a.length
 | []=>by simp[v1]
 | a::aa=>by simp only[v1,List.length_cons];have:=Qvc f aa;omega
theorem Qxi{a b:List Int}(h:ZG a b=true):a.length<=6:=by
 simp only[ZG,Bool.and_eq_true]at h;exact lU h.1
theorem Rq(a b:List Int):(Zt a b).1.length<=6:=by
 unfold Zt
 split
 ·rename_i h;have:=Rp Q4 a b;have:=Qxi h;omega
 ·simp
theorem Qv3(c:Int)(a:List Int):(ZQ c a).1.length<=6:=by
 unfold ZQ
 split
 ·rename_i h;simp only[Bool.and_eq_true]at h;have:=Qvc (Zm c) a;have:=lU h.2;omega
 ·simp
theorem Q2g(a:List Int):(Yx a).length<=6:=by
 unfold Yx
 split
 ·rename_i h;simp;exact lU h
 ·simp
theorem QOv(x d:List Int):(Yw x d).length<=6:=by
 unfold Yw
 split
 ·rename_i h;have:=Qxi h;simp;omega
 ·simp
theorem Q15(m:cm)(x:List Int):(Zi m x).1.length<=6:=by
 unfold Zi
 split
 ·rename_i h;simp only[Bool.and_eq_true,Zw,QW]at h;simp;omega
 ·simp
theorem Q0E(m:cm)(x:List Int):(ZB m x).1.length<=6:=by
 unfold ZB
 split
 ·rename_i h;simp only[Bool.and_eq_true,Zw,QW]at h;simp;omega
 ·simp
theorem Bo(o:aE)(x:List Int):(Yr o x).1.length<=6:=by
 unfold Yr
 split
 ·split
  ·exact Q15 _ _
  ·split
   ·exact Rq _ _
   ·split
    ·exact Qv3 _ _
    ·split
     ·exact Rq _ _
     ·exact Q2g _
 ·simp
theorem Rr(o:aE)(x d:List Int):(Ym o x d).1.length<=6:=by
 unfold Ym
 split
 ·rename_i h;simp only[Bool.and_eq_true]at h
  split
  ·exact Q0E _ _
  ·split
   ·exact Jy h.2
   ·split
    ·exact Qv3 _ _
    ·split
     ·exact Rq _ _
     ·exact QOv _ _
 ·simp
theorem Q22:∀(ops:List aE)(rows:List (List Int))(d:List Int),(QN ops rows d).2.1.length<=6+d.length
 | [],rows,d=>by simp[QN]
 | o::os,[],d=>by simp[QN]
 | o::os,r::rs,d=>by simp only[QN];have:=Rr o r (QN os rs d).2.1;omega
theorem Bp:∀(ops:List aE)(x:List Int),sz (QF ops x).1<=1+x.length+7*ops.length
 | [],x=>by simp only[QF,YZ,ZR,List.length_nil];have:sz ([]:List (List Int))=0:=rfl;omega
 | o::r,x=>by
  have h1:=Bp r (Yr o x).1;have h2:=Bo o x;simp only[QF,YZ,ZR,List.length_cons];omega
theorem Rs:∀(a b:List (List Int)),sz (Zg a b).1<=sz a
 | [],b=>by simp[Zg]
 | a::aa,[]=>by simp only[Zg];exact Nat.zero_le _
 | a::aa,b::bb=>by
  have h1:=Rs aa bb;have h2:=Rp Q4 a b;simp only[Zg,YZ,ZR];omega
theorem JL{s:Qc}(h:QU s=true):QS (aM s)=true:=by
 simp only[QU,Bool.and_eq_true]at h;exact h.1.1.1.1
theorem QF2{s:Qc}(h:QU s=true):(aM s).length<=8:=(Yp (JL h)).2
theorem Rt{s:Qc}(h:QU s=true):0<=bT s/\bT s<=(Qx s).length:=by
 simp only[QU,Bool.and_eq_true,QW]at h;exact h.1.1.1.2
theorem Ru{s:Qc}(h:QU s=true):∀ x,x∈Qe s->YC s x=true:=by
 simp only[QU,Bool.and_eq_true,List.all_eq_true]at h;exact h.1.2
theorem QxR{s:Qc}(h:QU s=true):(Qt s).length=(aM s).length/\Z1 (aM s) (Qt s)=true:=by
 simp only[QU,Bool.and_eq_true,Jo,beq_iff_eq]at h;exact h.1.1.2
theorem Rv{s:Qc}{x:ZI}(h:QU s=true)(hx:YC s x=true):1<=x.2.length/\(x.2.length:Int)=Z4 s/\Qr (aq [] x.2 0) (Zn (aM s))=true:=by
 simp only[YC,Bool.and_eq_true,beq_iff_eq]at hx;obtain⟨h1,h2⟩:=hx;have h3:1<=x.2.length:=by unfold Z4 at h1;split at h1 <;> omega
 refine⟨h3,h1,?_⟩;unfold Yg at h2;rw[<- h1,Int.toNat_natCast,List.take_length]at h2
 cases hr:x.2 with
 | nil=>rw[hr]at h3;simp at h3
 | cons r rs =>
  rw[hr]at h2;simp only[Yd,Bool.and_eq_true]at h2;have hm:=JL h;have hl:=Yp hm;have:Je (aM s) 0=Zn (aM s):=by
   unfold Je Zn;rw[if_pos (by omega),if_pos hm]
  rw[rp,<- this];exact h2.1
theorem QEg:∀(l:List ZI)(m k:Int),0<=k->Jr l m k<k+l.length/\-1<=Jr l m k
 | [],m,k,hk=>by simp only[Jr,List.length_nil];omega
 | x::r,m,k,hk=>by
  have:=QEg r m (k+1) (by omega);simp only[Jr,List.length_cons]
  split <;> omega
theorem Bq(l:List ZI)(m:Int):QJ l m<l.length/\-1<=QJ l m:=by
 have:=QEg l m 0 (Int.le_refl _);unfold QJ;omega
theorem QRF(s:Qc)(m:Int)(x t:List Int):sz (Yl s m x t)<=sz s+100:=by
 unfold Yl
 split
 ·rename_i h;simp only[JB,Bool.and_eq_true]at h;have h1:=QF2 h.1.1.1;have h2:=Jy h.1.1.2;have h3:=Bp (aM s) x;have h4:=qs [] (QF (aM s) x).1 (aM s).length;have h5:sz (if Qq s=true then List.take 1 (QF (aM s) x).1 else(QF (aM s) x).1)<=sz (QF (aM s) x).1:=by
   split
   ·exact zA _ _
   ·exact Nat.le_refl _
  have h6:sz (if Qn s=true then sY s else aq [] (QF (aM s) x).1 (aM s).length)<=sz (sY s)+sz (aq [] (QF (aM s) x).1 (aM s).length):=by
   split <;> ((try simp only[bT,Qx,aM,Qn,Qq,Qe,Qz,sX,sY,sG,sD,Qt,Qo,bg,QB,Qu,Qv,Qw]at *);omega)
  have h7:(aq [] (QF (aM s) x).1 (aM s).length).length<=6:=by
   have:aq [] (QF (aM s) x).1 (aM s).length=ZX (aM s) x:=rfl;rw[this];have hv:∀(ops:List aE)(x:List Int),x.length<=6->(ZX ops x).length<=6:=by
    intro ops
    induction ops with
    | nil=>intro x hx;rw[Dg];exact hx
    | cons o r ih=>intro x hx;rw[zP];exact ih _ (Bo o x)
   exact hv _ _ h2
  have h8:=ZR (aq [] (QF (aM s) x).1 (aM s).length);have e:sz ([]:List Int)=0:=rfl;rw[Z3,Z3 s];have e3:sz ([]:List ZI)=0:=rfl;simp only[Qe,sX,zy,YZ,JA,Q1,e,e3];have e2:sz ([]:List ZI)=0:=rfl
  ((try simp only[bT,Qx,aM,Qn,Qq,Qe,Qz,sX,sY,sG,sD,Qt,Qo,bg,QB,Qu,Qv,Qw]at *);omega)
 ·((try simp only[bT,Qx,aM,Qn,Qq,Qe,Qz,sX,sY,sG,sD,Qt,Qo,bg,QB,Qu,Qv,Qw]at *);omega)
theorem QUb(s:Qc)(m:Int):sz (YI s m)<=sz s+100:=by
 unfold YI;simp only
 split
 ·rename_i h;simp only[Bool.and_eq_true,decide_eq_true_eq]at h;have h1:=QF2 h.1;have hf:=Bq (Qe s) m;have hk:(QJ (Qe s) m).toNat<(Qe s).length:=by((try simp only[bT,Qx,aM,Qn,Qq,Qe,Qz,sX,sY,sG,sD,Qt,Qo,bg,QB,Qu,Qv,Qw]at *);omega)
  have h2:=Jy (Rv h.1 (Ru h.1 _ (Js hk Zb))).2.2;have h3:=Bp (aM s) (aq [] (aq Zb (Qe s) (QJ (Qe s) m).toNat).2 0);rw[Z3,Z3 s]
  ((try simp only[bT,Qx,aM,Qn,Qq,Qe,Qz,sX,sY,sG,sD,Qt,Qo,bg,QB,Qu,Qv,Qw]at *);omega)
 ·((try simp only[bT,Qx,aM,Qn,Qq,Qe,Qz,sX,sY,sG,sD,Qt,Qo,bg,QB,Qu,Qv,Qw]at *);omega)
theorem Q3P(s:Qc)(m:Int)(t:List Int):sz (ZM s m t)<=sz s+100:=by
 unfold ZM;simp only
 split
 ·rename_i h;simp only[YW,Bool.and_eq_true]at h;have h1:=Jy h.2;have h2:=Q22 (aM s) (ZD s (QJ (Qe s) m)) (eP s (QJ (Qe s) m) t).1;have h3:=Rs (kC s).1 (QN (aM s) (ZD s (QJ (Qe s) m)) (eP s (QJ (Qe s) m) t).1).1;have h4:=K2 (Qe s) (QJ (Qe s) m).toNat
  have h5:sz (List.drop ((QJ (Qe s) m).toNat+1) (Qe s))<=sz (List.drop (QJ (Qe s) m).toNat (Qe s)):=by
   rw[<- List.drop_drop];exact K3 _ _
  have h6:=ZR (QN (aM s) (ZD s (QJ (Qe s) m)) (eP s (QJ (Qe s) m) t).1).2.1;have e:sz ([]:List Int)=0:=rfl;have e2:sz ([]:List (List Int))=0:=rfl;rw[Z3,Z3 s];simp only[Qe,Qz,sG,Qt,zy,e,e2,Z6]
  ((try simp only[bT,Qx,aM,Qn,Qq,Qe,Qz,sX,sY,sG,sD,Qt,Qo,bg,QB,Qu,Qv,Qw]at *);omega)
 ·((try simp only[bT,Qx,aM,Qn,Qq,Qe,Qz,sX,sY,sG,sD,Qt,Qo,bg,QB,Qu,Qv,Qw]at *);omega)
theorem QBe(q:Qd):sz (Zq q).1+sz (Zq q).2.1.2<=sz q:=by
 unfold Zq
 split
 ·rename_i h;simp only[Bool.and_eq_true,decide_eq_true_eq]at h;obtain⟨c,l⟩:=q
  cases l with
  | nil=>simp at h
  | cons x l=>simp only[List.tail_cons,rp,JA,Q1,YZ];rw[Q9 x,Q1];((try simp only[bT,Qx,aM,Qn,Qq,Qe,Qz,sX,sY,sG,sD,Qt,Qo,bg,QB,Qu,Qv,Qw]at *);omega)
 ·have:sz ([]:List Int)=0:=rfl;simp only;((try simp only[bT,Qx,aM,Qn,Qq,Qe,Qz,sX,sY,sG,sD,Qt,Qo,bg,QB,Qu,Qv,Qw]at *);omega)
theorem QDH(q:Qd)(x:Zl):sz (Yn q x).1<=sz q+1+sz x.2:=by
 unfold Yn
 split
 ·have:sz ([]:List Zl)=0:=rfl;simp only[JA,zy,YZ,Q1];rw[Q9 q,Q1,Q9 x,Q1];((try simp only[bT,Qx,aM,Qn,Qq,Qe,Qz,sX,sY,sG,sD,Qt,Qo,bg,QB,Qu,Qv,Qw]at *);omega)
 ·simp only;((try simp only[bT,Qx,aM,Qn,Qq,Qe,Qz,sX,sY,sG,sD,Qt,Qo,bg,QB,Qu,Qv,Qw]at *);omega)
theorem QMY(p:Ql)(k:Nat)(x:Qc)(i:bE):sz (Yc p k x i).1+sz (Yc p k x i).2.1+sz (Yc p k x i).2.2<=sz x+sz (Qv p)+sz (Qw p)+100:=by
 have e:sz ([]:List Int)=0:=rfl;have ed:sz QI=0:=rfl;unfold Yc;simp only
 split
 ·have h1:=QBe (aq QI (Qv p) (k-1));have h2:=xc QI (Zq (aq QI (Qv p) (k-1))).1 (Qv p) (k-1);have h3:sz (f6 x (Zq (aq QI (Qv p) (k-1))).2.1.2)<=sz x+sz (Zq (aq QI (Qv p) (k-1))).2.1.2:=by
   rw[Z3,Z3 x];simp only[f6];((try simp only[bT,Qx,aM,Qn,Qq,Qe,Qz,sX,sY,sG,sD,Qt,Qo,bg,QB,Qu,Qv,Qw]at *);omega)
  simp only;((try simp only[bT,Qx,aM,Qn,Qq,Qe,Qz,sX,sY,sG,sD,Qt,Qo,bg,QB,Qu,Qv,Qw]at *);omega)
 split
 ·have h:=QRF x i.2 (if k=0 then(aq QP (QB p) i.2.toNat).1 else sX x) (aq QP (QB p) i.2.toNat).2;simp only;((try simp only[bT,Qx,aM,Qn,Qq,Qe,Qz,sX,sY,sG,sD,Qt,Qo,bg,QB,Qu,Qv,Qw]at *);omega)
 split
 ·have h1:=QDH (aq QI (Qv p) k) (i.2,sY x);have h2:=xc QI (Yn (aq QI (Qv p) k) (i.2,sY x)).1 (Qv p) k;have h3:sz (f7 x [])+sz (sY x)=sz x:=by rw[Z3,Z3 x];simp only[f7,e];((try simp only[bT,Qx,aM,Qn,Qq,Qe,Qz,sX,sY,sG,sD,Qt,Qo,bg,QB,Qu,Qv,Qw]at *);omega)
  simp only at h1 ⊢;((try simp only[bT,Qx,aM,Qn,Qq,Qe,Qz,sX,sY,sG,sD,Qt,Qo,bg,QB,Qu,Qv,Qw]at *);omega)
 split
 ·have h1:=QBe (aq QI (Qw p) k);have h2:=xc QI (Zq (aq QI (Qw p) k)).1 (Qw p) k;have h3:sz (f9 x (Zq (aq QI (Qw p) k)).2.1.2)<=sz x+sz (Zq (aq QI (Qw p) k)).2.1.2:=by
   rw[Z3,Z3 x];simp only[f9];((try simp only[bT,Qx,aM,Qn,Qq,Qe,Qz,sX,sY,sG,sD,Qt,Qo,bg,QB,Qu,Qv,Qw]at *);omega)
  simp only;((try simp only[bT,Qx,aM,Qn,Qq,Qe,Qz,sX,sY,sG,sD,Qt,Qo,bg,QB,Qu,Qv,Qw]at *);omega)
 split
 ·have h:=QUb x i.2;simp only;((try simp only[bT,Qx,aM,Qn,Qq,Qe,Qz,sX,sY,sG,sD,Qt,Qo,bg,QB,Qu,Qv,Qw]at *);omega)
 split
 ·have h:=Q3P x i.2 (aq QP (QB p) i.2.toNat).2;have h3:∀ y:Qc,sz (eE y [])<=sz y:=by intro y;rw[Z3,Z3 y];simp only[eE,e];((try simp only[bT,Qx,aM,Qn,Qq,Qe,Qz,sX,sY,sG,sD,Qt,Qo,bg,QB,Qu,Qv,Qw]at *);omega)
  have h4:=h3 (ZM x i.2 (aq QP (QB p) i.2.toNat).2);simp only
  split <;> ((try simp only[bT,Qx,aM,Qn,Qq,Qe,Qz,sX,sY,sG,sD,Qt,Qo,bg,QB,Qu,Qv,Qw]at *);omega)
 split
 ·have h1:=QDH (aq QI (Qw p) (k-1)) (i.2,sD x);have h2:=xc QI (Yn (aq QI (Qw p) (k-1)) (i.2,sD x)).1 (Qw p) (k-1);have h3:sz (eE x [])+sz (sD x)=sz x:=by rw[Z3,Z3 x];simp only[eE,e];((try simp only[bT,Qx,aM,Qn,Qq,Qe,Qz,sX,sY,sG,sD,Qt,Qo,bg,QB,Qu,Qv,Qw]at *);omega)
  simp only at h1 ⊢;((try simp only[bT,Qx,aM,Qn,Qq,Qe,Qz,sX,sY,sG,sD,Qt,Qo,bg,QB,Qu,Qv,Qw]at *);omega)
 ·simp only;((try simp only[bT,Qx,aM,Qn,Qq,Qe,Qz,sX,sY,sG,sD,Qt,Qo,bg,QB,Qu,Qv,Qw]at *);omega)
theorem QDN(p:Ql)(s:Int):sz (ZU p s)<=sz p+100:=by
 unfold ZU
 split
 ·have h1:=QMY p s.toNat (aq QE (Qu p) s.toNat) (Qk p s)
  have h2:=xc QE (YB (Yc p s.toNat (aq QE (Qu p) s.toNat) (Qk p s)).1 (bT (aq QE (Qu p) s.toNat)+1)) (Qu p) s.toNat
  have h3:∀(y:Qc)(v:Int),sz (YB y v)=sz y:=by intro y v;rw[Z3,Z3 y];rfl
  rw[h3]at h2;have ed:sz QE=0:=rfl;rw[qp,qp p];simp only
  ((try simp only[bT,Qx,aM,Qn,Qq,Qe,Qz,sX,sY,sG,sD,Qt,Qo,bg,QB,Qu,Qv,Qw]at *);omega)
 ·((try simp only[bT,Qx,aM,Qn,Qq,Qe,Qz,sX,sY,sG,sD,Qt,Qo,bg,QB,Qu,Qv,Qw]at *);omega)
theorem Rw:∀(n k:Nat)(p:Ql),sz (ZH k n p)<=sz p+100*n
 | 0,k,p=>by simp[ZH]
 | n+1,k,p=>by
  have h1:=Rw n (k+1) (ZU p (Int.tmod (k:Int) (Qu p).length));have h2:=QDN p (Int.tmod (k:Int) (Qu p).length);simp only[ZH];((try simp only[bT,Qx,aM,Qn,Qq,Qe,Qz,sX,sY,sG,sD,Qt,Qo,bg,QB,Qu,Qv,Qw]at *);omega)
theorem Q3Z(p:Ql)(n:Int):sz (Jv p n)<=sz p+200000:=by
 unfold Jv
 split
 ·have:=Rw (min n.toNat 2000) 0 p
  ((try simp only[bT,Qx,aM,Qn,Qq,Qe,Qz,sX,sY,sG,sD,Qt,Qo,bg,QB,Qu,Qv,Qw]at *);omega)
 ·((try simp only[bT,Qx,aM,Qn,Qq,Qe,Qz,sX,sY,sG,sD,Qt,Qo,bg,QB,Qu,Qv,Qw]at *);omega)
end Go.Proofs.YtdplaepmjogjjaaGreat.Am
namespace Go.Proofs.YtdplaepmjogjjaaGreat.Am
open Go Sz
theorem Rx(a b:Int):decide (a>=b) = !decide (a<b):=by
 rw[Bool.eq_iff_iff];simp
theorem Ry{s:Qc}{m:Int}{x t:List Int}(h:¬ JB s m x t=true):Yl s m x t=s:=by unfold Yl;rw[if_neg h]
theorem QDU{s:Qc}{m:Int}(h:¬ (QU s&&decide (0<=QJ (Qe s) m))=true):YI s m=s:=by unfold YI;simp only;rw[if_neg h]
theorem Qwo{s:Qc}{m:Int}{t:List Int}(h:¬ YW s (QJ (Qe s) m) t=true):ZM s m t=s:=by unfold ZM;simp only;rw[if_neg h]
theorem QVl{m:Zo}(h:QS m=true):Zn m=(aq bY m 0).2.1:=by unfold Zn;rw[if_pos h]
theorem QAY{m:Zo}(h:QS m=true):Za m=(aq bY m (m.length-1)).2.2.1:=by unfold Za;rw[if_pos h]
theorem QEX(s:Qc)(m:Int)(x t:List Int):JB s m x t=(!(((!(QU s))||(!(Qr x (Zn (ZF s)))))||decide (QJ s.2.2.2.2.2.1 m>=0))&&!(s.2.2.2.1&&(!(Qr t (Za (ZF s)))))):=by
 unfold JB;rw[Rx];show(QU s&&Qr x (Zn (ZF s))&&decide (QJ s.2.2.2.2.2.1 m<0)&&(!s.2.2.2.1||Qr t (Za (ZF s))))=_
 cases QU s <;> cases Qr x (Zn (ZF s)) <;> cases decide (QJ s.2.2.2.2.2.1 m<0) <;> cases s.2.2.2.1 <;> cases Qr t (Za (ZF s)) <;> rfl
theorem QV3(s:Qc)(m:Int)(x t:List Int)(k:Nat)(hk:QU s=true->k=s.2.2.1.length-1) :
  (((((!(QU s))||(!(QH x)))||((x.length:Int) != ((aq bY s.2.2.1 0).2.1)))||decide (QJ s.2.2.2.2.2.1 m>=0))||(s.2.2.2.1&&((!(QH t))||((t.length:Int) != ((aq bY s.2.2.1 k).2.2.1))))) = !JB s m x t:=by
 rw[QEX,Rx]
 cases hs:QU s
 ·rfl
 ·have hm:=JL hs;rw[hk hs,show ZF s=s.2.2.1 from rfl,QVl hm,QAY hm];unfold Qr;simp only[bne]
  cases QH x <;> cases((x.length:Int)==(aq bY s.2.2.1 0).2.1) <;> cases decide (QJ s.2.2.2.2.2.1 m<0) <;> cases s.2.2.2.1 <;> cases QH t <;> cases((t.length:Int)==(aq bY s.2.2.1 (s.2.2.1.length-1)).2.2.1) <;> rfl
theorem Gg(s:Qc)(m:Int):((!(QU s))||decide (QJ s.2.2.2.2.2.1 m<0)) = !(QU s&&decide (0<=QJ s.2.2.2.2.2.1 m)):=by
 have:=Rx (QJ s.2.2.2.2.2.1 m) 0;rw[show decide (0<=QJ s.2.2.2.2.2.1 m)=decide (QJ s.2.2.2.2.2.1 m>=0) from rfl,this]
 cases QU s <;> cases decide (QJ s.2.2.2.2.2.1 m<0) <;> rfl
theorem QFw{s:Qc}{m:Int}{x t:List Int}(h:JB s m x t=true):Yl s m x t =
  (bT s,Qx s,aM s,Qn s,Qq s,Qe s++[(m,if Qq s then(QF (aM s) x).1.take 1 else(QF (aM s) x).1)],Qz s,[],(if Qn s then sY s else aq [] (QF (aM s) x).1 (aM s).length),sG s,sD s,Qt s,
   (if Qn s then(Q4 (Qo s) (ZO (aq [] (QF (aM s) x).1 (aM s).length) t).1).1 else Qo s),
   (bg s||(QF (aM s) x).2||(Qn s&&((ZO (aq [] (QF (aM s) x).1 (aM s).length) t).2||(Q4 (Qo s) (ZO (aq [] (QF (aM s) x).1 (aM s).length) t).1).2)))):=by
 unfold Yl;rw[if_pos h]
theorem Br{s:Qc}{m:Int}{t:List Int}{rows:List (List Int)}{d:List Int}{b:Bool}(h:YW s (QJ (Qe s) m) t=true)(hr:rows=ZD s (QJ (Qe s) m))(hd:(d,b)=eP s (QJ (Qe s) m) t):ZM s m t =
  (bT s,Qx s,aM s,Qn s,Qq s,(Qe s).take (QJ (Qe s) m).toNat++(Qe s).drop ((QJ (Qe s) m).toNat+1),[],sX s,sY s,[],(QN (aM s) rows d).2.1,
   (Z6 (kC s) ((QN (aM s) rows d).1,0,b||(QN (aM s) rows d).2.2)).1,(Z6 (kC s) ((QN (aM s) rows d).1,0,b||(QN (aM s) rows d).2.2)).2.1,(Z6 (kC s) ((QN (aM s) rows d).1,0,b||(QN (aM s) rows d).2.2)).2.2):=by
 unfold ZM;simp only;rw[if_pos h,<- hr,<- hd]
theorem nK(s:Qc)(k:Int)(t:List Int):YW s k t=(QU s&&decide (0<=k)&&((ZD s k).length==(aM s).length+1)&&Yg (aM s) (ZD s k) (aM s).length&&Qr (eP s k t).1 (Za (aM s))):=rfl
theorem Bs{α:Type}{l:List α}{k:Nat}(hk:k<l.length):List.take (k+(List.take (l.length-(k+1)) (List.drop (k+1) l)).length) (List.take k l++List.take (l.length-(k+1)) (List.drop (k+1) l))=List.take k l++List.drop (k+1) l:=by
 have e:List.take (l.length-(k+1)) (List.drop (k+1) l)=List.drop (k+1) l:=List.take_of_length_le (by simp);rw[e];exact List.take_of_length_le (by simp;omega)
theorem QCc(f:Int->Int->Int)(x:List Int):∀ d:List Int,(d.flatMap λa=>x.map (f a)).length=d.length*x.length
 | []=>by simp
 | a::d=>by rw[List.flatMap_cons,List.length_append,QCc f x d,List.length_map,List.length_cons,Nat.add_mul];omega
theorem QuX(d x:List Int):(Zy d x).1.2.2.length<=36:=by
 unfold Zy
 split
 ·rename_i h;simp only[Bool.and_eq_true]at h;have h1:=lU h.1;have h2:=lU h.2;simp only;rw[QCc (λa b=>(Zm a b).1) x d];exact Nat.le_trans (Nat.mul_le_mul h1 h2) (by omega)
 ·simp
theorem QXE(o:aE)(x d:List Int):(Ym o x d).2.1.length<=36:=by
 unfold Ym
 split
 ·rename_i h;simp only[Bool.and_eq_true]at h
  split
  ·exact QuX _ _
  ·split
   ·exact Nat.le_trans (Jy h.2) (by omega)
   ·split
    ·simp
    ·split
     ·exact QuX _ _
     ·simp
 ·simp
theorem xd:∀(ops:List aE)(rows:List (List Int))(d:List Int),sz (QN ops rows d).1<=37*ops.length
 | [],rows,d=>by simp[QN]
 | o::os,[],d=>by simp only[QN];exact Nat.zero_le _
 | o::os,r::rs,d=>by
  have h1:=QXE o r (QN os rs d).2.1;have h2:=xd os rs d;simp only[QN,YZ,ZR,List.length_cons];omega
theorem Q1N{ops:List aE}{rows:List (List Int)}{k:Nat}(hk:k<ops.length)(hr:k<rows.length) :
  Yd ops k ((rows.drop k).take (ops.length-k))=(Qr (aq [] rows k) (aq bY ops k).2.1&&Yd ops (k+1) ((rows.drop (k+1)).take (ops.length-(k+1)))):=by
 rw[List.drop_eq_getElem_cons hr,show ops.length-k=(ops.length-(k+1))+1 by omega,List.take_succ_cons,Yd];have:aq [] rows k=rows[k]:=tS (List.getElem?_eq_getElem hr) _;rw[<- this];unfold Je;rw[if_pos hk]
end Go.Proofs.YtdplaepmjogjjaaGreat.Am
namespace Go.Proofs.YtdplaepmjogjjaaGreat.Am
open Go Sz
theorem Rz{nb:Int}:∀ {l:List Qc},Jw nb l=true->∀ x,x∈l->QU x=true/\∀ i,i∈x.2.1->0<=i.2/\i.2<nb
 | [],_,x,hx=>by cases hx
 | s::r,h,x,hx=>by
  simp only[Jw,Bool.and_eq_true,List.all_eq_true,QW]at h
  rcases List.mem_cons.1 hx with rfl | hx
  ·exact⟨h.1.1.1,λi hi=>by have:=h.1.2 i hi;omega⟩
  ·exact Rz h.2 x hx
theorem QAk{p:Ql}{s:Int}(he:ZZ p s=true):∃ k:Nat,s=k/\k<p.2.1.length/\p.2.1.length<=4/\p.2.2.1.length+1=p.2.1.length/\p.2.2.2.length+1=p.2.1.length/\QU (aq QE p.2.1 k)=true/\
  0<=(Qk p s).2/\(Qk p s).2<p.1.length/\((Qk p s).1=1->0<k)/\((Qk p s).1=3->k+1<p.2.1.length)/\((Qk p s).1=4->k+1<p.2.1.length)/\((Qk p s).1=7->0<k)/\
  ((Qk p s).1=1\/(Qk p s).1=2\/(Qk p s).1=3\/(Qk p s).1=4\/(Qk p s).1=5\/(Qk p s).1=6\/(Qk p s).1=7\/(Qk p s).1=8):=by
 simp only[ZZ,Bool.and_eq_true]at he;obtain⟨⟨h1,h2⟩,h3⟩:=he;simp only[Zz,Bool.and_eq_true,QW,beq_iff_eq]at h1;have lF:=QW.1 h2;obtain⟨k,rfl⟩:=Int.eq_ofNat_of_zero_le lF.1;have hk:k<p.2.1.length:=by omega
 have hg:=Rz h1.2.2 _ (Js hk QE);have iH:(Qk p (k:Int)).1=1\/(Qk p (k:Int)).1=2\/(Qk p (k:Int)).1=3\/(Qk p (k:Int)).1=4\/(Qk p (k:Int)).1=5\/(Qk p (k:Int)).1=6\/(Qk p (k:Int)).1=7\/(Qk p (k:Int)).1=8:=by
  generalize(Qk p (k:Int)).1=kd at h3;unfold JQ at h3;simp only at h3
  split at h3
  ·omega
  split at h3
  ·omega
  split at h3
  ·omega
  split at h3
  ·omega
  split at h3
  ·omega
  split at h3
  ·omega
  ·cases h3
 have hM:0<=(Qk p (k:Int)).2/\(Qk p (k:Int)).2<p.1.length:=by
  have hn:Qk p (k:Int)=rl (aq QE p.2.1 k):=by
   unfold Qk;rw[if_pos h2,Int.toNat_natCast]
  rw[hn]at iH ⊢;unfold rl at iH ⊢
  split
  ·rename_i oO;have oO:=QW.1 oO;exact hg.2 _ (Js (by omega) f5)
  ·rename_i oO;rw[if_neg oO]at iH;simp at iH
 refine⟨k,rfl,hk,by omega,by omega,by omega,hg.1,hM.1,hM.2,?_,?_,?_,?_,iH⟩
 all_goals
  intro Cd;rw[Cd]at h3;simp[JQ]at h3;omega
theorem Qwd{p:Ql}{s:Int}(h:ZZ p s=false):ZU p s=p:=by unfold ZU;rw[if_neg (by rw[h];simp)]
theorem QC1{p:Ql}{k:Nat}{x y:Qc}{a b:List Qd}(h:ZZ p (k:Int)=true)(hx:x=aq QE p.2.1 k)(hy:Yc p k x (Qk p (k:Int))=(y,a,b))(oO:y.1=x.1) :
  ZU p (k:Int)=(p.1,p.2.1.set k (y.1+1,y.2),a,b):=by
 unfold ZU;rw[if_pos h];simp only[Int.toNat_natCast];rw[show aq QE (Qu p) k=x from hx.symm,hy];simp only;rw[oO];rfl
theorem QYG(p:Ql)(s:Int):(ZU p s).2.1.length=p.2.1.length:=by
 unfold ZU;split
 ·simp
 ·rfl
theorem RA(s:Qc)(m:Int)(x t:List Int):(Yl s m x t).1=s.1:=by unfold Yl;split <;> rfl
theorem Qyw(s:Qc)(m:Int):(YI s m).1=s.1:=by unfold YI;simp only;split <;> rfl
theorem Gh(s:Qc)(m:Int)(t:List Int):(ZM s m t).1=s.1:=by unfold ZM;simp only;split <;> rfl
theorem pi1{p:Ql}{k:Nat}{x:Qc}{i:bE}(h:i.1=1):Yc p k x i=(f6 x (Zq (aq QI (Qv p) (k-1))).2.1.2,(Qv p).set (k-1) (Zq (aq QI (Qv p) (k-1))).1,Qw p):=by
 unfold Yc;simp only[h];simp
theorem RB{p:Ql}{k:Nat}{x:Qc}{i:bE}(h:i.1=2):Yc p k x i=(Yl x i.2 (if k=0 then(aq QP (QB p) i.2.toNat).1 else sX x) (aq QP (QB p) i.2.toNat).2,Qv p,Qw p):=by
 unfold Yc;simp only[h];simp
theorem pi3{p:Ql}{k:Nat}{x:Qc}{i:bE}(h:i.1=3):Yc p k x i=(f7 x [],(Qv p).set k (Yn (aq QI (Qv p) k) (i.2,sY x)).1,Qw p):=by
 unfold Yc;simp only[h];simp
theorem pi4{p:Ql}{k:Nat}{x:Qc}{i:bE}(h:i.1=4):Yc p k x i=(f9 x (Zq (aq QI (Qw p) k)).2.1.2,Qv p,(Qw p).set k (Zq (aq QI (Qw p) k)).1):=by
 unfold Yc;simp only[h];simp
theorem pi5{p:Ql}{k:Nat}{x:Qc}{i:bE}(h:i.1=5):Yc p k x i=(YI x i.2,Qv p,Qw p):=by
 unfold Yc;simp only[h];simp
theorem Gi{p:Ql}{k:Nat}{x:Qc}{i:bE}(h:i.1=6):Yc p k x i=((if k=0 then eE (ZM x i.2 (aq QP (QB p) i.2.toNat).2) [] else ZM x i.2 (aq QP (QB p) i.2.toNat).2),Qv p,Qw p):=by
 unfold Yc;simp only[h];simp
theorem pi7{p:Ql}{k:Nat}{x:Qc}{i:bE}(h:i.1=7):Yc p k x i=(eE x [],Qv p,(Qw p).set (k-1) (Yn (aq QI (Qw p) (k-1)) (i.2,sD x)).1):=by
 unfold Yc;simp only[h];simp
theorem pi8{p:Ql}{k:Nat}{x:Qc}{i:bE}(h:i.1=8):Yc p k x i=(x,Qv p,Qw p):=by
 unfold Yc;simp only[h];simp
theorem RC{m:Zo}(h:QS m=true):sz m<=296:=by
 have hl:=Yp h;have hm:=XI h;have:∀ l:List aE,(∀ o,o∈l->Zk o=true)->sz l<=37*l.length:=by
  intro l
  induction l with
  | nil=>intro _;exact Nat.zero_le _
  | cons o l ih =>
   intro hh;have h1:=Dn (hh o (List.mem_cons_self ..));have h2:=ih (λy hy=>hh y (List.mem_cons_of_mem _ hy));have h3:=ZR o.2.2.2;simp only[YZ,Q9,Q1,List.length_cons];omega
 have:=this m hm;omega
theorem RD{m:Zo}{b:List Qi}(h:Z5 m b=true):sz b<=65:=by
 simp only[Z5,Bool.and_eq_true,QW,List.all_eq_true]at h;have:∀ l:List Qi,(∀ o,o∈l->Jb m o=true)->sz l<=13*l.length:=by
  intro l
  induction l with
  | nil=>intro _;exact Nat.zero_le _
  | cons o l ih =>
   intro hh;have h1:=hh o (List.mem_cons_self ..);simp only[Jb,Bool.and_eq_true]at h1;have h4:=Jy h1.1.2;have h5:=Jy h1.2;have h2:=ih (λy hy=>hh y (List.mem_cons_of_mem _ hy));have h3:=ZR o.1;have h6:=ZR o.2;simp only[YZ,Q9,List.length_cons];omega
 have:=this b h.2;omega
theorem QJU(l:List bE):sz l=l.length:=WV l (λ_=>rfl)
theorem QO9(ops:Zo)(ew:List bE)(a b:Bool):sz (JC ops ew a b)<=ew.length+600:=by
 unfold JC
 split
 ·rename_i h;have h1:=RC h;have h2:=Dq h (XJ h);have h3:=QJU ew;have h4:sz (ZA ops).1<=sz (ZA ops):=by simp only[Q9];omega
  have e0:sz ([]:List Int)=0:=rfl;have e1:sz ([]:List (List Int))=0:=rfl;have e2:sz ([]:List ZI)=0:=rfl;rw[Z3];simp only[Qx,aM,Qe,Qz,sX,sY,sG,sD,Qt,e0,e1,e2];omega
 ·exact Nat.zero_le _
theorem Gj(c:QC)(n aF:Int):∀ k:Nat,sz (Jz c n aF k)<=700*k
 | 0=>Nat.zero_le _
 | k+1=>by
  have h:=Gj c n aF k;have e2:sz ([]:List Qc)=0:=rfl;rw[Jz,zy,YZ,e2];have h1:=QO9 (slice (Q8 c) (QG (Q8 c) (Zh c) k).1 (QG (Q8 c) (Zh c) k).2) (Z7 (lP c) n k aF (aq false (nh c) k)) (decide ((k:Int)=n-1)) (aq false (nh c) k);have h2:=Ov (lP c) n k aF (aq false (nh c) k);omega
theorem QwE:∀ l:List Int,sz (l.map λn=>((n,[]):Qd))=l.length
 | []=>rfl
 | n::l=>by
  have e:sz ([]:List Zl)=0:=rfl;simp only[List.map_cons,YZ,JA,Q1,QwE l,e,List.length_cons];omega
theorem QtK(c:QC)(b:List Qi):sz (Ze c b)<=10000:=by
 unfold Ze
 split
 ·rename_i h;have A:=Be h;have hn:=Ge A;have h1:=RD A.batch;have h2:=Gj c (QO c) b.length (QO c).toNat
  have h3:=Bl A;have h4:=QwE (JF c);have h5:=A.ak;have h6:bG c=(Zh c).length+1:=rfl;rw[qp];simp only[QB,Qu,Qv,Qw];omega
 ·exact Nat.zero_le _
end Go.Proofs.YtdplaepmjogjjaaGreat.Am

namespace Go.Proofs.YtdplaepmjogjjaaGreat.Am
open Go Go.RowKit Go.Proofs.YtdplaepmjogjjaaGreat
set_option linter.all false
set_option maxHeartbeats 2000000
noncomputable section
variable (K:aJ->Prop)
def Gk(t:Qc):aJ:=⟨(.a [(aO t.1),(.r Qs 0 0 ((t.2.1).length)),(.r aK 1 0 ((t.2.2.1).length)),(bH t.2.2.2.1),(bH t.2.2.2.2.1),(.r QX 2 0 ((t.2.2.2.2.2.1).length)),(.r [(.sl [TI])] 3 0 ((t.2.2.2.2.2.2.1).length)),(.r [TI] 4 0 ((t.2.2.2.2.2.2.2.1).length)),(.r [TI] 5 0 ((t.2.2.2.2.2.2.2.2.1).length)),(.r [TI] 6 0 ((t.2.2.2.2.2.2.2.2.2.1).length)),(.r [TI] 7 0 ((t.2.2.2.2.2.2.2.2.2.2.1).length)),(.r [(.sl [TI])] 8 0 ((t.2.2.2.2.2.2.2.2.2.2.2.1).length)),(aO t.2.2.2.2.2.2.2.2.2.2.2.2.1),(bH t.2.2.2.2.2.2.2.2.2.2.2.2.2)]),[(.sl 175 Qs (.dp 0 true []) t.2.1),(.sl 134 aK (.dp 0 true []) t.2.2.1),(.sl 108 QX (.dp 0 true []) t.2.2.2.2.2.1),(.sl 106 [(.sl [TI])] (.dp 0 true []) t.2.2.2.2.2.2.1),(.sl 3 [TI] (.dp 0 true []) t.2.2.2.2.2.2.2.1),(.sl 3 [TI] (.dp 0 true []) t.2.2.2.2.2.2.2.2.1),(.sl 3 [TI] (.dp 0 true []) t.2.2.2.2.2.2.2.2.2.1),(.sl 3 [TI] (.dp 0 true []) t.2.2.2.2.2.2.2.2.2.2.1),(.sl 106 [(.sl [TI])] (.dp 0 true []) t.2.2.2.2.2.2.2.2.2.2.2.1)],[],false,[]⟩
def RE:aP:=Qg 130 [(.c (.sl aK)),(.c (.sl Qs)),(.c .bool),(.c .bool)] λx=>(some (w9 x.1 x.2.1 x.2.2.1 x.2.2.2.1),Gk (JC x.1 x.2.1 x.2.2.1 x.2.2.2.1))
def Q4b:aN:=⟨[Ej,J4,N4],true⟩
def Q4h:af :=
 (ag [(.ae [aD 8 (.new 39 (bC Qm))]),(.ae [ab 10 0,aL 11 165 [10],aD 12 (.build [(.n aK)] [(0,1,11)]),aD 9 (.new 77 [(.n aK)]),a8 9 12 1]),(ag [(.ae [aZ 13 9 1,aL 14 167 [13],bL 15 14]),(.cond 15 (ag [(.ae [aD 16 (.build (bC Qm) []),a8 8 16 14]),.ret]) .skip)]),(.draw [aD 17 (.bO 175 Qs []),ab 18 1,aD 19 (.app 17 18 175 Qs),an 20 9 0,ar 21 20 1,ab 22 2,ab 23 3,aZ 24 9 1,aL 25 213 [24],aD 26 (.build (bC Qm) [(1,1,19),(2,1,21),(3,1,22),(4,1,23),(11,3,25)]),a8 8 26 14] [(0,3),(2,3),(0,4),(2,4),(0,7),(2,7),(3,8),(4,8)]),.ret])
def QKm:List (bw × Md):=[(.l 8 14 true,.b [.d,.p 175,.p 134,.d,.d,.p 108,.p 106,.p 3,.p 3,.p 3,.p 3,.p 106,.d,.d])]
theorem QZk(ops:List aE)(ew:List bE)(last:Bool)(a0:Bool)(hp:w9 ops ew last a0):aR Tryz.prog 130 [(.c (.sl aK) ops),(.c (.sl Qs) ew),(.c .bool last),(.c .bool a0)] (Gk (JC ops ew last a0)):=by
 refine bD Q4b Q4h QKm 0 0 27 RE (kc QEx (kc oG (kc Q3d kn))) (λK =>
 ((QA (α:=List aE) ops)/\(aS (!(QS (List.take ((id (α:=List aE) ops).length) (List.drop 0 (id (α:=List aE) ops))))) (K (Gk ((0:Int),([]:List bE),([]:List aE),false,false,([]:List ZI),([]:List (List Int)),([]:List Int),([]:List Int),([]:List Int),([]:List Int),([]:List (List Int)),(0:Int),false))) (((0=0\/0+ew.length<=0)/\0+ew.length<=bP)/\K (Gk ((0:Int),(List.take (0+ew.length) (ew:List bE)),(List.take ((id (α:=List aE) ops).length) (id (α:=List aE) ops)),last,a0,([]:List ZI),([]:List (List Int)),([]:List Int),([]:List Int),([]:List Int),([]:List Int),(List.take (((ZA (List.take ((id (α:=List aE) ops).length) (List.drop 0 (id (α:=List aE) ops)))).1).length) ((ZA (List.take ((id (α:=List aE) ops).length) (List.drop 0 (id (α:=List aE) ops)))).1)),(ZA (List.take ((id (α:=List aE) ops).length) (List.drop 0 (id (α:=List aE) ops)))).2.1,(ZA (List.take ((id (α:=List aE) ops).length) (List.drop 0 (id (α:=List aE) ops)))).2.2)))))) (λhb=>?_)
 obtain⟨h1,h2⟩:=hp;simp only[id,List.drop_zero,List.take_length,true_or,true_and,Nat.zero_add];refine⟨h1,λh=>au ?_,λh=>⟨by rw[QY];omega,au ?_⟩⟩
 ·unfold JC;rw[if_neg (by simpa using h)]
 ·unfold JC;rw[if_pos (by simpa using h),QDv]
theorem QLC:Qf Tryz.prog RE:=Qh λx h=>QZk x.1 x.2.1 x.2.2.1 x.2.2.2.1 h
def Gl(t:Qc):aJ:=f0 (.a (aV.cells Qm t))
def RF:aP:=Qg 120 [(.c (.sl aK)),(.c (.sl Qs)),(.c .bool),(.c .bool)] λx=>(some (w9 x.1 x.2.1 x.2.2.1 x.2.2.2.1),Gl (JC x.1 x.2.1 x.2.2.1 x.2.2.2.1))
def QWg:aN:=⟨[oF,Em,N6],false⟩
def QTu:af :=
 (ag [(.ae [aD 8 (.new 39 (bC Qm))]),(.ae [ab 10 0,aD 11 (.build [(.n aK)] [(0,1,10)]),aD 9 (.new 77 [(.n aK)]),a8 9 11 1]),(ag [(.ae [aZ 12 9 1,aL 13 157 [12],bL 14 13]),(.cond 14 (ag [(.ae [aD 15 (.build (bC Qm) []),a8 8 15 14]),.ret]) .skip)]),(.draw [aD 16 (.bO 175 Qs []),ab 17 1,aD 18 (.app 16 17 175 Qs),ab 19 0,aL 20 155 [19],ab 21 2,ab 22 3,aZ 23 9 1,aL 24 201 [23],aD 25 (.build (bC Qm) [(1,1,18),(2,1,20),(3,1,21),(4,1,22),(11,3,24)]),a8 8 25 14] [(0,7),(2,7),(4,7)]),.ret])
def Q0i:List (bw × Md):=[(.l 8 14 true,.b (da 14))]
theorem QTM(ops:List aE)(ew:List bE)(last:Bool)(a0:Bool)(hp:w9 ops ew last a0):aR Tryz.prog 120 [(.c (.sl aK) ops),(.c (.sl Qs) ew),(.c .bool last),(.c .bool a0)] (Gl (JC ops ew last a0)):=by
 refine bD QWg QTu Q0i 0 0 26 RF (kc rB (kc QGC (kc QRS kn))) (λK =>
 (aS (!(QS ops)) (K (Gl ((0:Int),[],[],false,false,[],[],[],[],[],[],[],(0:Int),false))) ((((0=0\/0+ew.length<=0)/\0+ew.length<=bP)/\(QA (α:=List aE) ops))/\K (Gl ((0:Int),(List.take (0+ew.length) (List.drop 0 (ew:List bE))),(id (α:=List aE) ops),last,a0,[],[],[],[],[],[],(ZA ops).1,(ZA ops).2.1,(ZA ops).2.2))))) (λhb=>?_)
 obtain⟨h1,h2⟩:=hp;simp only[id,List.drop_zero,List.take_length,true_or,true_and,Nat.zero_add];refine⟨λh=>au ?_,λh=>⟨⟨by rw[QY];omega,h1⟩,au ?_⟩⟩
 ·unfold JC;rw[if_neg (by simpa using h)]
 ·unfold JC;rw[if_pos (by simpa using h),QDv]
theorem QKH:Qf Tryz.prog RF:=Qh λx h=>QTM x.1 x.2.1 x.2.2.1 x.2.2.2.1 h
def xe(t:Qc):aJ:=⟨(.a [(aO t.1),(.r Qs 0 0 ((t.2.1).length)),(.r aK 1 0 ((t.2.2.1).length)),(bH t.2.2.2.1),(bH t.2.2.2.2.1),(.r QX 2 0 ((t.2.2.2.2.2.1).length)),(.r [(.sl [TI])] 3 0 ((t.2.2.2.2.2.2.1).length)),(.r [TI] 4 0 ((t.2.2.2.2.2.2.2.1).length)),(.r [TI] 5 0 ((t.2.2.2.2.2.2.2.2.1).length)),(.r [TI] 6 0 ((t.2.2.2.2.2.2.2.2.2.1).length)),(.r [TI] 7 0 ((t.2.2.2.2.2.2.2.2.2.2.1).length)),(.r [(.sl [TI])] 8 0 ((t.2.2.2.2.2.2.2.2.2.2.2.1).length)),(aO t.2.2.2.2.2.2.2.2.2.2.2.2.1),(bH t.2.2.2.2.2.2.2.2.2.2.2.2.2)]),[(.sl 175 Qs (.dp 0 true []) t.2.1),(.sl 134 aK (.dp 0 true []) t.2.2.1),(.sl 108 QX (.dp 0 true []) t.2.2.2.2.2.1),(.sl 106 [(.sl [TI])] (.dp 0 true []) t.2.2.2.2.2.2.1),(.sl 3 [TI] (.dp 0 true []) t.2.2.2.2.2.2.2.1),(.sl 3 [TI] (.dp 0 true []) t.2.2.2.2.2.2.2.2.1),(.sl 3 [TI] (.dp 0 true []) t.2.2.2.2.2.2.2.2.2.1),(.sl 3 [TI] (.dp 0 true []) t.2.2.2.2.2.2.2.2.2.2.1),(.sl 106 [(.sl [TI])] (.dp 0 true []) t.2.2.2.2.2.2.2.2.2.2.2.1)],[],false,[]⟩
def xf:aP:=Qg 70 [(.a Qm)] λx=>(some (QA (α:=Qc) x.1),xe (id (α:=Qc) x.1))
def RG:aN:=⟨[Ej,wI,nt,NZ],true⟩
def QAt:af :=
 (ag [(.ae [az 24 .lss 23 22]),(.cond 24 .skip (.exit 0)),(.block 1 (ag [(.ae [bn 25 21 23 QX,aZ 26 25 2,aD 5 (.new 108 (bC QX)),a8 5 26 2]),(.draw [an 27 3 5,ar 28 27 1,an 29 5 0,ar 30 29 1,an 31 5 1,ar 32 31 1,aL 33 103 [32],aD 34 (.build (bC QX) [(0,1,30),(1,1,33)]),aD 35 (.bO 108 QX [34]),aD 36 (.app 28 35 108 QX),an 37 3 5,a8 37 36 1] [(0,6),(1,6),(2,6),(3,6),(0,8),(1,8)])])),(.ae [az 38 .add 23 (aw 1),ab 23 38])])
def QCH:List (Nat × Md):=[(1,.b (da 14)),(2,.b [.d,.f,.f,.d,.d,.f,.f,.f,.f,.f,.f,.f,.d,.d]),(3,.b [.d,.f,.f,.d,.d,.p 108,.f,.f,.f,.f,.f,.f,.d,.d]),(21,.one .d),(22,.one .d),(23,.one .d)]
def QH7:af :=
 (ag [(.ae [an 39 1 6,ar 40 39 1,aL 41 103 [40],an 42 3 6,a8 42 41 1]),(.draw [an 43 1 7,ar 44 43 1,aL 45 104 [44],an 46 1 8,ar 47 46 1,aL 48 104 [47],an 49 1 9,ar 50 49 1,aL 51 104 [50],an 52 1 10,ar 53 52 1,aL 54 104 [53],an 55 3 7,a8 55 45 1,an 56 3 8,a8 56 48 1,an 57 3 9,a8 57 51 1,an 58 3 10,a8 58 54 1] [(2,3),(2,4),(2,6),(5,6),(2,7),(5,7),(2,9),(5,9),(8,9),(2,10),(5,10),(8,10),(5,12),(8,12),(11,12)]),(.ae [an 59 1 11,aZ 60 59 3,aL 61 166 [60],an 62 3 11,a8 62 61 3]),(.ae [aZ 63 3 14,a8 2 63 14]),.ret])
def QLi:af :=
 (ag [(.ae [aD 1 (.box 39 0 14),aD 2 (.new 39 (bC Qm))]),(.draw [an 6 1 0,ar 7 6 1,aD 8 (.bO 175 Qs []),an 9 1 1,ar 10 9 1,aD 11 (.app 8 10 175 Qs),an 12 1 2,ar 13 12 1,aL 14 165 [13],an 15 1 3,ar 16 15 1,an 17 1 4,ar 18 17 1,aD 19 (.build (bC Qm) [(0,1,7),(1,1,11),(2,1,14),(3,1,16),(4,1,18)]),aD 3 (.new 39 (bC Qm)),a8 3 19 14] [(0,2),(1,2),(2,3),(2,4),(0,5),(1,5),(2,6),(5,6),(2,7),(5,7),(0,8),(1,8),(2,9),(5,9),(8,9),(2,10),(5,10),(8,10),(2,11),(5,11),(8,11),(2,12),(5,12),(8,12),(0,14),(1,14),(2,14),(3,14),(4,14),(5,14),(6,14),(7,14),(8,14),(9,14),(10,14),(11,14),(12,14)]),(ag [(.ae [an 20 1 5,ar 21 20 1,bh 22 21,ab 23 (aw 0)]),(.block 0 (.loop QCH QAt))]),QH7])
def QID:List (bw × Md):=[(.l 2 14 true,.b [.d,.p 175,.p 134,.d,.d,.p 108,.p 106,.p 3,.p 3,.p 3,.p 3,.p 106,.d,.d])]
def Qu4:Qb:=TQ 0 0 QID K
def QJw:Qb:=ba (aU RG 0 QH7 (Qu4 K)) (Qu4 K)
def QZz:Qb:=bf 0 (QJw K)
def Gm(s:Qc)(x:Int)(t1:List bE)(t2:List aE)(t5:List ZI):Prop:=Loop RG 0 QCH QAt (QZz K) ⟨[(1,(.p 0 0 0)),(2,(.p 1 0 0)),(3,(.p 5 0 0)),(21,(bu QX s.2.2.2.2.2.1)),(22,(aO ((s.2.2.2.2.2.1).length:Int))),(23,(aO x))],[(0,(.box (aV.cells Qm s))),(1,(.box [(aO 0),(.n Qs),(.n aK),(bH false),(bH false),(.n QX),(.n [(.sl [TI])]),(.n [TI]),(.n [TI]),(.n [TI]),(.n [TI]),(.n [(.sl [TI])]),(aO 0),(bH false)])),(2,(.sl 175 Qs (.dp 0 true []) t1)),(3,(.sl 134 aK (.dp 0 true []) t2)),(4,(.sl 108 QX (.dp 0 true []) t5)),(5,(.box [(aO s.1),(.r Qs 2 0 t1.length),(.r aK 3 0 t2.length),(bH s.2.2.2.1),(bH s.2.2.2.2.1),(.r QX 4 0 t5.length),(.n [(.sl [TI])]),(.n [TI]),(.n [TI]),(.n [TI]),(.n [TI]),(.n [(.sl [TI])]),(aO 0),(bH false)]))],6⟩
theorem QH3(s:Qc)(x:Int)(t1:List bE)(t2:List aE)(t5:List ZI) (h :
 (aS (decide (x<((s.2.2.2.2.2.1).length:Int))) ((0<=x/\Int.toNat x<(s.2.2.2.2.2.1).length)/\(((QA (α:=List (List Int)) ((aq Zb s.2.2.2.2.2.1 (Int.toNat x)).2))/\((t5.length=t5.length\/t5.length+1<=t5.length)/\t5.length+1<=bP))/\(Gm K s (aI (x+1)) (List.take t1.length t1) (List.take t2.length t2) (List.take (t5.length+1) ((List.take t5.length t5)++([((aq Zb s.2.2.2.2.2.1 (Int.toNat x)).1,(List.take ((id (α:=List (List Int)) ((aq Zb s.2.2.2.2.2.1 (Int.toNat x)).2)).length) (List.drop 0 (id (α:=List (List Int)) ((aq Zb s.2.2.2.2.2.1 (Int.toNat x)).2)))))])))))) ((QA (α:=List (List Int)) s.2.2.2.2.2.2.1)/\(((QA (α:=List Int) s.2.2.2.2.2.2.2.1)/\((QA (α:=List Int) s.2.2.2.2.2.2.2.2.1)/\((QA (α:=List Int) s.2.2.2.2.2.2.2.2.2.1)/\(QA (α:=List Int) s.2.2.2.2.2.2.2.2.2.2.1))))/\((QA (α:=QL) s.2.2.2.2.2.2.2.2.2.2.2)/\K (xe (s.1,(List.take t1.length t1),(List.take t2.length t2),s.2.2.2.1,s.2.2.2.2.1,(List.take t5.length t5),(List.take ((id (α:=List (List Int)) s.2.2.2.2.2.2.1).length) (id (α:=List (List Int)) s.2.2.2.2.2.2.1)),(List.take ((id (α:=List Int) s.2.2.2.2.2.2.2.1).length) (id (α:=List Int) s.2.2.2.2.2.2.2.1)),(List.take ((id (α:=List Int) s.2.2.2.2.2.2.2.2.1).length) (id (α:=List Int) s.2.2.2.2.2.2.2.2.1)),(List.take ((id (α:=List Int) s.2.2.2.2.2.2.2.2.2.1).length) (id (α:=List Int) s.2.2.2.2.2.2.2.2.2.1)),(List.take ((id (α:=List Int) s.2.2.2.2.2.2.2.2.2.2.1).length) (id (α:=List Int) s.2.2.2.2.2.2.2.2.2.2.1)),(List.take (((id (α:=QL) s.2.2.2.2.2.2.2.2.2.2.2).1).length) ((id (α:=QL) s.2.2.2.2.2.2.2.2.2.2.2).1)),(id (α:=QL) s.2.2.2.2.2.2.2.2.2.2.2).2.1,(id (α:=QL) s.2.2.2.2.2.2.2.2.2.2.2).2.2))))))):Gm K s x t1 t2 t5 :=
 Loop.of h
theorem QVg(s:Qc)(hp:QA (α:=Qc) s):aR Tryz.prog 70 [(.a (aV.cells Qm s))] (xe (id (α:=Qc) s)):=by
 refine bD RG QLi QID 0 0 64 xf (kc QEx (kc Ek (kc qg (kc QXd kn)))) (λK =>
 ((((0=0\/0+(s.2.1).length<=0)/\0+(s.2.1).length<=bP)/\(QA (α:=List aE) s.2.2.1))/\(Gm K s 0 (List.take (0+(s.2.1).length) (s.2.1:List bE)) (List.take ((id (α:=List aE) s.2.2.1).length) (id (α:=List aE) s.2.2.1)) ([]:List ZI)))) (λhb=>?_)
 have iN:Sz.sz s<=2147483648:=hp;have hs:=Z3 s;have l1:=Yk (Qx s);simp only[id,List.drop_zero,List.take_length,true_or,true_and,Nat.zero_add];refine⟨⟨by rw[QY];((try simp only[bT,Qx,aM,Qn,Qq,Qe,Qz,sX,sY,sG,sD,Qt,Qo,bg,QB,Qu,Qv,Qw]at *);omega),by unfold QA;((try simp only[bT,Qx,aM,Qn,Qq,Qe,Qz,sX,sY,sG,sD,Qt,Qo,bg,QB,Qu,Qv,Qw]at *);omega)⟩,?_⟩;refine Jm (l:=s.2.2.2.2.2.1) (A:=λi v=>Gm (λr'=>r'=xe (id (α:=Qc) s)) s i s.2.1 s.2.2.1 v) (Q:=λz=>xe (s.1,s.2.1,s.2.2.1,s.2.2.2.1,s.2.2.2.2.1,z,s.2.2.2.2.2.2)=xe (id (α:=Qc) s)) (by((try simp only[bT,Qx,aM,Qn,Qq,Qe,Qz,sX,sY,sG,sD,Qt,Qo,bg,QB,Qu,Qv,Qw]at *);omega)) (λk x v hk hl hg hv hx ih=>?_) (λhq=>?_) (au rfl)
 ·refine QH3 _ _ _ _ _ _ ⟨λ_=>?_,λh=>by simp at h;omega⟩;simp only[Q9,Q1]at hx;rw[Int.toNat_natCast,hg,dv (by omega),Zc,ub,List.take_length,List.take_length];exact⟨⟨by omega,hk⟩,⟨by unfold QA;omega,room (by omega)⟩,ih⟩
 ·refine QH3 _ _ _ _ _ _ ⟨λh=>by simp at h,λ_=>?_⟩;simp only[id,List.drop_zero,List.take_length,true_or,true_and,Nat.zero_add];exact⟨by unfold QA;((try simp only[bT,Qx,aM,Qn,Qq,Qe,Qz,sX,sY,sG,sD,Qt,Qo,bg,QB,Qu,Qv,Qw]at *);omega),⟨by unfold QA;((try simp only[bT,Qx,aM,Qn,Qq,Qe,Qz,sX,sY,sG,sD,Qt,Qo,bg,QB,Qu,Qv,Qw]at *);omega),by unfold QA;((try simp only[bT,Qx,aM,Qn,Qq,Qe,Qz,sX,sY,sG,sD,Qt,Qo,bg,QB,Qu,Qv,Qw]at *);omega),by unfold QA;((try simp only[bT,Qx,aM,Qn,Qq,Qe,Qz,sX,sY,sG,sD,Qt,Qo,bg,QB,Qu,Qv,Qw]at *);omega),by unfold QA;((try simp only[bT,Qx,aM,Qn,Qq,Qe,Qz,sX,sY,sG,sD,Qt,Qo,bg,QB,Qu,Qv,Qw]at *);omega)⟩,by unfold QA;simp only[Q9,Q1,ZJ];((try simp only[bT,Qx,aM,Qn,Qq,Qe,Qz,sX,sY,sG,sD,Qt,Qo,bg,QB,Qu,Qv,Qw]at *);omega),by first | exact hq | trivial⟩
theorem Gn:Qf Tryz.prog xf:=Qh λx h=>QVg x.1 h
def xg(t:Qc):aJ:=⟨(.a [(aO t.1),(bu Qs t.2.1),(bu aK t.2.2.1),(bH t.2.2.2.1),(bH t.2.2.2.2.1),(.r QX 0 0 ((t.2.2.2.2.2.1).length)),(bu [(.sl [TI])] t.2.2.2.2.2.2.1),(bu [TI] t.2.2.2.2.2.2.2.1),(bu [TI] t.2.2.2.2.2.2.2.2.1),(bu [TI] t.2.2.2.2.2.2.2.2.2.1),(bu [TI] t.2.2.2.2.2.2.2.2.2.2.1),(bu [(.sl [TI])] t.2.2.2.2.2.2.2.2.2.2.2.1),(aO t.2.2.2.2.2.2.2.2.2.2.2.2.1),(bH t.2.2.2.2.2.2.2.2.2.2.2.2.2)]),[(.sl 108 QX .ow t.2.2.2.2.2.1)],[],true,[]⟩
def xh:aP:=Qg 61 [(.a Qm)] λx=>(some (QA (α:=Qc) x.1),xg (id (α:=Qc) x.1))
def RH:aN:=⟨[Em,Eo],false⟩
def QvY:af :=
 (ag [(ag [(.ae [ab 17 4,an 18 1 5,ar 19 18 1,bh 20 19,az 21 .lss 17 20]),(.cond 21 .skip (.exit 0))]),(.block 1 (.draw [an 24 3 5,ar 25 24 1,an 26 1 5,ar 27 26 1,ab 28 4,bn 29 27 28 QX,an 30 29 0,ar 31 30 1,an 32 1 5,ar 33 32 1,ab 34 4,bn 35 33 34 QX,an 36 35 1,ar 37 36 1,aL 38 156 [37],aD 39 (.build (bC QX) [(0,1,31),(1,1,38)]),aD 40 (.bO 108 QX [39]),aD 41 (.app 25 40 108 QX),an 42 3 5,a8 42 41 1] [(0,14),(1,14),(2,14),(3,14),(5,14),(6,14),(7,14),(0,16),(1,16)])),(.ae [ab 22 4,az 23 .add 22 (aw 1),ab 4 23])])
def Qxe:List (Nat × Md):=[(1,.b (da 14)),(2,.b (da 14)),(3,.b [.d,.d,.d,.d,.d,.f,.d,.d,.d,.d,.d,.d,.d,.d]),(4,.one .d)]
def QuJ:af :=
 (ag [(.ae [an 43 1 6,ar 44 43 1,aL 45 156 [44],an 46 3 6,a8 46 45 1]),(.ae [aD 47 (.bO 3 [TI] []),an 48 1 7,ar 49 48 1,aD 50 (.app 47 49 3 [TI]),an 51 3 7,a8 51 50 1]),(.ae [aD 52 (.bO 3 [TI] []),an 53 1 8,ar 54 53 1,aD 55 (.app 52 54 3 [TI]),an 56 3 8,a8 56 55 1]),(.ae [aD 57 (.bO 3 [TI] []),an 58 1 9,ar 59 58 1,aD 60 (.app 57 59 3 [TI]),an 61 3 9,a8 61 60 1]),(.ae [aD 62 (.bO 3 [TI] []),an 63 1 10,ar 64 63 1,aD 65 (.app 62 64 3 [TI]),an 66 3 10,a8 66 65 1]),(.ae [an 67 1 11,an 68 67 0,ar 69 68 1,aL 70 156 [69],an 71 3 11,an 72 71 0,a8 72 70 1]),(.ae [aZ 73 3 14,a8 2 73 14]),.ret])
def Q1f:af :=
 (ag [(.ae [aD 1 (.box 39 0 14),aD 2 (.new 39 (bC Qm))]),(.ae [aZ 5 1 14,aD 3 (.new 39 (bC Qm)),a8 3 5 14]),(.ae [an 6 1 2,ar 7 6 1,aL 8 155 [7],an 9 3 2,a8 9 8 1]),(.ae [aD 10 (.bO 175 Qs []),an 11 1 1,ar 12 11 1,aD 13 (.app 10 12 175 Qs),an 14 3 1,a8 14 13 1]),(.ae [aD 15 (.bO 108 QX []),an 16 3 5,a8 16 15 1]),(ag [(.ae [ab 4 (aw 0)]),(.block 0 (.loop Qxe QvY))]),QuJ])
def QII:List (bw × Md):=[(.l 2 14 true,.b [.d,.d,.d,.d,.d,.o 108,.d,.d,.d,.d,.d,.d,.d,.d])]
def QDQ:Qb:=TQ 0 0 QII K
def QTq:Qb:=ba (aU RH 0 QuJ (QDQ K)) (QDQ K)
def QLO:Qb:=bf 0 (QTq K)
def Gp(s:Qc)(i:Int)(x5:List ZI):Prop:=Loop RH 0 Qxe QvY (QLO K) ⟨[(1,(.p 0 0 0)),(2,(.p 1 0 0)),(3,(.p 3 0 0)),(4,(aO i))],[(0,(.box (aV.cells Qm s))),(1,(.box (aV.cells Qm ((0:Int),[],[],false,false,[],[],[],[],[],[],[],(0:Int),false)))),(2,(.sl 108 QX .ow x5)),(3,(.box [(aO s.1),(bu Qs (List.take (0+(s.2.1).length) (List.drop 0 (s.2.1:List bE)))),(bu aK (id (α:=List aE) s.2.2.1)),(bH s.2.2.2.1),(bH s.2.2.2.2.1),(.r QX 2 0 x5.length),(bu [(.sl [TI])] s.2.2.2.2.2.2.1),(bu [TI] s.2.2.2.2.2.2.2.1),(bu [TI] s.2.2.2.2.2.2.2.2.1),(bu [TI] s.2.2.2.2.2.2.2.2.2.1),(bu [TI] s.2.2.2.2.2.2.2.2.2.2.1),(bu [(.sl [TI])] s.2.2.2.2.2.2.2.2.2.2.2.1),(aO s.2.2.2.2.2.2.2.2.2.2.2.2.1),(bH s.2.2.2.2.2.2.2.2.2.2.2.2.2)]))],4⟩
theorem QyV(s:Qc)(i:Int)(x5:List ZI) (h :
 (aS (decide (i<((s.2.2.2.2.2.1).length:Int))) (((0<=i/\Int.toNat i<(s.2.2.2.2.2.1).length)/\((0<=i/\Int.toNat i<(s.2.2.2.2.2.1).length)/\((QA (α:=List (List Int)) ((aq Zb s.2.2.2.2.2.1 (Int.toNat i)).2))/\((x5.length=x5.length\/x5.length+1<=x5.length)/\x5.length+1<=bP))))/\(Gp K s (aI (i+1)) (List.take (x5.length+1) ((List.take x5.length x5)++([((aq Zb s.2.2.2.2.2.1 (Int.toNat i)).1,(id (α:=List (List Int)) ((aq Zb s.2.2.2.2.2.1 (Int.toNat i)).2)))]))))) ((QA (α:=List (List Int)) s.2.2.2.2.2.2.1)/\(((0=0\/0+(s.2.2.2.2.2.2.2.1).length<=0)/\0+(s.2.2.2.2.2.2.2.1).length<=bP)/\(((0=0\/0+(s.2.2.2.2.2.2.2.2.1).length<=0)/\0+(s.2.2.2.2.2.2.2.2.1).length<=bP)/\(((0=0\/0+(s.2.2.2.2.2.2.2.2.2.1).length<=0)/\0+(s.2.2.2.2.2.2.2.2.2.1).length<=bP)/\(((0=0\/0+(s.2.2.2.2.2.2.2.2.2.2.1).length<=0)/\0+(s.2.2.2.2.2.2.2.2.2.2.1).length<=bP)/\((QA (α:=List (List Int)) s.2.2.2.2.2.2.2.2.2.2.2.1)/\K (xg (s.1,(List.take (0+(s.2.1).length) (List.drop 0 (s.2.1:List bE))),(id (α:=List aE) s.2.2.1),s.2.2.2.1,s.2.2.2.2.1,(List.take x5.length x5),(id (α:=List (List Int)) s.2.2.2.2.2.2.1),(List.take (0+(s.2.2.2.2.2.2.2.1).length) (List.drop 0 (s.2.2.2.2.2.2.2.1:List Int))),(List.take (0+(s.2.2.2.2.2.2.2.2.1).length) (List.drop 0 (s.2.2.2.2.2.2.2.2.1:List Int))),(List.take (0+(s.2.2.2.2.2.2.2.2.2.1).length) (List.drop 0 (s.2.2.2.2.2.2.2.2.2.1:List Int))),(List.take (0+(s.2.2.2.2.2.2.2.2.2.2.1).length) (List.drop 0 (s.2.2.2.2.2.2.2.2.2.2.1:List Int))),(id (α:=List (List Int)) s.2.2.2.2.2.2.2.2.2.2.2.1),s.2.2.2.2.2.2.2.2.2.2.2.2.1,s.2.2.2.2.2.2.2.2.2.2.2.2.2)))))))))):Gp K s i x5 :=
 Loop.of h
theorem QJe(s:Qc)(hp:QA (α:=Qc) s):aR Tryz.prog 61 [(.a (aV.cells Qm s))] (xg (id (α:=Qc) s)):=by
 refine bD RH Q1f QII 0 0 74 xh (kc QGC (kc QEO kn)) (λK =>
 ((QA (α:=List aE) s.2.2.1)/\(((0=0\/0+(s.2.1).length<=0)/\0+(s.2.1).length<=bP)/\(Gp K s 0 ([]:List ZI))))) (λhb=>?_)
 have iN:Sz.sz s<=2147483648:=hp;have hs:=Z3 s;have l1:=Yk (Qx s);have l2:=ZR (sX s);have l3:=ZR (sY s);have l4:=ZR (sG s);have l5:=ZR (sD s);simp only[id,List.drop_zero,List.take_length,true_or,true_and,Nat.zero_add];refine⟨by unfold QA;((try simp only[bT,Qx,aM,Qn,Qq,Qe,Qz,sX,sY,sG,sD,Qt,Qo,bg,QB,Qu,Qv,Qw]at *);omega),by rw[QY];((try simp only[bT,Qx,aM,Qn,Qq,Qe,Qz,sX,sY,sG,sD,Qt,Qo,bg,QB,Qu,Qv,Qw]at *);omega),?_⟩;refine Jm (l:=s.2.2.2.2.2.1) (A:=λi v=>Gp (λr'=>r'=xg (id (α:=Qc) s)) s i v) (Q:=λz=>xg (s.1,s.2.1,s.2.2.1,s.2.2.2.1,s.2.2.2.2.1,z,s.2.2.2.2.2.2)=xg (id (α:=Qc) s)) (by((try simp only[bT,Qx,aM,Qn,Qq,Qe,Qz,sX,sY,sG,sD,Qt,Qo,bg,QB,Qu,Qv,Qw]at *);omega)) (λk x v hk hl hg hv hx ih=>?_) (λhq=>?_) (au rfl)
 ·refine QyV _ _ _ _ ⟨λ_=>?_,λh=>by simp at h;omega⟩;simp only[Q9,Q1]at hx;rw[Int.toNat_natCast,hg,dv (by omega),Zc];exact⟨⟨⟨by omega,hk⟩,⟨by omega,hk⟩,by unfold QA;omega,room (by omega)⟩,ih⟩
 ·refine QyV _ _ _ _ ⟨λh=>by simp at h,λ_=>?_⟩;simp only[id,List.drop_zero,List.take_length,true_or,true_and,Nat.zero_add];exact⟨by unfold QA;((try simp only[bT,Qx,aM,Qn,Qq,Qe,Qz,sX,sY,sG,sD,Qt,Qo,bg,QB,Qu,Qv,Qw]at *);omega),by rw[QY];((try simp only[bT,Qx,aM,Qn,Qq,Qe,Qz,sX,sY,sG,sD,Qt,Qo,bg,QB,Qu,Qv,Qw]at *);omega),by rw[QY];((try simp only[bT,Qx,aM,Qn,Qq,Qe,Qz,sX,sY,sG,sD,Qt,Qo,bg,QB,Qu,Qv,Qw]at *);omega),by rw[QY];((try simp only[bT,Qx,aM,Qn,Qq,Qe,Qz,sX,sY,sG,sD,Qt,Qo,bg,QB,Qu,Qv,Qw]at *);omega),by rw[QY];((try simp only[bT,Qx,aM,Qn,Qq,Qe,Qz,sX,sY,sG,sD,Qt,Qo,bg,QB,Qu,Qv,Qw]at *);omega),by unfold QA;((try simp only[bT,Qx,aM,Qn,Qq,Qe,Qz,sX,sY,sG,sD,Qt,Qo,bg,QB,Qu,Qv,Qw]at *);omega),by first | exact hq | trivial⟩
theorem Gq:Qf Tryz.prog xh:=Qh λx h=>QJe x.1 h
def rX(t:Qc):aJ:=⟨(.a [(aO t.1),(.r Qs 0 0 ((t.2.1).length)),(.r aK 1 0 ((t.2.2.1).length)),(bH t.2.2.2.1),(bH t.2.2.2.2.1),(.r QX 2 0 ((t.2.2.2.2.2.1).length)),(.r [(.sl [TI])] 3 0 ((t.2.2.2.2.2.2.1).length)),(.r [TI] 4 0 ((t.2.2.2.2.2.2.2.1).length)),(.r [TI] 5 0 ((t.2.2.2.2.2.2.2.2.1).length)),(.r [TI] 6 0 ((t.2.2.2.2.2.2.2.2.2.1).length)),(.r [TI] 7 0 ((t.2.2.2.2.2.2.2.2.2.2.1).length)),(.r [(.sl [TI])] 8 0 ((t.2.2.2.2.2.2.2.2.2.2.2.1).length)),(aO t.2.2.2.2.2.2.2.2.2.2.2.2.1),(bH t.2.2.2.2.2.2.2.2.2.2.2.2.2)]),[(.sl 175 Qs (.dp 0 true []) t.2.1),(.sl 134 aK (.dp 0 true []) t.2.2.1),(.sl 108 QX (.dp 0 true []) t.2.2.2.2.2.1),(.sl 106 [(.sl [TI])] (.dp 0 true []) t.2.2.2.2.2.2.1),(.sl 3 [TI] (.dp 0 true []) t.2.2.2.2.2.2.2.1),(.sl 3 [TI] (.dp 0 true []) t.2.2.2.2.2.2.2.2.1),(.sl 3 [TI] (.dp 0 true []) t.2.2.2.2.2.2.2.2.2.1),(.sl 3 [TI] (.dp 0 true []) t.2.2.2.2.2.2.2.2.2.2.1),(.sl 106 [(.sl [TI])] (.dp 0 true []) t.2.2.2.2.2.2.2.2.2.2.2.1)],[],false,[]⟩
def RI:aP:=Qg 30 [(.a Qm),(.c TI),(.c (.sl [TI])),(.c (.sl [TI]))] λx=>(some (oP x.1 x.2.1 x.2.2.1 x.2.2.2.1),rX (Yl x.1 x.2.1 x.2.2.1 x.2.2.2.1))
def QSo:aN:=⟨[xf,wL,wP,wv,J1,AZ,wx,FQ,wI,nt,PR,wH],true⟩
def QVj:af :=
 (ag [(.ae [aD 4 (.box 39 0 14),aD 8 (.new 39 (bC Qm))]),(.ae [aZ 19 4 14,aL 20 70 [19],aD 9 (.new 39 (bC Qm)),a8 9 20 14]),(.ae [aZ 21 4 14,aL 22 74 [21],aD 10 (.new 77 [(.n aK)]),a8 10 22 1]),(ag [(.ae [aZ 23 4 14,aL 24 72 [23],bL 25 24,ab 26 25,.bj 26 false [ab 27 2,aZ 28 10 1,aL 29 101 [28],aL 30 100 [27,29],bL 31 30] 32 31,ab 33 32,.bj 33 false [an 34 4 5,ar 35 34 1,ab 36 1,aL 37 71 [35,36],az 38 .geq 37 (aw 0)] 39 38]),(.cond 39 (ag [(.ae [aZ 40 9 14,a8 8 40 14]),.ret]) .skip)]),(ag [(.ae [an 41 4 3,ar 42 41 1,ab 43 42,.bj 43 true [ab 44 3,aZ 45 10 1,aL 46 102 [45],aL 47 100 [44,46],bL 48 47] 49 48]),(.cond 49 (ag [(.ae [aZ 50 9 14,a8 8 50 14]),.ret]) .skip)]),(.ae [aZ 52 10 1,ab 53 2,aL 54 73 [52,53],ab 51 54,bF 55 51 0,bF 56 51 1,ab 11 55,ab 12 56]),(.ae [ab 57 11,an 58 4 2,ar 59 58 1,bh 60 59,bn 61 57 60 [(.sl [TI])],an 62 61 0,ar 63 62 1,ab 13 63]),(.ae [ab 64 11,ab 14 64]),(ag [(.ae [an 65 4 4,ar 66 65 1]),(.cond 66 (.ae [ab 67 11,aD 68 (.fO 67 none (some (aw 1)) [(.sl [TI])]),ab 14 68]) .skip)]),(.draw [an 69 9 5,ar 70 69 1,ab 71 1,ab 72 14,aL 73 103 [72],aD 74 (.build (bC QX) [(0,1,71),(1,1,73)]),aD 75 (.bO 108 QX [74]),aD 76 (.app 70 75 108 QX),an 77 9 5,a8 77 76 1] [(0,4),(1,4),(0,6),(1,6)]),(.ae [an 78 9 7,a8 78 (.k (.n [TI])) 1]),(.ae [an 79 9 11,an 80 79 2,ar 81 80 1,ab 82 81,.bj 82 false [ab 83 12] 84 83,an 85 9 11,an 86 85 2,a8 86 84 1]),(ag [(.ae [an 87 4 3,ar 88 87 1,bL 89 88]),(.cond 89 (ag [(.ae [ab 90 13,aL 91 104 [90],an 92 9 8,a8 92 91 1]),(.ae [aZ 93 9 14,a8 8 93 14]),.ret]) .skip)]),(.ae [ab 95 13,ab 96 3,aL 97 105 [95,96],ab 94 97,bF 98 94 0,bF 99 94 1,ab 15 98,ab 16 99]),(.ae [an 101 9 11,an 102 101 1,ar 103 102 1,ab 104 15,aL 105 106 [103,104],ab 100 105,bF 106 100 0,bF 107 100 1,ab 17 106,ab 18 107]),(.ae [ab 108 17,an 109 9 11,an 110 109 1,a8 110 108 1]),(.ae [an 111 9 11,an 112 111 2,ar 113 112 1,ab 114 113,.bj 114 false [ab 115 16] 116 115,ab 117 116,.bj 117 false [ab 118 18] 119 118,an 120 9 11,an 121 120 2,a8 121 119 1]),(.ae [aZ 122 9 14,a8 8 122 14]),.ret])
def QNx:List (bw × Md):=[(.l 8 14 true,.b [.d,.p 175,.p 134,.d,.d,.p 108,.p 106,.p 3,.p 3,.p 3,.p 3,.p 106,.d,.d])]
theorem QVS(s:Qc)(m:Int)(x:List Int)(t:List Int)(hp:oP s m x t):aR Tryz.prog 30 [(.a (aV.cells Qm s)),(.c TI m),(.c (.sl [TI]) x),(.c (.sl [TI]) t)] (rX (Yl s m x t)):=by
 refine bD QSo QVj QNx 0 0 123 RI (kc Gn (kc EN (kc EV (kc DL (kc nr (kc OW (kc DO (kc QAM (kc Ek (kc qg (kc Q1M (kc Ei kn)))))))))))) (λK =>
 let z1:=id (α:=Qc) s
 let z3:=oD (ZF s) x
 let z2:=aq ([]:List Int) (z3.1) (0+(Int.toNat ((s.2.2.1).length:Int)))
 let z4:=List.take ((z1.2.2.2.2.2.2.2.2.2.2.2.1).length) (z1.2.2.2.2.2.2.2.2.2.2.2.1)
 let z5:=List.take ((z1.2.2.2.2.2.2.2.2.2.2.1).length) (z1.2.2.2.2.2.2.2.2.2.2.1)
 let z6:=List.take ((z1.2.2.2.2.2.2.2.2.2.1).length) (z1.2.2.2.2.2.2.2.2.2.1)
 let z8:=List.take ((z1.2.2.2.2.2.2.1).length) (z1.2.2.2.2.2.2.1)
 let z9:=List.take ((z1.2.2.2.2.2.1).length) (z1.2.2.2.2.2.1)
 let gm:=List.take ((z1.2.2.1).length) (z1.2.2.1)
 let eF:=List.take ((z1.2.2.2.2.2.2.2.2.1).length) (z1.2.2.2.2.2.2.2.2.1)
 let iI:=List.take ((z1.2.1).length) (z1.2.1)
 let iJ:=Q4 (z1.2.2.2.2.2.2.2.2.2.2.2.2.1) ((ZO z2 t).1)
 let ik:=List.take (Int.toNat 1-Int.toNat 0) (List.drop 0 (z3.1))
 let z7:=id (α:=List (List Int)) ik
 let ia:=List.take ((id (α:=List Int) z2).length) (id (α:=List Int) z2)
 let lV:=List.take ((z1.2.2.2.2.2.2.2.1).length) (z1.2.2.2.2.2.2.2.1)
 let oQ:=List.take ((z3.1).length) (List.drop 0 (z3.1))
 let gP:=id (α:=List (List Int)) oQ
 ((QA (α:=Qc) s)/\(aS (((!(QU s))||(!(Qr x (Zn (ZF s)))))||(decide ((QJ s.2.2.2.2.2.1 m)>=0))) (K (rX (z1.1,iI,gm,z1.2.2.2.1,z1.2.2.2.2.1,z9,z8,lV,eF,z6,z5,z4,z1.2.2.2.2.2.2.2.2.2.2.2.2.1,z1.2.2.2.2.2.2.2.2.2.2.2.2.2))) (aS (s.2.2.2.1&&(!(Qr t (Za (ZF s))))) (K (rX (z1.1,iI,gm,z1.2.2.2.1,z1.2.2.2.2.1,z9,z8,lV,eF,z6,z5,z4,z1.2.2.2.2.2.2.2.2.2.2.2.2.1,z1.2.2.2.2.2.2.2.2.2.2.2.2.2))) (((0<=((s.2.2.1).length:Int)/\Int.toNat ((s.2.2.1).length:Int)<(z3.1).length)/\((0+(Int.toNat ((s.2.2.1).length:Int)))<(z3.1).length))/\(aS s.2.2.2.2.1 (((0:Int)<=0/\(0:Int)<=1/\1<=(((z3.1).length:Nat):Int))/\(((QA (α:=List (List Int)) ik)/\(((z1.2.2.2.2.2.1).length=(z1.2.2.2.2.2.1).length\/(z1.2.2.2.2.2.1).length+1<=(z1.2.2.2.2.2.1).length)/\(z1.2.2.2.2.2.1).length+1<=bP))/\(aS (!s.2.2.2.1) ((QA (α:=List Int) z2)/\K (rX (z1.1,iI,gm,z1.2.2.2.1,z1.2.2.2.2.1,(List.take ((z1.2.2.2.2.2.1).length+1) (z9++([(m,(List.take (z7.length) (List.drop 0 z7)))]))),z8,([]:List Int),ia,z6,z5,z4,z1.2.2.2.2.2.2.2.2.2.2.2.2.1,((z1.2.2.2.2.2.2.2.2.2.2.2.2.2)||(z3.2))))) (K (rX (z1.1,iI,gm,z1.2.2.2.1,z1.2.2.2.2.1,(List.take ((z1.2.2.2.2.2.1).length+1) (z9++([(m,(List.take (z7.length) (List.drop 0 z7)))]))),z8,([]:List Int),eF,z6,z5,z4,iJ.1,((((z1.2.2.2.2.2.2.2.2.2.2.2.2.2)||(z3.2))||((ZO z2 t).2))||(iJ.2)))))))) (((QA (α:=List (List Int)) oQ)/\(((z1.2.2.2.2.2.1).length=(z1.2.2.2.2.2.1).length\/(z1.2.2.2.2.2.1).length+1<=(z1.2.2.2.2.2.1).length)/\(z1.2.2.2.2.2.1).length+1<=bP))/\(aS (!s.2.2.2.1) ((QA (α:=List Int) z2)/\K (rX (z1.1,iI,gm,z1.2.2.2.1,z1.2.2.2.2.1,(List.take ((z1.2.2.2.2.2.1).length+1) (z9++([(m,(List.take (gP.length) (List.drop 0 gP)))]))),z8,([]:List Int),ia,z6,z5,z4,z1.2.2.2.2.2.2.2.2.2.2.2.2.1,((z1.2.2.2.2.2.2.2.2.2.2.2.2.2)||(z3.2))))) (K (rX (z1.1,iI,gm,z1.2.2.2.1,z1.2.2.2.2.1,(List.take ((z1.2.2.2.2.2.1).length+1) (z9++([(m,(List.take (gP.length) (List.drop 0 gP)))]))),z8,([]:List Int),eF,z6,z5,z4,iJ.1,((((z1.2.2.2.2.2.2.2.2.2.2.2.2.2)||(z3.2))||((ZO z2 t).2))||(iJ.2))))))))))))) (λhb=>?_)
 conv=>zeta
 have iN:Sz.sz s<=2147483648:=hp;have hs:=Z3 s;have l1:=Yk (Qe s);have e:=QEX s m x t;simp only[id,List.drop_zero,List.take_length,true_or,true_and,Nat.zero_add,Int.toNat_natCast];refine⟨hp,λh=>au ?_,λh=>⟨λh2=>au ?_,λh2=>?_⟩⟩
 ·rw[h]at e;rw[Ry (by rw[e];simp)]
 ·rw[h2]at e;rw[Ry (by rw[e];simp)]
 rw[h,h2]at e;have e:JB s m x t=true:=by simpa using e
 have e2:=e;simp only[JB,Bool.and_eq_true]at e2;have hm:=JL e2.1.1.1;have dj:=Yp hm;have ei:oD (ZF s) x=QF (aM s) x:=LF hm e2.1.1.2;have vK:=t8 (aM s) x;have hx6:=Jy e2.1.1.2;have b7:=Bp (aM s) x;have dt:=QFw e;have qQ:=qs [] (QF (aM s) x).1 (aM s).length;have e0:Sz.sz ([]:List Int)=0:=rfl;have t10:Int.toNat 1-Int.toNat 0=1:=rfl;rw[ei];simp only[t10,Zc,List.drop_zero,List.take_length];refine⟨⟨by((try simp only[bT,Qx,aM,Qn,Qq,Qe,Qz,sX,sY,sG,sD,Qt,Qo,bg,QB,Qu,Qv,Qw]at *);omega),by((try simp only[bT,Qx,aM,Qn,Qq,Qe,Qz,sX,sY,sG,sD,Qt,Qo,bg,QB,Qu,Qv,Qw]at *);omega)⟩,λhr=>⟨by((try simp only[bT,Qx,aM,Qn,Qq,Qe,Qz,sX,sY,sG,sD,Qt,Qo,bg,QB,Qu,Qv,Qw]at *);omega),?_⟩,λhr=>?_⟩
 ·have Cv:Sz.sz ((QF (aM s) x).1.take 1)<=Sz.sz (QF (aM s) x).1:=by
   first
    | exact zA _ _
    | exact Nat.le_refl _
  rw[if_pos (show Qq s=true from hr)]at dt;refine⟨⟨by unfold QA;((try simp only[bT,Qx,aM,Qn,Qq,Qe,Qz,sX,sY,sG,sD,Qt,Qo,bg,QB,Qu,Qv,Qw]at *);omega),by rw[QY];((try simp only[bT,Qx,aM,Qn,Qq,Qe,Qz,sX,sY,sG,sD,Qt,Qo,bg,QB,Qu,Qv,Qw]at *);omega)⟩,λhl=>⟨by unfold QA;((try simp only[bT,Qx,aM,Qn,Qq,Qe,Qz,sX,sY,sG,sD,Qt,Qo,bg,QB,Qu,Qv,Qw]at *);omega),au ?_⟩,λhl=>au ?_⟩
  ·have hl:s.2.2.2.1=false:=by simpa using hl
   rw[dt];simp only[Qn,hl];simp[List.take_of_length_le]
  ·have hl:s.2.2.2.1=true:=by simpa using hl
   rw[dt];simp only[Qn,hl];simp[Bool.or_assoc,List.take_of_length_le]
 ·have Cv:Sz.sz ((QF (aM s) x).1)<=Sz.sz (QF (aM s) x).1:=by
   first
    | exact zA _ _
    | exact Nat.le_refl _
  rw[if_neg (by rw[show Qq s=false from hr];simp)]at dt;refine⟨⟨by unfold QA;((try simp only[bT,Qx,aM,Qn,Qq,Qe,Qz,sX,sY,sG,sD,Qt,Qo,bg,QB,Qu,Qv,Qw]at *);omega),by rw[QY];((try simp only[bT,Qx,aM,Qn,Qq,Qe,Qz,sX,sY,sG,sD,Qt,Qo,bg,QB,Qu,Qv,Qw]at *);omega)⟩,λhl=>⟨by unfold QA;((try simp only[bT,Qx,aM,Qn,Qq,Qe,Qz,sX,sY,sG,sD,Qt,Qo,bg,QB,Qu,Qv,Qw]at *);omega),au ?_⟩,λhl=>au ?_⟩
  ·have hl:s.2.2.2.1=false:=by simpa using hl
   rw[dt];simp only[Qn,hl];simp[List.take_of_length_le]
  ·have hl:s.2.2.2.1=true:=by simpa using hl
   rw[dt];simp only[Qn,hl];simp[Bool.or_assoc,List.take_of_length_le]
theorem Q09:Qf Tryz.prog RI:=Qh λx h=>QVS x.1 x.2.1 x.2.2.1 x.2.2.2.1 h
def xi(t:Qc):aJ:=f0 (.a (aV.cells Qm t))
def RJ:aP:=Qg 28 [(.a Qm),(.c TI),(.c (.sl [TI])),(.c (.sl [TI]))] λx=>(some (oP x.1 x.2.1 x.2.2.1 x.2.2.2.1),xi (Yl x.1 x.2.1 x.2.2.1 x.2.2.2.1))
def RK:aN:=⟨[xh,wQ,Y6,AX,FU,PT,uB],false⟩
def QHg:af :=
 (ag [(.ae [an 130 9 5,ar 131 130 1,ab 132 1,ab 133 10,aD 134 (.build (bC QX) [(0,1,132),(1,1,133)]),aD 135 (.bO 108 QX [134]),aD 136 (.app 131 135 108 QX),an 137 9 5,a8 137 136 1]),(.ae [aZ 138 9 14,a8 8 138 14]),.ret])
def Q4m:List (Nat × Md):=[(1,.one .d),(8,.b (da 14)),(9,.b [.d,.d,.d,.d,.d,.f,.d,.d,.d,.d,.d,.d,.d,.d]),(10,.one .d)]
def QWn:af:=.wk Q4m QHg
def QC0:af :=
 (ag [(ag [(.ae [an 126 4 4,ar 127 126 1]),(.cond 127 (.ae [ab 128 10,aD 129 (.fO 128 none (some (aw 1)) [(.sl [TI])]),ab 10 129]) .skip)]),QWn])
def Q02:List (Nat × Md):=[(1,.one .d),(4,.b (da 14)),(8,.b (da 14)),(9,.b [.d,.d,.d,.d,.d,.f,.d,.d,.d,.d,.d,.d,.d,.d]),(10,.one .d)]
def QXz:af:=.wk Q02 QC0
def QPy:af :=
 (ag [(.ae [aD 4 (.box 39 0 14),aD 8 (.new 39 (bC Qm))]),(.ae [aZ 17 4 14,aL 18 61 [17],aD 9 (.new 39 (bC Qm)),a8 9 18 14]),(ag [(.ae [aZ 19 4 14,aL 20 63 [19],bL 21 20,ab 22 21,.bj 22 false [ab 23 2,aL 24 97 [23],bL 25 24] 26 25,ab 27 26,.bj 27 false [ab 28 2,bh 29 28,an 30 4 2,ar 31 30 1,bn 32 31 (aw 0) aK,an 33 32 1,ar 34 33 1,az 35 .neq 29 34] 36 35,ab 37 36,.bj 37 false [an 38 4 5,ar 39 38 1,ab 40 1,aL 41 62 [39,40],az 42 .geq 41 (aw 0)] 43 42,ab 44 43,.bj 44 false [an 45 4 3,ar 46 45 1,ab 47 46,.bj 47 true [ab 48 3,aL 49 97 [48],bL 50 49,ab 51 50,.bj 51 false [ab 52 3,bh 53 52,an 54 4 2,ar 55 54 1,an 56 4 2,ar 57 56 1,bh 58 57,az 59 .sub 58 (aw 1),bn 60 55 59 aK,an 61 60 2,ar 62 61 1,az 63 .neq 53 62] 64 63] 65 64] 66 65]),(.cond 66 (ag [(.ae [aZ 67 9 14,a8 8 67 14]),.ret]) .skip)]),(.ae [an 69 4 2,ar 70 69 1,ab 71 2,aL 72 64 [70,71],ab 68 72,bF 73 68 0,bF 74 68 1,ab 10 73,ab 11 74]),(.ae [ab 75 10,ab 76 10,bh 77 76,az 78 .sub 77 (aw 1),bn 79 75 78 [(.sl [TI])],an 80 79 0,ar 81 80 1,ab 12 81]),(.ae [aD 82 (.bO 3 [TI] []),an 83 9 7,a8 83 82 1]),(.ae [an 84 4 11,an 85 84 2,ar 86 85 1,ab 87 86,.bj 87 false [ab 88 11] 89 88,an 90 9 11,an 91 90 2,a8 91 89 1]),(ag [(.ae [an 92 4 3,ar 93 92 1]),(.cond 93 (ag [(.ae [ab 95 12,ab 96 3,aL 97 98 [95,96],ab 94 97,bF 98 94 0,bF 99 94 1,ab 13 98,ab 14 99]),(.ae [an 101 4 11,an 102 101 1,ar 103 102 1,ab 104 13,aL 105 99 [103,104],ab 100 105,bF 106 100 0,bF 107 100 1,ab 15 106,ab 16 107]),(.ae [ab 108 15,an 109 9 11,an 110 109 1,a8 110 108 1]),(.ae [an 111 9 11,an 112 111 2,ar 113 112 1,ab 114 113,.bj 114 false [ab 115 14] 116 115,ab 117 116,.bj 117 false [ab 118 16] 119 118,an 120 9 11,an 121 120 2,a8 121 119 1])]) (.ae [aD 122 (.bO 3 [TI] []),ab 123 12,aD 124 (.app 122 123 3 [TI]),an 125 9 8,a8 125 124 1]))]),QXz])
def QB7:List (bw × Md):=[(.l 8 14 true,.b (da 14))]
def QwA:Qb:=TQ 0 0 QB7 K
@[irreducible] def Gr(s:Qc)(m:Int)(y8:List Int)(kF:Int)(kG:Bool)(r:List (List Int)):Prop:=let z1:=id (α:=Qc) s
 let z2:=List.take ((z1.2.2.2.2.2.1).length) (z1.2.2.2.2.2.1)
 aU RK 0 QHg (QwA K) ⟨[(1,(aO m)),(8,(.p 0 0 0)),(9,(.p 2 0 0)),(10,(bu [(.sl [TI])] r))],[(0,(.box (aV.cells Qm ((0:Int),[],[],false,false,[],[],[],[],[],[],[],(0:Int),false)))),(1,(.sl 108 QX .ow (List.take (z2.length) z2))),(2,(.box [(aO (z1.1)),(bu Qs (z1.2.1)),(bu aK (z1.2.2.1)),(bH (z1.2.2.2.1)),(bH (z1.2.2.2.2.1)),(.r QX 1 0 ((List.take (z2.length) z2).length)),(bu [(.sl [TI])] (z1.2.2.2.2.2.2.1)),(bu [TI] ([]:List Int)),(bu [TI] y8),(bu [TI] (z1.2.2.2.2.2.2.2.2.2.1)),(bu [TI] (z1.2.2.2.2.2.2.2.2.2.2.1)),(bu [(.sl [TI])] (z1.2.2.2.2.2.2.2.2.2.2.2.1)),(aO kF),(bH kG)]))],3⟩
@[irreducible] def Gs(s:Qc)(m:Int)(x:List Int)(y8:List Int)(kF:Int)(kG:Bool):Prop:=let z1:=id (α:=Qc) s
 let z2:=List.take ((z1.2.2.2.2.2.1).length) (z1.2.2.2.2.2.1)
 aU RK 0 QC0 (QwA K) ⟨[(1,(aO m)),(4,(.p 0 0 0)),(8,(.p 1 0 0)),(9,(.p 3 0 0)),(10,(bu [(.sl [TI])] ((QF s.2.2.1 x).1)))],[(0,(.box (aV.cells Qm s))),(1,(.box (aV.cells Qm ((0:Int),[],[],false,false,[],[],[],[],[],[],[],(0:Int),false)))),(2,(.sl 108 QX .ow z2)),(3,(.box [(aO (z1.1)),(bu Qs (z1.2.1)),(bu aK (z1.2.2.1)),(bH (z1.2.2.2.1)),(bH (z1.2.2.2.2.1)),(.r QX 2 0 (z2.length)),(bu [(.sl [TI])] (z1.2.2.2.2.2.2.1)),(bu [TI] ([]:List Int)),(bu [TI] y8),(bu [TI] (z1.2.2.2.2.2.2.2.2.2.1)),(bu [TI] (z1.2.2.2.2.2.2.2.2.2.2.1)),(bu [(.sl [TI])] (z1.2.2.2.2.2.2.2.2.2.2.2.1)),(aO kF),(bH kG)]))],4⟩
theorem QLb(s:Qc)(m:Int)(y8:List Int)(kF:Int)(kG:Bool)(r:List (List Int)) (h :
 let z2:=id (α:=Qc) s
 let z3:=List.take ((z2.2.2.2.2.2.1).length) (z2.2.2.2.2.2.1)
 let z1:=List.take (z3.length) z3
 (((z1.length=z1.length\/z1.length+1<=z1.length)/\z1.length+1<=bP)/\K (xi (z2.1,z2.2.1,z2.2.2.1,z2.2.2.2.1,z2.2.2.2.2.1,(List.take (z1.length+1) (List.drop 0 ((List.take (z1.length) z1)++([(m,r)])))),z2.2.2.2.2.2.2.1,([]:List Int),y8,z2.2.2.2.2.2.2.2.2.2.1,z2.2.2.2.2.2.2.2.2.2.2.1,z2.2.2.2.2.2.2.2.2.2.2.2.1,kF,kG)))):cz (Gr K s m y8 kF kG r) :=
 cz.of h
theorem QTh(s:Qc)(m:Int)(x:List Int)(y8:List Int)(kF:Int)(kG:Bool) (h :
 (aS s.2.2.2.2.1 (((0:Int)<=0/\(0:Int)<=1/\1<=(((QF s.2.2.1 x).1).length:Int))/\(Gr K s m y8 kF kG (List.take (Int.toNat 1-Int.toNat 0) (List.drop (Int.toNat 0) ((QF s.2.2.1 x).1))))) (Gr K s m y8 kF kG ((QF s.2.2.1 x).1)))):cz (Gs K s m x y8 kF kG) :=
 cz.of h
theorem QYA(s:Qc)(m:Int)(x:List Int)(t:List Int)(hp:oP s m x t):aR Tryz.prog 28 [(.a (aV.cells Qm s)),(.c TI m),(.c (.sl [TI]) x),(.c (.sl [TI]) t)] (xi (Yl s m x t)):=by
 refine bD RK QPy QB7 0 0 139 RJ (kc Gq (kc E0 (kc Ji (kc OU (kc Qya (kc QUT (kc Au kn))))))) (λK =>
 let z2:=id (α:=Qc) s
 let z3:=QF s.2.2.1 x
 let z1:=aq ([]:List Int) (z3.1) (Int.toNat (aI (((z3.1).length:Int)-1)))
 let z4:=Q4 s.2.2.2.2.2.2.2.2.2.2.2.2.1 ((ZO z1 t).1)
 let z5:=aI (((s.2.2.1).length:Int)-1)
 ((QA (α:=Qc) s)/\((((!((!(QU s))||(!(QH x))))=true->((0:Int)<=0/\Int.toNat 0<(s.2.2.1).length))/\((!((((!(QU s))||(!(QH x)))||((x.length:Int) != ((aq bY s.2.2.1 (Int.toNat 0)).2.1)))||(decide ((QJ s.2.2.2.2.2.1 m)>=0))))=true->(s.2.2.2.1=true->((!(!(QH t)))=true->(0<=aI (((s.2.2.1).length:Int)-1)/\Int.toNat z5<(s.2.2.1).length)))))/\(aS (((((!(QU s))||(!(QH x)))||((x.length:Int) != ((aq bY s.2.2.1 (Int.toNat 0)).2.1)))||(decide ((QJ s.2.2.2.2.2.1 m)>=0)))||(s.2.2.2.1&&((!(QH t))||((t.length:Int) != ((aq bY s.2.2.1 (Int.toNat z5)).2.2.1))))) (K (xi (z2.1,z2.2.1,z2.2.2.1,z2.2.2.2.1,z2.2.2.2.2.1,(List.take ((z2.2.2.2.2.2.1).length) (List.drop 0 (z2.2.2.2.2.2.1))),z2.2.2.2.2.2.2.1,z2.2.2.2.2.2.2.2.1,z2.2.2.2.2.2.2.2.2.1,z2.2.2.2.2.2.2.2.2.2.1,z2.2.2.2.2.2.2.2.2.2.2.1,z2.2.2.2.2.2.2.2.2.2.2.2.1,z2.2.2.2.2.2.2.2.2.2.2.2.2.1,z2.2.2.2.2.2.2.2.2.2.2.2.2.2))) ((Dj s.2.2.1 x)/\((0<=aI (((z3.1).length:Int)-1)/\Int.toNat (aI (((z3.1).length:Int)-1))<(z3.1).length)/\(aS s.2.2.2.1 (Gs K s m x (z2.2.2.2.2.2.2.2.2.1) (z4.1) (((s.2.2.2.2.2.2.2.2.2.2.2.2.2||(z3.2))||((ZO z1 t).2))||(z4.2))) (((0=0\/0+z1.length<=0)/\0+z1.length<=bP)/\(Gs K s m x (List.take (0+z1.length) (List.drop 0 z1)) (z2.2.2.2.2.2.2.2.2.2.2.2.2.1) (s.2.2.2.2.2.2.2.2.2.2.2.2.2||(z3.2))))))))))) (λhb=>?_)
 conv=>zeta
 have iN:Sz.sz s<=2147483648:=hp;have hs:=Z3 s;have l1:=Yk (Qe s);simp only[id,List.drop_zero,List.take_length,true_or,true_and,Nat.zero_add];have l7:QU s=true->Int.toNat (aI ((s.2.2.1.length:Int)-1))=s.2.2.1.length-1/\0<=aI ((s.2.2.1.length:Int)-1)/\1<=s.2.2.1.length:=by
  intro h;have:=Yp (JL h);rw[Qy (by((try simp only[bT,Qx,aM,Qn,Qq,Qe,Qz,sX,sY,sG,sD,Qt,Qo,bg,QB,Qu,Qv,Qw]at *);omega)) (by((try simp only[bT,Qx,aM,Qn,Qq,Qe,Qz,sX,sY,sG,sD,Qt,Qo,bg,QB,Qu,Qv,Qw]at *);omega))];((try simp only[bT,Qx,aM,Qn,Qq,Qe,Qz,sX,sY,sG,sD,Qt,Qo,bg,QB,Qu,Qv,Qw]at *);omega)
 have e:=QV3 s m x t (Int.toNat (aI ((s.2.2.1.length:Int)-1))) (λh=>(l7 h).1);have hb:∀ {b x:Bool},(!((!b)||x))=true->b=true:=by intro b x h;cases b <;> simp_all
 refine⟨hp,⟨λh=>⟨by omega,?_⟩,λh _ _=>?_⟩,λh=>au ?_,λh=>?_⟩
 ·have:=l7 (hb h);simp;((try simp only[bT,Qx,aM,Qn,Qq,Qe,Qz,sX,sY,sG,sD,Qt,Qo,bg,QB,Qu,Qv,Qw]at *);omega)
 ·have h:QU s=true:=by
   cases hh:QU s
   ·rw[hh]at h;simp at h
   ·rfl
  have:=l7 h;exact⟨this.2.1,by((try simp only[bT,Qx,aM,Qn,Qq,Qe,Qz,sX,sY,sG,sD,Qt,Qo,bg,QB,Qu,Qv,Qw]at *);omega)⟩
 ·have e:(!JB s m x t)=true:=e ▸ h;simp only[Bool.not_eq_true']at e;rw[Ry (by rw[e];simp)]
 have e:(!JB s m x t)=false:=e ▸ h;have e:JB s m x t=true:=by simpa using e
 have e2:=e;simp only[JB,Bool.and_eq_true]at e2;have hm:=JL e2.1.1.1;have dj:=Yp hm;have vK:=t8 (aM s) x;have hx6:=Jy e2.1.1.2;have b7:=Bp (aM s) x;have dt:=QFw e;have hw:aI (((QF (aM s) x).1.length:Int)-1)=((aM s).length:Nat):=by rw[vK,Qy (by((try simp only[bT,Qx,aM,Qn,Qq,Qe,Qz,sX,sY,sG,sD,Qt,Qo,bg,QB,Qu,Qv,Qw]at *);omega)) (by((try simp only[bT,Qx,aM,Qn,Qq,Qe,Qz,sX,sY,sG,sD,Qt,Qo,bg,QB,Qu,Qv,Qw]at *);omega))];((try simp only[bT,Qx,aM,Qn,Qq,Qe,Qz,sX,sY,sG,sD,Qt,Qo,bg,QB,Qu,Qv,Qw]at *);omega)
 have qQ:=qs [] (QF (aM s) x).1 (aM s).length;have hgi:=ZR (aq [] (QF (aM s) x).1 (aM s).length);have e0:Sz.sz ([]:List Int)=0:=rfl;have k1:∀ y8 kF kG,y8=(if Qn s then sY s else aq [] (QF (aM s) x).1 (aM s).length)->
   kF=(if Qn s then(Q4 (Qo s) (ZO (aq [] (QF (aM s) x).1 (aM s).length) t).1).1 else Qo s)->
   kG=(bg s||(QF (aM s) x).2||(Qn s&&((ZO (aq [] (QF (aM s) x).1 (aM s).length) t).2||(Q4 (Qo s) (ZO (aq [] (QF (aM s) x).1 (aM s).length) t).1).2)))->Gs (λr'=>r'=xi (Yl s m x t)) s m x y8 kF kG:=by
  intro y8 kF kG h1 h2 h3;have k2:∀ r,r=(if Qq s then(QF (aM s) x).1.take 1 else(QF (aM s) x).1)->Gr (λr'=>r'=xi (Yl s m x t)) s m y8 kF kG r:=by
   intro r hr;refine(QLb _ _ _ _ _ _ _ ?_).h
   conv=>zeta
   simp only[id,List.drop_zero,List.take_length,true_or,true_and,Nat.zero_add,Zc];refine⟨by rw[QY];((try simp only[bT,Qx,aM,Qn,Qq,Qe,Qz,sX,sY,sG,sD,Qt,Qo,bg,QB,Qu,Qv,Qw]at *);omega),au ?_⟩;rw[dt,<- hr,<- h1,<- h2,<- h3];simp[List.take_of_length_le]
  refine(QTh _ _ _ _ _ _ _ ⟨λhr=>⟨by((try simp only[bT,Qx,aM,Qn,Qq,Qe,Qz,sX,sY,sG,sD,Qt,Qo,bg,QB,Qu,Qv,Qw]at *);omega),k2 _ ?_⟩,λhr=>k2 _ ?_⟩).h
  ·rw[if_pos hr];rfl
  ·rw[if_neg (by rw[show Qq s=false from hr];simp)]
 rw[hw];refine⟨⟨by((try simp only[bT,Qx,aM,Qn,Qq,Qe,Qz,sX,sY,sG,sD,Qt,Qo,bg,QB,Qu,Qv,Qw]at *);omega),by omega⟩,⟨by omega,by rw[Int.toNat_natCast];((try simp only[bT,Qx,aM,Qn,Qq,Qe,Qz,sX,sY,sG,sD,Qt,Qo,bg,QB,Qu,Qv,Qw]at *);omega)⟩,λhl=>k1 _ _ _ ?_ ?_ ?_,λhl=>⟨?_,k1 _ _ _ ?_ ?_ ?_⟩⟩
 ·rw[if_pos hl]
 ·rw[if_pos hl,Int.toNat_natCast]
 ·rw[show Qn s=true from hl,Int.toNat_natCast];simp[Bool.or_assoc]
 ·rw[Int.toNat_natCast,QY];((try simp only[bT,Qx,aM,Qn,Qq,Qe,Qz,sX,sY,sG,sD,Qt,Qo,bg,QB,Qu,Qv,Qw]at *);omega)
 ·rw[if_neg (by rw[show Qn s=false from hl];simp),Int.toNat_natCast]
 ·rw[if_neg (by rw[show Qn s=false from hl];simp)]
 ·rw[show Qn s=false from hl];simp
theorem QT4:Qf Tryz.prog RJ:=Qh λx h=>QYA x.1 x.2.1 x.2.2.1 x.2.2.2.1 h
def Gt(t:Qc):aJ:=⟨(.a [(aO t.1),(.r Qs 0 0 ((t.2.1).length)),(.r aK 1 0 ((t.2.2.1).length)),(bH t.2.2.2.1),(bH t.2.2.2.2.1),(.r QX 2 0 ((t.2.2.2.2.2.1).length)),(.r [(.sl [TI])] 3 0 ((t.2.2.2.2.2.2.1).length)),(.r [TI] 4 0 ((t.2.2.2.2.2.2.2.1).length)),(.r [TI] 5 0 ((t.2.2.2.2.2.2.2.2.1).length)),(.r [TI] 6 0 ((t.2.2.2.2.2.2.2.2.2.1).length)),(.r [TI] 7 0 ((t.2.2.2.2.2.2.2.2.2.2.1).length)),(.r [(.sl [TI])] 8 0 ((t.2.2.2.2.2.2.2.2.2.2.2.1).length)),(aO t.2.2.2.2.2.2.2.2.2.2.2.2.1),(bH t.2.2.2.2.2.2.2.2.2.2.2.2.2)]),[(.sl 175 Qs (.dp 0 true []) t.2.1),(.sl 134 aK (.dp 0 true []) t.2.2.1),(.sl 108 QX (.dp 0 true []) t.2.2.2.2.2.1),(.sl 106 [(.sl [TI])] (.dp 0 true []) t.2.2.2.2.2.2.1),(.sl 3 [TI] (.dp 0 true []) t.2.2.2.2.2.2.2.1),(.sl 3 [TI] (.dp 0 true []) t.2.2.2.2.2.2.2.2.1),(.sl 3 [TI] (.dp 0 true []) t.2.2.2.2.2.2.2.2.2.1),(.sl 3 [TI] (.dp 0 true []) t.2.2.2.2.2.2.2.2.2.2.1),(.sl 106 [(.sl [TI])] (.dp 0 true []) t.2.2.2.2.2.2.2.2.2.2.2.1)],[],false,[]⟩
def RN:aP:=Qg 15 [(.a Qm),(.c TI)] λx=>(some (rV x.1 x.2.1),Gt (YI x.1 x.2.1))
def QUS:aN:=⟨[xf,AZ,wP,wL,FQ],true⟩
def QMg:af :=
 (ag [(.ae [aD 2 (.box 39 0 14),aD 4 (.new 39 (bC Qm))]),(.ae [aZ 7 2 14,aL 8 70 [7],aD 5 (.new 39 (bC Qm)),a8 5 8 14]),(.ae [an 9 2 5,ar 10 9 1,ab 11 1,aL 12 71 [10,11],ab 6 12]),(ag [(.ae [aZ 13 2 14,aL 14 72 [13],bL 15 14,ab 16 15,.bj 16 false [ab 17 6,az 18 .lss 17 (aw 0)] 19 18]),(.cond 19 (ag [(.ae [aZ 20 5 14,a8 4 20 14]),.ret]) .skip)]),(.draw [aZ 22 2 14,aL 23 74 [22],an 24 2 5,ar 25 24 1,ab 26 6,bn 27 25 26 QX,an 28 27 1,ar 29 28 1,bn 30 29 (aw 0) [(.sl [TI])],an 31 30 0,ar 32 31 1,aL 33 73 [23,32],ab 21 33,bF 34 21 0,bF 35 21 1,an 36 5 6,a8 36 34 1] [(1,2),(1,3),(1,5),(1,6),(1,7),(1,8),(1,9),(1,10)]),(.ae [aZ 37 5 14,a8 4 37 14]),.ret])
def Q2x:List (bw × Md):=[(.l 4 14 true,.b [.d,.p 175,.p 134,.d,.d,.p 108,.p 106,.p 3,.p 3,.p 3,.p 3,.p 106,.d,.d])]
theorem QSt(s:Qc)(m:Int)(hp:rV s m):aR Tryz.prog 15 [(.a (aV.cells Qm s)),(.c TI m)] (Gt (YI s m)):=by
 refine bD QUS QMg Q2x 0 0 38 RN (kc Gn (kc OW (kc EV (kc EN (kc QAM kn))))) (λK =>
 let z1:=id (α:=Qc) s
 let z3:=QJ s.2.2.2.2.2.1 m
 let z2:=oD (ZF s) (aq ([]:List Int) ((aq Zb s.2.2.2.2.2.1 (Int.toNat z3)).2) (Int.toNat 0))
 let z4:=List.take ((z1.2.2.2.2.2.2.2.2.2.2.2.1).length) (z1.2.2.2.2.2.2.2.2.2.2.2.1)
 let z5:=List.take ((z1.2.2.2.2.2.2.2.2.2.2.1).length) (z1.2.2.2.2.2.2.2.2.2.2.1)
 let z6:=List.take ((z1.2.2.2.2.2.2.2.2.2.1).length) (z1.2.2.2.2.2.2.2.2.2.1)
 let z7:=List.take ((z1.2.2.2.2.2.2.2.2.1).length) (z1.2.2.2.2.2.2.2.2.1)
 let z8:=List.take ((z1.2.2.2.2.2.2.2.1).length) (z1.2.2.2.2.2.2.2.1)
 let z9:=List.take ((z1.2.2.2.2.2.1).length) (z1.2.2.2.2.2.1)
 ((QA (α:=Qc) s)/\(aS ((!(QU s))||(decide (z3<0))) (K (Gt (z1.1,(List.take ((z1.2.1).length) (z1.2.1)),(List.take ((z1.2.2.1).length) (z1.2.2.1)),z1.2.2.2.1,z1.2.2.2.2.1,z9,(List.take ((z1.2.2.2.2.2.2.1).length) (z1.2.2.2.2.2.2.1)),z8,z7,z6,z5,z4,z1.2.2.2.2.2.2.2.2.2.2.2.2.1,z1.2.2.2.2.2.2.2.2.2.2.2.2.2))) (((0<=z3/\Int.toNat z3<(s.2.2.2.2.2.1).length)/\((0:Int)<=0/\Int.toNat 0<((aq Zb s.2.2.2.2.2.1 (Int.toNat z3)).2).length))/\K (Gt (z1.1,(List.take ((z1.2.1).length) (z1.2.1)),(List.take ((z1.2.2.1).length) (z1.2.2.1)),z1.2.2.2.1,z1.2.2.2.2.1,z9,(List.take ((z2.1).length) (z2.1)),z8,z7,z6,z5,z4,z1.2.2.2.2.2.2.2.2.2.2.2.2.1,z1.2.2.2.2.2.2.2.2.2.2.2.2.2)))))) (λhb=>?_)
 conv=>zeta
 have iN:Sz.sz s<=2147483648:=hp;simp only[id,List.drop_zero,List.take_length];rw[Gg];refine⟨hp,λh=>au ?_,λh=>?_⟩
 ·simp only[Bool.not_eq_true']at h;rw[QDU (by rw[h];simp)]
 have h:(QU s&&decide (0<=QJ (Qe s) m))=true:=by simpa using h
 have h':=h;simp only[Bool.and_eq_true,decide_eq_true_eq]at h';have hf:=Bq (Qe s) m;have hk:(QJ (Qe s) m).toNat<(Qe s).length:=by omega
 have hr:=Rv h'.1 (Ru h'.1 _ (Js hk Zb));have ei:oD (ZF s) (aq [] (aq Zb s.2.2.2.2.2.1 (QJ s.2.2.2.2.2.1 m).toNat).2 0)=QF (aM s) (aq [] (aq Zb s.2.2.2.2.2.1 (QJ s.2.2.2.2.2.1 m).toNat).2 0):=LF (JL h'.1) hr.2.2;refine⟨⟨⟨h'.2,hk⟩,⟨by omega,hr.1⟩⟩,au ?_⟩;rw[show Int.toNat 0=0 from rfl,ei];unfold YI;simp only;rw[if_pos h]
theorem QQH:Qf Tryz.prog RN:=Qh λx h=>QSt x.1 x.2.1 h
def Gu(t:Qc):aJ:=f0 (.a (aV.cells Qm t))
def RO:aP:=Qg 13 [(.a Qm),(.c TI)] λx=>(some (rV x.1 x.2.1),Gu (YI x.1 x.2.1))
def QZG:aN:=⟨[xh,AX,wQ,FU],false⟩
def QU0:af :=
 (ag [(.ae [aD 2 (.box 39 0 14),aD 4 (.new 39 (bC Qm))]),(.ae [aZ 9 2 14,aL 10 61 [9],aD 5 (.new 39 (bC Qm)),a8 5 10 14]),(.ae [an 11 2 5,ar 12 11 1,ab 13 1,aL 14 62 [12,13],ab 6 14]),(ag [(.ae [aZ 15 2 14,aL 16 63 [15],bL 17 16,ab 18 17,.bj 18 false [ab 19 6,az 20 .lss 19 (aw 0)] 21 20]),(.cond 21 (ag [(.ae [aZ 22 5 14,a8 4 22 14]),.ret]) .skip)]),(.draw [an 24 2 2,ar 25 24 1,an 26 2 5,ar 27 26 1,ab 28 6,bn 29 27 28 QX,an 30 29 1,ar 31 30 1,bn 32 31 (aw 0) [(.sl [TI])],an 33 32 0,ar 34 33 1,aL 35 64 [25,34],ab 23 35,bF 36 23 0,bF 37 23 1,ab 7 36,ab 8 37] []),(.ae [ab 38 7,an 39 5 6,a8 39 38 1]),(.ae [aZ 40 5 14,a8 4 40 14]),.ret])
def QLp:List (bw × Md):=[(.l 4 14 true,.b (da 14))]
theorem QOP(s:Qc)(m:Int)(hp:rV s m):aR Tryz.prog 13 [(.a (aV.cells Qm s)),(.c TI m)] (Gu (YI s m)):=by
 refine bD QZG QU0 QLp 0 0 41 RO (kc Gq (kc OU (kc E0 (kc Qya kn)))) (λK =>
 let z1:=id (α:=Qc) s
 let z2:=QJ s.2.2.2.2.2.1 m
 let z3:=aq ([]:List Int) ((aq Zb s.2.2.2.2.2.1 (Int.toNat z2)).2) (Int.toNat 0)
 let z4:=List.take ((z1.2.2.2.2.2.1).length) (List.drop 0 (z1.2.2.2.2.2.1))
 ((QA (α:=Qc) s)/\(aS ((!(QU s))||(decide (z2<0))) (K (Gu (z1.1,z1.2.1,z1.2.2.1,z1.2.2.2.1,z1.2.2.2.2.1,z4,z1.2.2.2.2.2.2.1,z1.2.2.2.2.2.2.2.1,z1.2.2.2.2.2.2.2.2.1,z1.2.2.2.2.2.2.2.2.2.1,z1.2.2.2.2.2.2.2.2.2.2.1,z1.2.2.2.2.2.2.2.2.2.2.2.1,z1.2.2.2.2.2.2.2.2.2.2.2.2.1,z1.2.2.2.2.2.2.2.2.2.2.2.2.2))) (((0<=z2/\Int.toNat z2<(s.2.2.2.2.2.1).length)/\(((0:Int)<=0/\Int.toNat 0<((aq Zb s.2.2.2.2.2.1 (Int.toNat z2)).2).length)/\(Dj s.2.2.1 z3)))/\K (Gu (z1.1,z1.2.1,z1.2.2.1,z1.2.2.2.1,z1.2.2.2.2.1,z4,(QF s.2.2.1 z3).1,z1.2.2.2.2.2.2.2.1,z1.2.2.2.2.2.2.2.2.1,z1.2.2.2.2.2.2.2.2.2.1,z1.2.2.2.2.2.2.2.2.2.2.1,z1.2.2.2.2.2.2.2.2.2.2.2.1,z1.2.2.2.2.2.2.2.2.2.2.2.2.1,z1.2.2.2.2.2.2.2.2.2.2.2.2.2)))))) (λhb=>?_)
 conv=>zeta
 have iN:Sz.sz s<=2147483648:=hp;simp only[id,List.drop_zero,List.take_length];rw[Gg];refine⟨hp,λh=>au ?_,λh=>?_⟩
 ·simp only[Bool.not_eq_true']at h;rw[QDU (by rw[h];simp)]
 have h:(QU s&&decide (0<=QJ (Qe s) m))=true:=by simpa using h
 have h':=h;simp only[Bool.and_eq_true,decide_eq_true_eq]at h';have hf:=Bq (Qe s) m;have hk:(QJ (Qe s) m).toNat<(Qe s).length:=by omega
 have hr:=Rv h'.1 (Ru h'.1 _ (Js hk Zb));have hv:=Jy hr.2.2;have dj:=Yp (JL h'.1);refine⟨⟨⟨h'.2,hk⟩,⟨by omega,hr.1⟩,⟨by((try simp only[bT,Qx,aM,Qn,Qq,Qe,Qz,sX,sY,sG,sD,Qt,Qo,bg,QB,Qu,Qv,Qw]at *);omega),Nat.le_trans hv (by omega)⟩⟩,au ?_⟩;rw[show Int.toNat 0=0 from rfl];unfold YI;simp only;rw[if_pos h]
theorem Q3A:Qf Tryz.prog RO:=Qh λx h=>QOP x.1 x.2.1 h
def J3(t:Qc):aJ:=⟨(.a [(aO t.1),(.r Qs 0 0 ((t.2.1).length)),(.r aK 1 0 ((t.2.2.1).length)),(bH t.2.2.2.1),(bH t.2.2.2.2.1),(.r QX 2 0 ((t.2.2.2.2.2.1).length)),(.r [(.sl [TI])] 3 0 ((t.2.2.2.2.2.2.1).length)),(.r [TI] 4 0 ((t.2.2.2.2.2.2.2.1).length)),(.r [TI] 5 0 ((t.2.2.2.2.2.2.2.2.1).length)),(.r [TI] 6 0 ((t.2.2.2.2.2.2.2.2.2.1).length)),(.r [TI] 7 0 ((t.2.2.2.2.2.2.2.2.2.2.1).length)),(.r [(.sl [TI])] 8 0 ((t.2.2.2.2.2.2.2.2.2.2.2.1).length)),(aO t.2.2.2.2.2.2.2.2.2.2.2.2.1),(bH t.2.2.2.2.2.2.2.2.2.2.2.2.2)]),[(.sl 175 Qs (.dp 0 true []) t.2.1),(.sl 134 aK (.dp 0 true []) t.2.2.1),(.sl 108 QX (.dp 0 true []) t.2.2.2.2.2.1),(.sl 106 [(.sl [TI])] (.dp 0 true []) t.2.2.2.2.2.2.1),(.sl 3 [TI] (.dp 0 true []) t.2.2.2.2.2.2.2.1),(.sl 3 [TI] (.dp 0 true []) t.2.2.2.2.2.2.2.2.1),(.sl 3 [TI] (.dp 0 true []) t.2.2.2.2.2.2.2.2.2.1),(.sl 3 [TI] (.dp 0 true []) t.2.2.2.2.2.2.2.2.2.2.1),(.sl 106 [(.sl [TI])] (.dp 0 true []) t.2.2.2.2.2.2.2.2.2.2.2.1)],[],false,[]⟩
def RP:aP:=Qg 32 [(.a Qm),(.c TI),(.c (.sl [TI]))] λx=>(some (rW x.1 x.2.1 x.2.2.1),J3 (ZM x.1 x.2.1 x.2.2.1))
def Q12:aN:=⟨[xf,AZ,wP,EP,Fa,wL,wx,J1,PW,Oc],true⟩
def QNG:af :=
 (ag [(.ae [aD 3 (.box 39 0 14),aD 6 (.new 39 (bC Qm))]),(.ae [aZ 15 3 14,aL 16 70 [15],aD 7 (.new 39 (bC Qm)),a8 7 16 14]),(.ae [an 17 3 5,ar 18 17 1,ab 19 1,aL 20 71 [18,19],ab 8 20]),(ag [(.ae [aZ 21 3 14,aL 22 72 [21],bL 23 22,ab 24 23,.bj 24 false [ab 25 8,az 26 .lss 25 (aw 0)] 27 26]),(.cond 27 (ag [(.ae [aZ 28 7 14,a8 6 28 14]),.ret]) .skip)]),(.ae [an 29 7 5,ar 30 29 1,ab 31 8,bn 32 30 31 QX,an 33 32 1,ar 34 33 1,ab 9 34]),(ag [(.ae [an 35 3 4,ar 36 35 1]),(.cond 36 (.ae [an 37 7 6,ar 38 37 1,ab 9 38]) .skip)]),(.ae [an 39 3 2,ar 40 39 1,bh 41 40,ab 10 41]),(ag [(.ae [ab 42 9,bh 43 42,ab 44 10,az 45 .add 44 (aw 1),az 46 .neq 43 45,ab 47 46,.bj 47 false [an 48 3 2,ar 49 48 1,ab 50 9,ab 51 10,aL 52 110 [49,50,51],bL 53 52] 54 53]),(.cond 54 (ag [(.ae [aZ 55 7 14,a8 6 55 14]),.ret]) .skip)]),(.ae [an 56 7 9,ar 57 56 1,ab 11 57,ab 12 (bm false)]),(ag [(.ae [an 58 3 3,ar 59 58 1]),(.cond 59 (.ae [ab 61 9,ab 62 10,bn 63 61 62 [(.sl [TI])],an 64 63 0,ar 65 64 1,ab 66 2,aL 67 111 [65,66],ab 60 67,bF 68 60 0,bF 69 60 1,ab 11 68,ab 12 69]) .skip)]),(ag [(.ae [ab 70 11,aZ 71 3 14,aL 72 74 [71],aL 73 102 [72],aL 74 100 [70,73],bL 75 74]),(.cond 75 (ag [(.ae [aZ 76 7 14,a8 6 76 14]),.ret]) .skip)]),(.ae [an 78 3 2,ar 79 78 1,ab 80 9,ab 81 11,aL 82 112 [79,80,81],ab 77 82,bF 83 77 0,bF 84 77 1,bF 85 77 2,ab 13 83,ab 11 84,ab 14 85]),(.ae [an 86 7 11,aZ 87 86 3,ab 88 13,ab 89 12,ab 90 89,.bj 90 false [ab 91 14] 92 91,aD 93 (.build (bC Q2) [(0,1,88),(2,1,92)]),aL 94 113 [87,93],an 95 7 11,a8 95 94 3]),(.ae [ab 96 11,an 97 7 10,a8 97 96 1]),(.ae [an 98 7 9,a8 98 (.k (.n [TI])) 1]),(.ae [an 99 7 6,a8 99 (.k (.n [(.sl [TI])])) 1]),(.draw [an 100 7 5,ar 101 100 1,ab 102 8,aD 103 (.fO 101 none (some 102) QX),an 104 7 5,ar 105 104 1,ab 106 8,az 107 .add 106 (aw 1),aD 108 (.fO 105 (some 107) none QX),aD 109 (.app 103 108 108 QX),an 110 7 5,a8 110 109 1] []),(.ae [aZ 111 7 14,a8 6 111 14]),.ret])
def QWf:List (bw × Md):=[(.l 6 14 true,.b [.d,.p 175,.p 134,.d,.d,.p 108,.p 106,.p 3,.p 3,.p 3,.p 3,.p 106,.d,.d])]
theorem QJi(s:Qc)(m:Int)(t:List Int)(hp:rW s m t):aR Tryz.prog 32 [(.a (aV.cells Qm s)),(.c TI m),(.c (.sl [TI]) t)] (J3 (ZM s m t)):=by
 refine bD Q12 QNG QWf 0 0 112 RP (kc Gn (kc OW (kc EV (kc Qyc (kc QFP (kc EN (kc DO (kc nr (kc QOB (kc QJp kn)))))))))) (λK =>
 let z1:=id (α:=Qc) s
 let z5:=List.take ((z1.2.2.2.2.2.2.2.2.2.1).length) (List.drop 0 (z1.2.2.2.2.2.2.2.2.2.1))
 let z7:=List.take ((z1.2.2.2.2.2.2.2.2.2.2.2.1).length) (List.drop 0 (z1.2.2.2.2.2.2.2.2.2.2.2.1))
 let z8:=List.take ((z1.2.2.2.2.2.2.1).length) (List.drop 0 (z1.2.2.2.2.2.2.1))
 let eF:=QJ s.2.2.2.2.2.1 m
 let z6:=aq Zb (z1.2.2.2.2.2.1) (0+(Int.toNat eF))
 let z9:=Int.toNat eF-Int.toNat 0
 let ik:=List.take ((z1.2.2.2.2.2.2.2.2.1).length) (z1.2.2.2.2.2.2.2.2.1)
 let ia:=List.take ((z1.2.2.2.2.2.2.2.1).length) (z1.2.2.2.2.2.2.2.1)
 let oR:=List.take ((z1.2.2.2.2.2.2.2.2.2.2.2.1).length) (z1.2.2.2.2.2.2.2.2.2.2.2.1)
 let oS:=List.take ((z1.2.2.2.2.2.2.2.2.2.2.1).length) (z1.2.2.2.2.2.2.2.2.2.2.1)
 let lW:=List.take ((z1.2.2.2.2.2.2.2.2.2.1).length) (z1.2.2.2.2.2.2.2.2.2.1)
 let k9:=List.take ((z1.2.2.1).length) (z1.2.2.1)
 let la:=List.take ((z1.2.1).length) (z1.2.1)
 let oT:=List.take ((z1.2.2.2.2.2.2.1).length) (z1.2.2.2.2.2.2.1)
 let oU:=List.take ((z1.2.2.2.2.2.1).length) (z1.2.2.2.2.2.1)
 let xj:=QN s.2.2.1 (z6.2) z5
 let xk:=QN s.2.2.1 z8 z5
 let Gv:=aI (((s.2.2.1).length:Int)+1)
 let xl:=aI (eF+1)
 let z4:=List.take (Int.toNat (((z1.2.2.2.2.2.1).length:Nat):Int)-Int.toNat xl) (List.drop (0+Int.toNat xl) (z1.2.2.2.2.2.1))
 let uU:=List.take (z9+z4.length) ((List.take z9 (z1.2.2.2.2.2.1))++z4)
 let RQ:=Int.toNat ((s.2.2.1).length:Int)
 let gP:=QV (aq ([]:List Int) (z1.2.2.2.2.2.2.1) (0+RQ)) t
 let gm:=QV (aq ([]:List Int) (z6.2) RQ) t
 let RR:=List.take ((gP.1).length) (List.drop 0 (gP.1))
 let z3:=QN s.2.2.1 z8 RR
 let RS:=List.take ((gm.1).length) (List.drop 0 (gm.1))
 let z2:=QN s.2.2.1 (z6.2) RS
 let Gw:=Za (ZF s)
 let z35:=List.take ((xk.1).length) (List.drop 0 (xk.1))
 let iJ:=Z6 (z7,z1.2.2.2.2.2.2.2.2.2.2.2.2.1,z1.2.2.2.2.2.2.2.2.2.2.2.2.2) (z35,(0:Int),(false||(xk.2.2)))
 let z36:=List.take ((xj.1).length) (List.drop 0 (xj.1))
 let iI:=Z6 (z7,z1.2.2.2.2.2.2.2.2.2.2.2.2.1,z1.2.2.2.2.2.2.2.2.2.2.2.2.2) (z36,(0:Int),(false||(xj.2.2)))
 let z37:=List.take ((z3.1).length) (List.drop 0 (z3.1))
 let lV:=Z6 (z7,z1.2.2.2.2.2.2.2.2.2.2.2.2.1,z1.2.2.2.2.2.2.2.2.2.2.2.2.2) (z37,(0:Int),((gP.2)||(z3.2.2)))
 let z38:=List.take ((z2.1).length) (List.drop 0 (z2.1))
 let oQ:=Z6 (z7,z1.2.2.2.2.2.2.2.2.2.2.2.2.1,z1.2.2.2.2.2.2.2.2.2.2.2.2.2) (z38,(0:Int),((gm.2)||(z2.2.2)))
 ((QA (α:=Qc) s)/\(aS ((!(QU s))||(decide (eF<0))) (K (J3 (z1.1,la,k9,z1.2.2.2.1,z1.2.2.2.2.1,oU,oT,ia,ik,lW,oS,oR,z1.2.2.2.2.2.2.2.2.2.2.2.2.1,z1.2.2.2.2.2.2.2.2.2.2.2.2.2))) (((0<=eF/\Int.toNat eF<(z1.2.2.2.2.2.1).length)/\((0+(Int.toNat eF))<(z1.2.2.2.2.2.1).length))/\(aS s.2.2.2.2.1 (((!((((z1.2.2.2.2.2.2.1).length:Nat):Int) != Gv))=true->(zE s.2.2.1 z8 ((s.2.2.1).length:Int)))/\(aS (((((z1.2.2.2.2.2.2.1).length:Nat):Int) != Gv)||(!(Yg s.2.2.1 z8 ((s.2.2.1).length:Int)))) (K (J3 (z1.1,la,k9,z1.2.2.2.1,z1.2.2.2.2.1,oU,oT,ia,ik,lW,oS,oR,z1.2.2.2.2.2.2.2.2.2.2.2.2.1,z1.2.2.2.2.2.2.2.2.2.2.2.2.2))) (aS s.2.2.2.1 (((0<=((s.2.2.1).length:Int)/\Int.toNat ((s.2.2.1).length:Int)<(z1.2.2.2.2.2.2.1).length)/\((0+RQ)<(z1.2.2.2.2.2.2.1).length))/\(aS (!(Qr RR Gw)) (K (J3 (z1.1,la,k9,z1.2.2.2.1,z1.2.2.2.2.1,oU,oT,ia,ik,lW,oS,oR,z1.2.2.2.2.2.2.2.2.2.2.2.2.1,z1.2.2.2.2.2.2.2.2.2.2.2.2.2))) ((vZ s.2.2.1 z8 RR)/\((ZK (α:=QL) (β:=QL) (z7,z1.2.2.2.2.2.2.2.2.2.2.2.2.1,z1.2.2.2.2.2.2.2.2.2.2.2.2.2) (z37,(0:Int),((gP.2)||(z3.2.2))))/\((((0:Int)<=0/\0<=eF/\eF<=(((z1.2.2.2.2.2.1).length:Nat):Int))/\((0<=aI (eF+1)/\aI (eF+1)<=(((z1.2.2.2.2.2.1).length:Nat):Int)/\(((z1.2.2.2.2.2.1).length:Nat):Int)<=(((z1.2.2.2.2.2.1).length:Nat):Int))/\(((z9=(z1.2.2.2.2.2.1).length\/z9+z4.length<=(z1.2.2.2.2.2.1).length)/\z9+z4.length<=bP)/\(z9<=(0+Int.toNat xl)))))/\K (J3 (z1.1,la,k9,z1.2.2.2.1,z1.2.2.2.2.1,uU,([]:List (List Int)),ia,ik,([]:List Int),(List.take ((z3.2.1).length) (z3.2.1)),(List.take ((lV.1).length) (lV.1)),lV.2.1,lV.2.2))))))) (aS (!(Qr z5 Gw)) (K (J3 (z1.1,la,k9,z1.2.2.2.1,z1.2.2.2.2.1,oU,oT,ia,ik,lW,oS,oR,z1.2.2.2.2.2.2.2.2.2.2.2.2.1,z1.2.2.2.2.2.2.2.2.2.2.2.2.2))) ((vZ s.2.2.1 z8 z5)/\((ZK (α:=QL) (β:=QL) (z7,z1.2.2.2.2.2.2.2.2.2.2.2.2.1,z1.2.2.2.2.2.2.2.2.2.2.2.2.2) (z35,(0:Int),(false||(xk.2.2))))/\((((0:Int)<=0/\0<=eF/\eF<=(((z1.2.2.2.2.2.1).length:Nat):Int))/\((0<=aI (eF+1)/\aI (eF+1)<=(((z1.2.2.2.2.2.1).length:Nat):Int)/\(((z1.2.2.2.2.2.1).length:Nat):Int)<=(((z1.2.2.2.2.2.1).length:Nat):Int))/\(((z9=(z1.2.2.2.2.2.1).length\/z9+z4.length<=(z1.2.2.2.2.2.1).length)/\z9+z4.length<=bP)/\(z9<=(0+Int.toNat xl)))))/\K (J3 (z1.1,la,k9,z1.2.2.2.1,z1.2.2.2.2.1,uU,([]:List (List Int)),ia,ik,([]:List Int),(List.take ((xk.2.1).length) (xk.2.1)),(List.take ((iJ.1).length) (iJ.1)),iJ.2.1,iJ.2.2))))))))) (((!(((z6.2).length:Int) != Gv))=true->(zE s.2.2.1 (z6.2) ((s.2.2.1).length:Int)))/\(aS ((((z6.2).length:Int) != Gv)||(!(Yg s.2.2.1 (z6.2) ((s.2.2.1).length:Int)))) (K (J3 (z1.1,la,k9,z1.2.2.2.1,z1.2.2.2.2.1,oU,oT,ia,ik,lW,oS,oR,z1.2.2.2.2.2.2.2.2.2.2.2.2.1,z1.2.2.2.2.2.2.2.2.2.2.2.2.2))) (aS s.2.2.2.1 ((0<=((s.2.2.1).length:Int)/\Int.toNat ((s.2.2.1).length:Int)<(z6.2).length)/\(aS (!(Qr RS Gw)) (K (J3 (z1.1,la,k9,z1.2.2.2.1,z1.2.2.2.2.1,oU,oT,ia,ik,lW,oS,oR,z1.2.2.2.2.2.2.2.2.2.2.2.2.1,z1.2.2.2.2.2.2.2.2.2.2.2.2.2))) ((vZ s.2.2.1 (z6.2) RS)/\((ZK (α:=QL) (β:=QL) (z7,z1.2.2.2.2.2.2.2.2.2.2.2.2.1,z1.2.2.2.2.2.2.2.2.2.2.2.2.2) (z38,(0:Int),((gm.2)||(z2.2.2))))/\((((0:Int)<=0/\0<=eF/\eF<=(((z1.2.2.2.2.2.1).length:Nat):Int))/\((0<=aI (eF+1)/\aI (eF+1)<=(((z1.2.2.2.2.2.1).length:Nat):Int)/\(((z1.2.2.2.2.2.1).length:Nat):Int)<=(((z1.2.2.2.2.2.1).length:Nat):Int))/\(((z9=(z1.2.2.2.2.2.1).length\/z9+z4.length<=(z1.2.2.2.2.2.1).length)/\z9+z4.length<=bP)/\(z9<=(0+Int.toNat xl)))))/\K (J3 (z1.1,la,k9,z1.2.2.2.1,z1.2.2.2.2.1,uU,([]:List (List Int)),ia,ik,([]:List Int),(List.take ((z2.2.1).length) (z2.2.1)),(List.take ((oQ.1).length) (oQ.1)),oQ.2.1,oQ.2.2))))))) (aS (!(Qr z5 Gw)) (K (J3 (z1.1,la,k9,z1.2.2.2.1,z1.2.2.2.2.1,oU,oT,ia,ik,lW,oS,oR,z1.2.2.2.2.2.2.2.2.2.2.2.2.1,z1.2.2.2.2.2.2.2.2.2.2.2.2.2))) ((vZ s.2.2.1 (z6.2) z5)/\((ZK (α:=QL) (β:=QL) (z7,z1.2.2.2.2.2.2.2.2.2.2.2.2.1,z1.2.2.2.2.2.2.2.2.2.2.2.2.2) (z36,(0:Int),(false||(xj.2.2))))/\((((0:Int)<=0/\0<=eF/\eF<=(((z1.2.2.2.2.2.1).length:Nat):Int))/\((0<=aI (eF+1)/\aI (eF+1)<=(((z1.2.2.2.2.2.1).length:Nat):Int)/\(((z1.2.2.2.2.2.1).length:Nat):Int)<=(((z1.2.2.2.2.2.1).length:Nat):Int))/\(((z9=(z1.2.2.2.2.2.1).length\/z9+z4.length<=(z1.2.2.2.2.2.1).length)/\z9+z4.length<=bP)/\(z9<=(0+Int.toNat xl)))))/\K (J3 (z1.1,la,k9,z1.2.2.2.1,z1.2.2.2.2.1,uU,([]:List (List Int)),ia,ik,([]:List Int),(List.take ((xj.2.1).length) (xj.2.1)),(List.take ((iI.1).length) (iI.1)),iI.2.1,iI.2.2)))))))))))))) (λhb=>?_)
 conv=>zeta
 have iN:Sz.sz s<=2147483648:=hp;have hs:=Z3 s;have l1:=Yk (Qe s);obtain⟨kf,eK⟩:∃ kf,QJ s.2.2.2.2.2.1 m=kf:=⟨_,rfl⟩
 have hf:=Bq (Qe s) m;rw[show QJ (Qe s) m=kf from eK]at hf;have fK:YW s kf t=false->(ZM s m t)=s:=λh=>Qwo (by rw[show QJ (Qe s) m=kf from eK,h];simp);simp only[id,List.drop_zero,List.take_length,true_or,true_and,Nat.zero_add,Int.toNat_natCast];rw[Gg,show QJ (Qe s) m=kf from eK];refine⟨hp,λh=>au ?_,λh=>?_⟩
 ·rw[fK];simp only[Bool.not_eq_true']at h;rw[nK,h];rfl
 simp only[Bool.not_eq_false',Bool.and_eq_true,decide_eq_true_eq]at h;obtain⟨h1,h2⟩:=h;obtain⟨kn,rfl⟩:∃ kn:Nat,kf=kn:=⟨kf.toNat,by omega⟩
 have dj:1<=s.2.2.1.length/\s.2.2.1.length<=8:=Yp (JL h1);have gy:=QxR h1;have Bt:Sz.sz (α:=QL) s.2.2.2.2.2.2.2.2.2.2.2<=296:=Dq (JL h1) ⟨gy.1,gy.2⟩;have ajc:Sz.sz s.2.2.2.2.2.2.2.2.2.2.2.1<=296:=by have h:=Bt;simp only[Q9,Q1,ZJ]at h;omega
 have hk:kn<s.2.2.2.2.2.1.length:=by((try simp only[bT,Qx,aM,Qn,Qq,Qe,Qz,sX,sY,sG,sD,Qt,Qo,bg,QB,Qu,Qv,Qw]at *);omega)
 have rm:(List.take (s.2.2.2.2.2.1.length-(kn+1)) (List.drop (kn+1) s.2.2.2.2.2.1)).length=s.2.2.2.2.2.1.length-(kn+1):=by simp
 rw[dv (k:=s.2.2.1.length) (by omega),dv (k:=kn) (by((try simp only[bT,Qx,aM,Qn,Qq,Qe,Qz,sX,sY,sG,sD,Qt,Qo,bg,QB,Qu,Qv,Qw]at *);omega))];simp only[Int.toNat_natCast,show Int.toNat 0=0 from rfl,Nat.sub_zero];refine⟨⟨⟨h2,by((try simp only[bT,Qx,aM,Qn,Qq,Qe,Qz,sX,sY,sG,sD,Qt,Qo,bg,QB,Qu,Qv,Qw]at *);omega)⟩,by((try simp only[bT,Qx,aM,Qn,Qq,Qe,Qz,sX,sY,sG,sD,Qt,Qo,bg,QB,Qu,Qv,Qw]at *);omega)⟩,λiR=>?_,λiR=>?_⟩
 ·have uV:(s.2.2.2.2.2.2.1)=ZD s (kn:Int):=by unfold ZD;rw[if_pos (show Qq s=true from iR)];try rfl
  refine⟨λh=>?_,λh=>au ?_,λh=>?_⟩
  ·simp at h;exact⟨by omega,by omega,by omega⟩
  ·rw[fK];rw[nK,<- uV];simp only[Bool.or_eq_true,bne_iff_ne,Bool.not_eq_true']at h
   rcases h with h | h
   ·have:((s.2.2.2.2.2.2.1).length==s.2.2.1.length+1)=false:=by rw[beq_eq_false_iff_ne];omega
    simp[this]
   ·have h':Yg (aM s) (s.2.2.2.2.2.2.1) (aM s).length=false:=h;simp[h']
  ·simp only[Bool.or_eq_false_iff,bne_eq_false_iff_eq,Bool.not_eq_false']at h;have h3:((ZD s (kn:Int)).length==(aM s).length+1)=true:=by rw[<- uV,beq_iff_eq];have:=h.1;((try simp only[bT,Qx,aM,Qn,Qq,Qe,Qz,sX,sY,sG,sD,Qt,Qo,bg,QB,Qu,Qv,Qw]at *);omega)
   have h4:Yg (aM s) (ZD s (kn:Int)) (aM s).length=true:=by rw[<- uV];exact h.2
   refine⟨λhl=>⟨⟨⟨by omega,by have:=h.1;omega⟩,by have:=h.1;omega⟩,?_⟩,λhl=>?_⟩
   ·have hr:(s.2.2.2.2.2.2.1)=ZD s (kn:Int):=by unfold ZD;rw[if_pos (show Qq s=true from iR)];try rfl
    have hd:(((QV (aq [] (s.2.2.2.2.2.2.1) s.2.2.1.length) t).1),((QV (aq [] (s.2.2.2.2.2.2.1) s.2.2.1.length) t).2))=eP s (kn:Int) t:=by unfold eP;rw[if_pos (show Qn s=true from hl),<- hr];try rfl
    have hb:YW s (kn:Int) t=Qr ((QV (aq [] (s.2.2.2.2.2.2.1) s.2.2.1.length) t).1) (Za (ZF s)):=by
     rw[nK,<- hd,h1,h3,h4,decide_eq_true h2];rfl
    refine⟨λh=>au ?_,λh=>?_⟩
    ·rw[fK (by rw[hb];simpa using h)]
    ·have hv:Qr ((QV (aq [] (s.2.2.2.2.2.2.1) s.2.2.1.length) t).1) (Za (ZF s))=true:=by simpa using h
     have cC:YW s (kn:Int) t=true:=by rw[hb,hv]
     have Gx:=Jy hv;have dt:=Br (t:=t) (rows:=s.2.2.2.2.2.2.1) (d:=(QV (aq [] (s.2.2.2.2.2.2.1) s.2.2.1.length) t).1) (b:=(QV (aq [] (s.2.2.2.2.2.2.1) s.2.2.1.length) t).2) (by rw[show QJ (Qe s) m=(kn:Int) from eK];exact cC) (by rw[show QJ (Qe s) m=(kn:Int) from eK] ;exact hr) (by rw[show QJ (Qe s) m=(kn:Int) from eK] ;exact hd);have jA:(s.2.2.2.2.2.2.1).length=s.2.2.1.length+1:=by rw[hr];rw[beq_iff_eq]at h3;exact h3
     have mb:=xd s.2.2.1 (s.2.2.2.2.2.2.1) ((QV (aq [] (s.2.2.2.2.2.2.1) s.2.2.1.length) t).1);refine⟨⟨⟨by omega,by rw[QY];((try simp only[bT,Qx,aM,Qn,Qq,Qe,Qz,sX,sY,sG,sD,Qt,Qo,bg,QB,Qu,Qv,Qw]at *);omega)⟩,by omega⟩,?_,⟨⟨by omega,by omega,by omega⟩,⟨by omega,by omega,by omega⟩,?_,by omega⟩,au ?_⟩
     ·unfold ZK;simp only[JA,Q1,ZJ]
      ((try simp only[bT,Qx,aM,Qn,Qq,Qe,Qz,sX,sY,sG,sD,Qt,Qo,bg,QB,Qu,Qv,Qw]at *);omega)
     ·rw[rm,QY];((try simp only[bT,Qx,aM,Qn,Qq,Qe,Qz,sX,sY,sG,sD,Qt,Qo,bg,QB,Qu,Qv,Qw]at *);omega)
     ·rw[Bs hk,dt,show QJ (Qe s) m=(kn:Int) from eK,Int.toNat_natCast]
   ·have hr:(s.2.2.2.2.2.2.1)=ZD s (kn:Int):=by unfold ZD;rw[if_pos (show Qq s=true from iR)];try rfl
    have hd:((s.2.2.2.2.2.2.2.2.2.1),(false))=eP s (kn:Int) t:=by unfold eP;rw[if_neg (by rw[show Qn s=false from hl];simp)];try rfl
    have hb:YW s (kn:Int) t=Qr (s.2.2.2.2.2.2.2.2.2.1) (Za (ZF s)):=by
     rw[nK,<- hd,h1,h3,h4,decide_eq_true h2];rfl
    refine⟨λh=>au ?_,λh=>?_⟩
    ·rw[fK (by rw[hb];simpa using h)]
    ·have hv:Qr (s.2.2.2.2.2.2.2.2.2.1) (Za (ZF s))=true:=by simpa using h
     have cC:YW s (kn:Int) t=true:=by rw[hb,hv]
     have Gx:=Jy hv;have dt:=Br (t:=t) (rows:=s.2.2.2.2.2.2.1) (d:=s.2.2.2.2.2.2.2.2.2.1) (b:=false) (by rw[show QJ (Qe s) m=(kn:Int) from eK];exact cC) (by rw[show QJ (Qe s) m=(kn:Int) from eK] ;exact hr) (by rw[show QJ (Qe s) m=(kn:Int) from eK] ;exact hd);have jA:(s.2.2.2.2.2.2.1).length=s.2.2.1.length+1:=by rw[hr];rw[beq_iff_eq]at h3;exact h3
     have mb:=xd s.2.2.1 (s.2.2.2.2.2.2.1) (s.2.2.2.2.2.2.2.2.2.1);refine⟨⟨⟨by omega,by rw[QY];((try simp only[bT,Qx,aM,Qn,Qq,Qe,Qz,sX,sY,sG,sD,Qt,Qo,bg,QB,Qu,Qv,Qw]at *);omega)⟩,by omega⟩,?_,⟨⟨by omega,by omega,by omega⟩,⟨by omega,by omega,by omega⟩,?_,by omega⟩,au ?_⟩
     ·unfold ZK;simp only[JA,Q1,ZJ]
      ((try simp only[bT,Qx,aM,Qn,Qq,Qe,Qz,sX,sY,sG,sD,Qt,Qo,bg,QB,Qu,Qv,Qw]at *);omega)
     ·rw[rm,QY];((try simp only[bT,Qx,aM,Qn,Qq,Qe,Qz,sX,sY,sG,sD,Qt,Qo,bg,QB,Qu,Qv,Qw]at *);omega)
     ·rw[Bs hk,dt,show QJ (Qe s) m=(kn:Int) from eK,Int.toNat_natCast]
 ·have uV:((aq Zb s.2.2.2.2.2.1 kn).2)=ZD s (kn:Int):=by unfold ZD;rw[if_neg (by rw[show Qq s=false from iR];simp)];try rfl
  refine⟨λh=>?_,λh=>au ?_,λh=>?_⟩
  ·simp at h;exact⟨by omega,by omega,by omega⟩
  ·rw[fK];rw[nK,<- uV];simp only[Bool.or_eq_true,bne_iff_ne,Bool.not_eq_true']at h
   rcases h with h | h
   ·have:(((aq Zb s.2.2.2.2.2.1 kn).2).length==s.2.2.1.length+1)=false:=by rw[beq_eq_false_iff_ne];omega
    simp[this]
   ·have h':Yg (aM s) ((aq Zb s.2.2.2.2.2.1 kn).2) (aM s).length=false:=h;simp[h']
  ·simp only[Bool.or_eq_false_iff,bne_eq_false_iff_eq,Bool.not_eq_false']at h;have h3:((ZD s (kn:Int)).length==(aM s).length+1)=true:=by rw[<- uV,beq_iff_eq];have:=h.1;((try simp only[bT,Qx,aM,Qn,Qq,Qe,Qz,sX,sY,sG,sD,Qt,Qo,bg,QB,Qu,Qv,Qw]at *);omega)
   have h4:Yg (aM s) (ZD s (kn:Int)) (aM s).length=true:=by rw[<- uV];exact h.2
   refine⟨λhl=>⟨⟨by omega,by have:=h.1;omega⟩,?_⟩,λhl=>?_⟩
   ·have hr:((aq Zb s.2.2.2.2.2.1 kn).2)=ZD s (kn:Int):=by unfold ZD;rw[if_neg (by rw[show Qq s=false from iR];simp)];try rfl
    have hd:(((QV (aq [] ((aq Zb s.2.2.2.2.2.1 kn).2) s.2.2.1.length) t).1),((QV (aq [] ((aq Zb s.2.2.2.2.2.1 kn).2) s.2.2.1.length) t).2))=eP s (kn:Int) t:=by unfold eP;rw[if_pos (show Qn s=true from hl),<- hr];try rfl
    have hb:YW s (kn:Int) t=Qr ((QV (aq [] ((aq Zb s.2.2.2.2.2.1 kn).2) s.2.2.1.length) t).1) (Za (ZF s)):=by
     rw[nK,<- hd,h1,h3,h4,decide_eq_true h2];rfl
    refine⟨λh=>au ?_,λh=>?_⟩
    ·rw[fK (by rw[hb];simpa using h)]
    ·have hv:Qr ((QV (aq [] ((aq Zb s.2.2.2.2.2.1 kn).2) s.2.2.1.length) t).1) (Za (ZF s))=true:=by simpa using h
     have cC:YW s (kn:Int) t=true:=by rw[hb,hv]
     have Gx:=Jy hv;have dt:=Br (t:=t) (rows:=(aq Zb s.2.2.2.2.2.1 kn).2) (d:=(QV (aq [] ((aq Zb s.2.2.2.2.2.1 kn).2) s.2.2.1.length) t).1) (b:=(QV (aq [] ((aq Zb s.2.2.2.2.2.1 kn).2) s.2.2.1.length) t).2) (by rw[show QJ (Qe s) m=(kn:Int) from eK];exact cC) (by rw[show QJ (Qe s) m=(kn:Int) from eK] ;exact hr) (by rw[show QJ (Qe s) m=(kn:Int) from eK] ;exact hd);have jA:((aq Zb s.2.2.2.2.2.1 kn).2).length=s.2.2.1.length+1:=by rw[hr];rw[beq_iff_eq]at h3;exact h3
     have mb:=xd s.2.2.1 ((aq Zb s.2.2.2.2.2.1 kn).2) ((QV (aq [] ((aq Zb s.2.2.2.2.2.1 kn).2) s.2.2.1.length) t).1);refine⟨⟨⟨by omega,by rw[QY];((try simp only[bT,Qx,aM,Qn,Qq,Qe,Qz,sX,sY,sG,sD,Qt,Qo,bg,QB,Qu,Qv,Qw]at *);omega)⟩,by omega⟩,?_,⟨⟨by omega,by omega,by omega⟩,⟨by omega,by omega,by omega⟩,?_,by omega⟩,au ?_⟩
     ·unfold ZK;simp only[JA,Q1,ZJ]
      ((try simp only[bT,Qx,aM,Qn,Qq,Qe,Qz,sX,sY,sG,sD,Qt,Qo,bg,QB,Qu,Qv,Qw]at *);omega)
     ·rw[rm,QY];((try simp only[bT,Qx,aM,Qn,Qq,Qe,Qz,sX,sY,sG,sD,Qt,Qo,bg,QB,Qu,Qv,Qw]at *);omega)
     ·rw[Bs hk,dt,show QJ (Qe s) m=(kn:Int) from eK,Int.toNat_natCast]
   ·have hr:((aq Zb s.2.2.2.2.2.1 kn).2)=ZD s (kn:Int):=by unfold ZD;rw[if_neg (by rw[show Qq s=false from iR];simp)];try rfl
    have hd:((s.2.2.2.2.2.2.2.2.2.1),(false))=eP s (kn:Int) t:=by unfold eP;rw[if_neg (by rw[show Qn s=false from hl];simp)];try rfl
    have hb:YW s (kn:Int) t=Qr (s.2.2.2.2.2.2.2.2.2.1) (Za (ZF s)):=by
     rw[nK,<- hd,h1,h3,h4,decide_eq_true h2];rfl
    refine⟨λh=>au ?_,λh=>?_⟩
    ·rw[fK (by rw[hb];simpa using h)]
    ·have hv:Qr (s.2.2.2.2.2.2.2.2.2.1) (Za (ZF s))=true:=by simpa using h
     have cC:YW s (kn:Int) t=true:=by rw[hb,hv]
     have Gx:=Jy hv;have dt:=Br (t:=t) (rows:=(aq Zb s.2.2.2.2.2.1 kn).2) (d:=s.2.2.2.2.2.2.2.2.2.1) (b:=false) (by rw[show QJ (Qe s) m=(kn:Int) from eK];exact cC) (by rw[show QJ (Qe s) m=(kn:Int) from eK] ;exact hr) (by rw[show QJ (Qe s) m=(kn:Int) from eK] ;exact hd);have jA:((aq Zb s.2.2.2.2.2.1 kn).2).length=s.2.2.1.length+1:=by rw[hr];rw[beq_iff_eq]at h3;exact h3
     have mb:=xd s.2.2.1 ((aq Zb s.2.2.2.2.2.1 kn).2) (s.2.2.2.2.2.2.2.2.2.1);refine⟨⟨⟨by omega,by rw[QY];((try simp only[bT,Qx,aM,Qn,Qq,Qe,Qz,sX,sY,sG,sD,Qt,Qo,bg,QB,Qu,Qv,Qw]at *);omega)⟩,by omega⟩,?_,⟨⟨by omega,by omega,by omega⟩,⟨by omega,by omega,by omega⟩,?_,by omega⟩,au ?_⟩
     ·unfold ZK;simp only[JA,Q1,ZJ]
      ((try simp only[bT,Qx,aM,Qn,Qq,Qe,Qz,sX,sY,sG,sD,Qt,Qo,bg,QB,Qu,Qv,Qw]at *);omega)
     ·rw[rm,QY];((try simp only[bT,Qx,aM,Qn,Qq,Qe,Qz,sX,sY,sG,sD,Qt,Qo,bg,QB,Qu,Qv,Qw]at *);omega)
     ·rw[Bs hk,dt,show QJ (Qe s) m=(kn:Int) from eK,Int.toNat_natCast]
theorem QNE:Qf Tryz.prog RP:=Qh λx h=>QJi x.1 x.2.1 x.2.2.1 h
def nM(t:Qc):aJ:=f0 (.a (aV.cells Qm t))
def RT:aP:=Qg 31 [(.a Qm),(.c TI),(.c (.sl [TI]))] λx=>(some (rW x.1 x.2.1 x.2.2.1),nM (ZM x.1 x.2.1 x.2.2.1))
def Bu:aN:=⟨[xh,AX,wQ,Y6,Fe,PZ,Og],false⟩
def QEk:af :=
 (ag [(ag [(.ae [ab 53 12,an 54 3 2,ar 55 54 1,bh 56 55,az 57 .lss 53 56]),(.cond 57 .skip (.exit 0))]),(.block 1 (ag [(.draw [ab 60 9,ab 61 12,bn 62 60 61 [(.sl [TI])],an 63 62 0,ar 64 63 1,aL 65 97 [64],bL 66 65,ab 67 66,.bj 67 false [ab 68 9,ab 69 12,bn 70 68 69 [(.sl [TI])],an 71 70 0,ar 72 71 1,bh 73 72,an 74 3 2,ar 75 74 1,ab 76 12,bn 77 75 76 aK,an 78 77 1,ar 79 78 1,az 80 .neq 73 79] 81 80] []),(.cond 81 (ag [(.ae [aZ 82 7 14,a8 6 82 14]),.ret]) .skip)])),(.ae [ab 58 12,az 59 .add 58 (aw 1),ab 12 59])])
def Qzm:List (Nat × Md):=[(2,.one .d),(3,.b (da 14)),(6,.b (da 14)),(7,.b [.d,.d,.d,.d,.d,.f,.d,.d,.d,.d,.d,.d,.d,.d]),(8,.one .d),(9,.one .d),(10,.one .d),(11,.one .d),(12,.one .d)]
def QHJ:af :=
 (ag [(ag [(.ae [ab 99 10,bh 100 99,an 101 3 2,ar 102 101 1,an 103 3 2,ar 104 103 1,bh 105 104,az 106 .sub 105 (aw 1),bn 107 102 106 aK,an 108 107 2,ar 109 108 1,az 110 .neq 100 109,ab 111 110,.bj 111 false [ab 112 10,aL 113 97 [112],bL 114 113] 115 114]),(.cond 115 (ag [(.ae [aZ 116 7 14,a8 6 116 14]),.ret]) .skip)]),(.ae [an 118 3 2,ar 119 118 1,ab 120 9,ab 121 10,aL 122 108 [119,120,121],ab 117 122,bF 123 117 0,bF 124 117 1,bF 125 117 2,ab 15 123,ab 16 124,ab 17 125]),(.ae [an 126 3 11,aZ 127 126 3,ab 128 15,ab 129 11,ab 130 129,.bj 130 false [ab 131 17] 132 131,aD 133 (.build (bC Q2) [(0,1,128),(2,1,132)]),aL 134 109 [127,133],aD 18 (.new 37 (bC Q2)),a8 18 134 3]),(.ae [aZ 135 18 3,an 136 7 11,a8 136 135 3]),(.ae [ab 137 16,an 138 7 10,a8 138 137 1]),(.ae [aD 139 (.bO 3 [TI] []),an 140 7 9,a8 140 139 1]),(.ae [aD 141 (.bO 106 [(.sl [TI])] []),an 142 7 6,a8 142 141 1]),(.draw [an 143 7 5,ar 144 143 1,ab 145 8,aD 146 (.fO 144 none (some 145) QX),an 147 7 5,ar 148 147 1,ab 149 8,az 150 .add 149 (aw 1),aD 151 (.fO 148 (some 150) none QX),aD 152 (.app 146 151 108 QX),an 153 7 5,a8 153 152 1] []),(.ae [aZ 154 7 14,a8 6 154 14]),.ret])
def QWS:List (Nat × Md):=[(3,.b (da 14)),(6,.b (da 14)),(7,.b [.d,.d,.d,.d,.d,.f,.d,.d,.d,.d,.d,.d,.d,.d]),(8,.one .d),(9,.one .d),(10,.one .d),(11,.one .d)]
def QMa:af:=.wk QWS QHJ
def QGA:af :=
 (ag [(ag [(.ae [an 83 3 3,ar 84 83 1]),(.cond 84 (ag [(.ae [ab 86 9,an 87 3 2,ar 88 87 1,bh 89 88,bn 90 86 89 [(.sl [TI])],an 91 90 0,ar 92 91 1,ab 93 2,aL 94 107 [92,93],ab 85 94,bF 95 85 0,bF 96 85 1,ab 13 95,ab 14 96]),(.ae [ab 97 13,ab 10 97]),(.ae [ab 98 14,ab 11 98])]) .skip)]),QMa])
def QGX:af :=
 (ag [(.ae [an 43 3 9,ar 44 43 1,ab 10 44]),(.ae [ab 11 (bm false)]),(ag [(.ae [ab 45 9,bh 46 45,an 47 3 2,ar 48 47 1,bh 49 48,az 50 .add 49 (aw 1),az 51 .neq 46 50]),(.cond 51 (ag [(.ae [aZ 52 7 14,a8 6 52 14]),.ret]) .skip)]),(ag [(.ae [ab 12 (aw 0)]),(.block 0 (.loop Qzm QEk))]),QGA])
def Q0O:List (Nat × Md):=[(2,.one .d),(3,.b (da 14)),(6,.b (da 14)),(7,.b [.d,.d,.d,.d,.d,.f,.d,.d,.d,.d,.d,.d,.d,.d]),(8,.one .d),(9,.one .d)]
def QJ4:af:=.wk Q0O QGX
def QQP:af :=
 (ag [(.ae [aD 3 (.box 39 0 14),aD 6 (.new 39 (bC Qm))]),(.ae [aZ 19 3 14,aL 20 61 [19],aD 7 (.new 39 (bC Qm)),a8 7 20 14]),(.ae [an 21 3 5,ar 22 21 1,ab 23 1,aL 24 62 [22,23],ab 8 24]),(ag [(.ae [aZ 25 3 14,aL 26 63 [25],bL 27 26,ab 28 27,.bj 28 false [ab 29 8,az 30 .lss 29 (aw 0)] 31 30]),(.cond 31 (ag [(.ae [aZ 32 7 14,a8 6 32 14]),.ret]) .skip)]),(.ae [an 33 3 5,ar 34 33 1,ab 35 8,bn 36 34 35 QX,an 37 36 1,ar 38 37 1,ab 9 38]),(ag [(.ae [an 39 3 4,ar 40 39 1]),(.cond 40 (.ae [an 41 3 6,ar 42 41 1,ab 9 42]) .skip)]),QJ4])
def QIE:List (bw × Md):=[(.l 6 14 true,.b (da 14))]
def Gy:Qb:=TQ 0 0 QIE K
@[irreducible] def Gz(s:Qc)(m:Int)(dF:List (List Int))(y5:List ZI)(d:List Int)(sat:Bool):Prop:=let z1:=id (α:=Qc) s
 aU Bu 0 QHJ (Gy K) ⟨[(3,(.p 0 0 0)),(6,(.p 1 0 0)),(7,(.p 3 0 0)),(8,(aO (QJ s.2.2.2.2.2.1 m))),(9,(bu [(.sl [TI])] dF)),(10,(bu [TI] d)),(11,(bH sat))],[(0,(.box (aV.cells Qm s))),(1,(.box (aV.cells Qm ((0:Int),[],[],false,false,[],[],[],[],[],[],[],(0:Int),false)))),(2,(.sl 108 QX .ow (List.take y5.length y5))),(3,(.box [(aO (z1.1)),(bu Qs (z1.2.1)),(bu aK (z1.2.2.1)),(bH (z1.2.2.2.1)),(bH (z1.2.2.2.2.1)),(.r QX 2 0 ((List.take y5.length y5).length)),(bu [(.sl [TI])] (z1.2.2.2.2.2.2.1)),(bu [TI] (z1.2.2.2.2.2.2.2.1)),(bu [TI] (z1.2.2.2.2.2.2.2.2.1)),(bu [TI] (z1.2.2.2.2.2.2.2.2.2.1)),(bu [TI] (z1.2.2.2.2.2.2.2.2.2.2.1)),(bu [(.sl [TI])] (z1.2.2.2.2.2.2.2.2.2.2.2.1)),(aO (z1.2.2.2.2.2.2.2.2.2.2.2.2.1)),(bH (z1.2.2.2.2.2.2.2.2.2.2.2.2.2))]))],4⟩
def QOE:Qb:=ba (aU Bu 0 QGA (Gy K)) (Gy K)
def QUU:Qb:=bf 0 (QOE K)
def Bv(s:Qc)(m:Int)(t:List Int)(dF:List (List Int))(i:Int)(y5:List ZI):Prop:=let z1:=id (α:=Qc) s
 Loop Bu 0 Qzm QEk (QUU K) ⟨[(2,(bu [TI] t)),(3,(.p 0 0 0)),(6,(.p 1 0 0)),(7,(.p 3 0 0)),(8,(aO (QJ s.2.2.2.2.2.1 m))),(9,(bu [(.sl [TI])] dF)),(10,(bu [TI] s.2.2.2.2.2.2.2.2.2.1)),(11,(bH false)),(12,(aO i))],[(0,(.box (aV.cells Qm s))),(1,(.box (aV.cells Qm ((0:Int),[],[],false,false,[],[],[],[],[],[],[],(0:Int),false)))),(2,(.sl 108 QX .ow y5)),(3,(.box [(aO (z1.1)),(bu Qs (z1.2.1)),(bu aK (z1.2.2.1)),(bH (z1.2.2.2.1)),(bH (z1.2.2.2.2.1)),(.r QX 2 0 y5.length),(bu [(.sl [TI])] (z1.2.2.2.2.2.2.1)),(bu [TI] (z1.2.2.2.2.2.2.2.1)),(bu [TI] (z1.2.2.2.2.2.2.2.2.1)),(bu [TI] (z1.2.2.2.2.2.2.2.2.2.1)),(bu [TI] (z1.2.2.2.2.2.2.2.2.2.2.1)),(bu [(.sl [TI])] (z1.2.2.2.2.2.2.2.2.2.2.2.1)),(aO (z1.2.2.2.2.2.2.2.2.2.2.2.2.1)),(bH (z1.2.2.2.2.2.2.2.2.2.2.2.2.2))]))],4⟩
@[irreducible] def GA(s:Qc)(m:Int)(t:List Int)(dF:List (List Int)):Prop:=let z1:=id (α:=Qc) s
 let z2:=List.take ((z1.2.2.2.2.2.1).length) (z1.2.2.2.2.2.1)
 aU Bu 0 QGX (Gy K) ⟨[(2,(bu [TI] t)),(3,(.p 0 0 0)),(6,(.p 1 0 0)),(7,(.p 3 0 0)),(8,(aO (QJ s.2.2.2.2.2.1 m))),(9,(bu [(.sl [TI])] dF))],[(0,(.box (aV.cells Qm s))),(1,(.box (aV.cells Qm ((0:Int),[],[],false,false,[],[],[],[],[],[],[],(0:Int),false)))),(2,(.sl 108 QX .ow z2)),(3,(.box [(aO (z1.1)),(bu Qs (z1.2.1)),(bu aK (z1.2.2.1)),(bH (z1.2.2.2.1)),(bH (z1.2.2.2.2.1)),(.r QX 2 0 (z2.length)),(bu [(.sl [TI])] (z1.2.2.2.2.2.2.1)),(bu [TI] (z1.2.2.2.2.2.2.2.1)),(bu [TI] (z1.2.2.2.2.2.2.2.2.1)),(bu [TI] (z1.2.2.2.2.2.2.2.2.2.1)),(bu [TI] (z1.2.2.2.2.2.2.2.2.2.2.1)),(bu [(.sl [TI])] (z1.2.2.2.2.2.2.2.2.2.2.2.1)),(aO (z1.2.2.2.2.2.2.2.2.2.2.2.2.1)),(bH (z1.2.2.2.2.2.2.2.2.2.2.2.2.2))]))],4⟩
theorem QSq(s:Qc)(m:Int)(dF:List (List Int))(y5:List ZI)(d:List Int)(sat:Bool) (h :
 let z2:=id (α:=Qc) s
 let z3:=QJ s.2.2.2.2.2.1 m
 let z5:=List.take y5.length y5
 let z1:=List.take (Int.toNat ((z5.length:Nat):Int)-Int.toNat (aI (z3+1))) (List.drop (0+Int.toNat (aI (z3+1))) z5)
 let z6:=Int.toNat z3-Int.toNat 0
 let z7:=QN s.2.2.1 dF d
 let z4:=Z6 s.2.2.2.2.2.2.2.2.2.2.2 (z7.1,(0:Int),(sat||(z7.2.2)))
 let z8:=aI (((s.2.2.1).length:Int)-1)
 ((0<=aI (((s.2.2.1).length:Int)-1)/\Int.toNat z8<(s.2.2.1).length)/\(aS (((d.length:Int) != ((aq bY s.2.2.1 (Int.toNat z8)).2.2.1))||(!(QH d))) (K (nM (z2.1,z2.2.1,z2.2.2.1,z2.2.2.2.1,z2.2.2.2.2.1,(List.take (z5.length) (List.drop 0 z5)),z2.2.2.2.2.2.2.1,z2.2.2.2.2.2.2.2.1,z2.2.2.2.2.2.2.2.2.1,z2.2.2.2.2.2.2.2.2.2.1,z2.2.2.2.2.2.2.2.2.2.2.1,z2.2.2.2.2.2.2.2.2.2.2.2.1,z2.2.2.2.2.2.2.2.2.2.2.2.2.1,z2.2.2.2.2.2.2.2.2.2.2.2.2.2))) ((Le s.2.2.1 dF d)/\((ZK (α:=QL) (β:=QL) s.2.2.2.2.2.2.2.2.2.2.2 (z7.1,(0:Int),(sat||(z7.2.2))))/\((((0:Int)<=0/\0<=z3/\z3<=((z5.length:Nat):Int))/\((0<=aI (z3+1)/\aI (z3+1)<=((z5.length:Nat):Int)/\((z5.length:Nat):Int)<=((z5.length:Nat):Int))/\((z6=z5.length\/z6+z1.length<=z5.length)/\z6+z1.length<=bP)))/\K (nM (z2.1,z2.2.1,z2.2.2.1,z2.2.2.2.1,z2.2.2.2.2.1,(List.take (z6+z1.length) (List.drop 0 ((List.take z6 z5)++z1))),([]:List (List Int)),z2.2.2.2.2.2.2.2.1,z2.2.2.2.2.2.2.2.2.1,([]:List Int),z7.2.1,z4.1,z4.2.1,z4.2.2)))))))):cz (Gz K s m dF y5 d sat) :=
 cz.of h
theorem QwM(s:Qc)(m:Int)(t:List Int)(dF:List (List Int))(i:Int)(y5:List ZI) (h :
 (aS (decide (i<((s.2.2.1).length:Int))) (((0<=i/\Int.toNat i<dF.length)/\((!(!(QH (aq ([]:List Int) dF (Int.toNat i)))))=true->((0<=i/\Int.toNat i<dF.length)/\(0<=i/\Int.toNat i<(s.2.2.1).length))))/\(aS ((!(QH (aq ([]:List Int) dF (Int.toNat i))))||(((aq ([]:List Int) dF (Int.toNat i)).length:Int) != ((aq bY s.2.2.1 (Int.toNat i)).2.1))) (K (nM ((id (α:=Qc) s).1,(id (α:=Qc) s).2.1,(id (α:=Qc) s).2.2.1,(id (α:=Qc) s).2.2.2.1,(id (α:=Qc) s).2.2.2.2.1,(List.take y5.length (List.drop 0 y5)),(id (α:=Qc) s).2.2.2.2.2.2.1,(id (α:=Qc) s).2.2.2.2.2.2.2.1,(id (α:=Qc) s).2.2.2.2.2.2.2.2.1,(id (α:=Qc) s).2.2.2.2.2.2.2.2.2.1,(id (α:=Qc) s).2.2.2.2.2.2.2.2.2.2.1,(id (α:=Qc) s).2.2.2.2.2.2.2.2.2.2.2.1,(id (α:=Qc) s).2.2.2.2.2.2.2.2.2.2.2.2.1,(id (α:=Qc) s).2.2.2.2.2.2.2.2.2.2.2.2.2))) (Bv K s m t dF (aI (i+1)) (List.take y5.length y5)))) (aS s.2.2.2.1 ((0<=((s.2.2.1).length:Int)/\Int.toNat ((s.2.2.1).length:Int)<dF.length)/\(Gz K s m dF y5 ((QV (aq ([]:List Int) dF (Int.toNat ((s.2.2.1).length:Int))) t).1) ((QV (aq ([]:List Int) dF (Int.toNat ((s.2.2.1).length:Int))) t).2))) (Gz K s m dF y5 s.2.2.2.2.2.2.2.2.2.1 false)))):Bv K s m t dF i y5 :=
 Loop.of h
theorem QWp(s:Qc)(m:Int)(t:List Int)(dF:List (List Int)) (h :
 let z1:=id (α:=Qc) s
 let z2:=List.take ((z1.2.2.2.2.2.1).length) (z1.2.2.2.2.2.1)
 (aS ((dF.length:Int) != (aI (((s.2.2.1).length:Int)+1))) (K (nM (z1.1,z1.2.1,z1.2.2.1,z1.2.2.2.1,z1.2.2.2.2.1,(List.take (z2.length) (List.drop 0 z2)),z1.2.2.2.2.2.2.1,z1.2.2.2.2.2.2.2.1,z1.2.2.2.2.2.2.2.2.1,z1.2.2.2.2.2.2.2.2.2.1,z1.2.2.2.2.2.2.2.2.2.2.1,z1.2.2.2.2.2.2.2.2.2.2.2.1,z1.2.2.2.2.2.2.2.2.2.2.2.2.1,z1.2.2.2.2.2.2.2.2.2.2.2.2.2))) (Bv K s m t dF 0 (List.take (z2.length) z2)))):cz (GA K s m t dF) :=
 cz.of h
theorem QRp(s:Qc)(m:Int)(t:List Int)(hp:rW s m t):aR Tryz.prog 31 [(.a (aV.cells Qm s)),(.c TI m),(.c (.sl [TI]) t)] (nM (ZM s m t)):=by
 refine bD Bu QQP QIE 0 0 155 RT (kc Gq (kc OU (kc E0 (kc Ji (kc Qu3 (kc QTn (kc Q3b kn))))))) (λK =>
 ((QA (α:=Qc) s)/\(aS ((!(QU s))||(decide ((QJ s.2.2.2.2.2.1 m)<0))) (K (nM ((id (α:=Qc) s).1,(id (α:=Qc) s).2.1,(id (α:=Qc) s).2.2.1,(id (α:=Qc) s).2.2.2.1,(id (α:=Qc) s).2.2.2.2.1,(List.take (((id (α:=Qc) s).2.2.2.2.2.1).length) (List.drop 0 ((id (α:=Qc) s).2.2.2.2.2.1))),(id (α:=Qc) s).2.2.2.2.2.2.1,(id (α:=Qc) s).2.2.2.2.2.2.2.1,(id (α:=Qc) s).2.2.2.2.2.2.2.2.1,(id (α:=Qc) s).2.2.2.2.2.2.2.2.2.1,(id (α:=Qc) s).2.2.2.2.2.2.2.2.2.2.1,(id (α:=Qc) s).2.2.2.2.2.2.2.2.2.2.2.1,(id (α:=Qc) s).2.2.2.2.2.2.2.2.2.2.2.2.1,(id (α:=Qc) s).2.2.2.2.2.2.2.2.2.2.2.2.2))) (((0:Int)<=(QJ s.2.2.2.2.2.1 m)/\Int.toNat (QJ s.2.2.2.2.2.1 m)<(s.2.2.2.2.2.1).length)/\(aS s.2.2.2.2.1 (GA K s m t s.2.2.2.2.2.2.1) (GA K s m t ((aq Zb s.2.2.2.2.2.1 (Int.toNat (QJ s.2.2.2.2.2.1 m))).2))))))) (λhb=>?_)
 have iN:Sz.sz s<=2147483648:=hp;have hs:=Z3 s;have l1:=Yk (Qe s);obtain⟨kf,eK⟩:∃ kf,QJ s.2.2.2.2.2.1 m=kf:=⟨_,rfl⟩
 have hf:=Bq (Qe s) m;rw[show QJ (Qe s) m=kf from eK]at hf;have fK:YW s kf t=false->(ZM s m t)=s:=λh=>Qwo (by rw[show QJ (Qe s) m=kf from eK,h];simp);have k4:QU s=true->0<=kf->∀ rows d sat,rows=ZD s kf->(d,sat)=eP s kf t->((ZD s kf).length==(aM s).length+1)=true->Yg (aM s) (ZD s kf) (aM s).length=true->Gz (λr'=>r'=nM (ZM s m t)) s m rows s.2.2.2.2.2.1 d sat:=by
  intro h1 h2 rows d sat hr hd h3 h4;have hm:=JL h1;have dj:1<=s.2.2.1.length/\s.2.2.1.length<=8:=Yp hm;have hb:YW s kf t=Qr d (Za (ZF s)):=by
   rw[nK,<- hd,h1,h3,h4,decide_eq_true h2];rfl
  obtain⟨kn,kh⟩:∃ kn:Nat,kf=kn:=⟨kf.toNat,by omega⟩
  have hw:aI ((s.2.2.1.length:Int)-1)=((s.2.2.1.length-1:Nat):Int):=by rw[Qy (by omega) (by omega)];omega
  have hg:(((d.length:Int) != (aq bY s.2.2.1 (s.2.2.1.length-1)).2.2.1)||(!(QH d))) = !Qr d (Za (ZF s)):=by
   rw[show Za (ZF s)=_ from QAY hm];show _ = !(QH d&&((d.length:Int)==(aq bY s.2.2.1 (s.2.2.1.length-1)).2.2.1));simp only[bne]
   cases QH d <;> cases((d.length:Int)==(aq bY s.2.2.1 (s.2.2.1.length-1)).2.2.1) <;> rfl
  refine(QSq _ _ _ _ _ _ _ ?_).h
  conv=>zeta
  simp only[id,List.drop_zero,List.take_length,true_or,true_and,Nat.zero_add];rw[eK,kh,hw,Int.toNat_natCast,hg];refine⟨⟨by omega,by omega⟩,λh=>au ?_,λh=>?_⟩
  ·rw[fK (by rw[hb];simpa using h)]
  ·have hv:Qr d (Za (ZF s))=true:=by simpa using h
   have cC:YW s kf t=true:=by rw[hb,hv]
   have Gx:=Jy hv;rw[beq_iff_eq]at h3;have gy:=QxR h1;have Bt:Sz.sz (α:=QL) s.2.2.2.2.2.2.2.2.2.2.2<=296:=Dq (JL h1) ⟨gy.1,gy.2⟩;have dt:=Br (t:=t) (rows:=rows) (d:=d) (b:=sat) (by rw[show QJ (Qe s) m=kf from eK];exact cC) (by rw[show QJ (Qe s) m=kf from eK] ;exact hr) (by rw[show QJ (Qe s) m=kf from eK] ;exact hd);have hk:kn<s.2.2.2.2.2.1.length:=by((try simp only[bT,Qx,aM,Qn,Qq,Qe,Qz,sX,sY,sG,sD,Qt,Qo,bg,QB,Qu,Qv,Qw]at *);omega)
   have jA:rows.length=s.2.2.1.length+1:=by rw[hr];exact h3
   have mb:=xd s.2.2.1 rows d;have rm:(List.take (s.2.2.2.2.2.1.length-(kn+1)) (List.drop (kn+1) s.2.2.2.2.2.1)).length=s.2.2.2.2.2.1.length-(kn+1):=by simp
   rw[dv (by((try simp only[bT,Qx,aM,Qn,Qq,Qe,Qz,sX,sY,sG,sD,Qt,Qo,bg,QB,Qu,Qv,Qw]at *);omega))];simp only[Int.toNat_natCast,show Int.toNat 0=0 from rfl,Nat.sub_zero];refine⟨⟨by omega,by rw[QY];((try simp only[bT,Qx,aM,Qn,Qq,Qe,Qz,sX,sY,sG,sD,Qt,Qo,bg,QB,Qu,Qv,Qw]at *);omega)⟩,?_,⟨⟨by omega,by omega,by omega⟩,⟨by omega,by omega,by omega⟩,?_⟩,au ?_⟩
   ·unfold ZK;simp only[JA,Q1,ZJ]
    ((try simp only[bT,Qx,aM,Qn,Qq,Qe,Qz,sX,sY,sG,sD,Qt,Qo,bg,QB,Qu,Qv,Qw]at *);omega)
   ·rw[rm,QY];((try simp only[bT,Qx,aM,Qn,Qq,Qe,Qz,sX,sY,sG,sD,Qt,Qo,bg,QB,Qu,Qv,Qw]at *);omega)
   ·rw[Bs hk,dt,show QJ (Qe s) m=kf from eK,kh,Int.toNat_natCast]
 have k3:QU s=true->0<=kf->∀ rows,rows=ZD s kf->((ZD s kf).length==(aM s).length+1)=true->Bv (λr'=>r'=nM (ZM s m t)) s m t rows ((0:Nat):Int) s.2.2.2.2.2.1:=by
  intro h1 h2 rows hr h3;have hm:=JL h1;have dj:1<=s.2.2.1.length/\s.2.2.1.length<=8:=Yp hm;have jA:rows.length=s.2.2.1.length+1:=by rw[hr];exact beq_iff_eq.1 h3
  refine JN s.2.2.1.length (λk=>Yd s.2.2.1 k ((rows.drop k).take (s.2.2.1.length-k))=Yg s.2.2.1 rows s.2.2.1.length->Bv (λr'=>r'=nM (ZM s m t)) s m t rows (k:Int) s.2.2.2.2.2.1) ?_ ?_ ?_
  ·intro hg;rw[Nat.sub_self,List.take_zero,Yd]at hg;have h4:Yg (aM s) (ZD s kf) (aM s).length=true:=by rw[<- hr];exact hg.symm
   refine QwM _ _ _ _ _ _ _ ⟨λh=>by simp at h,λ_=>⟨λhl=>⟨⟨by omega,by rw[Int.toNat_natCast];omega⟩,?_⟩,λhl=>k4 h1 h2 _ _ _ hr ?_ h3 h4⟩⟩
   ·rw[Int.toNat_natCast];refine k4 h1 h2 _ _ _ hr ?_ h3 h4;unfold eP;rw[if_pos hl,<- hr]
   ·unfold eP;rw[if_neg (by rw[show Qn s=false from hl];simp)]
  ·intro k hk ih hg;rw[Q1N hk (by omega)]at hg;have hv:((!(QH (aq [] rows k)))||(((aq [] rows k).length:Int) != (aq bY s.2.2.1 k).2.1)) = !Qr (aq [] rows k) (aq bY s.2.2.1 k).2.1:=by
    unfold Qr;simp only[bne]
    cases QH (aq [] rows k) <;> cases(((aq [] rows k).length:Int)==(aq bY s.2.2.1 k).2.1) <;> rfl
   refine QwM _ _ _ _ _ _ _ ⟨λ_=>?_,λh=>by simp at h;omega⟩;simp only[id,List.drop_zero,List.take_length,Int.toNat_natCast];rw[hv,dv (by omega)];refine⟨⟨⟨by omega,by omega⟩,λ_=>⟨⟨by omega,by omega⟩,by omega,by omega⟩⟩,λh=>au ?_,λh=>ih ?_⟩
   ·rw[fK];have h5:Qr (aq [] rows k) (aq bY s.2.2.1 k).2.1=false:=by simpa using h
    rw[h5,Bool.false_and]at hg;rw[nK,<- hr,show Yg (aM s) rows (aM s).length=false from hg.symm];simp
   ·have h5:Qr (aq [] rows k) (aq bY s.2.2.1 k).2.1=true:=by simpa using h
    rw[h5,Bool.true_and]at hg;exact hg
  ·rw[List.drop_zero,Nat.sub_zero];unfold Yg;rw[Int.toNat_natCast]
 have k1:QU s=true->0<=kf->∀ rows,rows=ZD s kf->GA (λr'=>r'=nM (ZM s m t)) s m t rows:=by
  intro h1 h2 rows hr;have dj:1<=s.2.2.1.length/\s.2.2.1.length<=8:=Yp (JL h1);refine(QWp _ _ _ _ _ ?_).h
  conv=>zeta
  simp only[id,List.drop_zero,List.take_length,true_or,true_and,Nat.zero_add,Int.toNat_natCast];rw[dv (k:=s.2.2.1.length) (by omega)];refine⟨λh=>au ?_,λh=>k3 h1 h2 _ hr ?_⟩
  ·rw[fK];have:(rows.length==s.2.2.1.length+1)=false:=by
    rw[beq_eq_false_iff_ne];simp only[bne_iff_ne]at h;omega
   rw[nK,<- hr];simp[this]
  ·rw[<- hr,beq_iff_eq];simp only[bne_eq_false_iff_eq]at h
   ((try simp only[bT,Qx,aM,Qn,Qq,Qe,Qz,sX,sY,sG,sD,Qt,Qo,bg,QB,Qu,Qv,Qw]at *);omega)
 simp only[id,List.drop_zero,List.take_length,true_or,true_and,Nat.zero_add];rw[Gg,show QJ (Qe s) m=kf from eK];refine⟨hp,λh=>au ?_,λh=>?_⟩
 ·rw[fK];simp only[Bool.not_eq_true']at h;rw[nK,h];rfl
 ·simp only[Bool.not_eq_false',Bool.and_eq_true,decide_eq_true_eq]at h;refine⟨⟨h.2,by((try simp only[bT,Qx,aM,Qn,Qq,Qe,Qz,sX,sY,sG,sD,Qt,Qo,bg,QB,Qu,Qv,Qw]at *);omega)⟩,λhr=>k1 h.1 h.2 _ ?_,λhr=>k1 h.1 h.2 _ ?_⟩
  ·unfold ZD;rw[if_pos hr]
  ·unfold ZD;rw[if_neg (by rw[show Qq s=false from hr];simp)]
theorem QP3:Qf Tryz.prog RT:=Qh λx h=>QRp x.1 x.2.1 x.2.2.1 h
end
end Go.Proofs.YtdplaepmjogjjaaGreat.Am

namespace Go.Proofs.YtdplaepmjogjjaaGreat.Am
open Go Go.RowKit Go.Proofs.YtdplaepmjogjjaaGreat
set_option linter.all false
noncomputable section
variable (K:aJ->Prop)
def RU(t:Bool):aJ:=cd (bH t)
def GB:aP:=Qg 221 [(.a QT)] λx=>(none,RU (Yq x.1))
def QOk:aN:=⟨[p9],false⟩
def QLn:af :=
 (ag [(.ae [aD 1 (.box 178 0 2),ab 2 (bm false)]),(.ae [an 3 1 1,ar 4 3 1,aL 5 187 [4],ab 6 5,.bj 6 true [an 7 1 0,ar 8 7 1,az 9 .geq 8 (aw 0)] 10 9,ab 11 10,.bj 11 true [an 12 1 0,ar 13 12 1,az 14 .lss 13 (aw 5)] 15 14,ab 2 15]),.ret])
def QUW:List (bw × Md):=[(.t 2,.one .d)]
theorem QJY(x:Zl):aR Tryz.prog 221 [(.a [(.c TI x.1),(.c (.sl [TI]) x.2)])] (RU (Yq x)):=by
 refine bD QOk QLn QUW 0 0 16 GB (kc uv kn) (λK =>
 K (RU (((QH x.2)&&(decide (x.1>=0)))&&(decide (x.1<5))))) (λhb=>?_)
 exact au (by grind[Yq])
theorem QEb:Qf Tryz.prog GB:=Qh λx _=>QJY x.1
def GC(t:Bool):aJ:=cd (bH t)
def Bw:aP:=Qg 218 [(.a Qj)] λx=>(none,GC (Q3 x.1))
def RV:aN:=⟨[Y6,YF],false⟩
def Qt7:af :=
 (ag [(ag [(.ae [ab 4 3,an 5 1 1,ar 6 5 1,bh 7 6,az 8 .lss 4 7]),(.cond 8 .skip (.exit 0))]),(.block 1 (ag [(.ae [an 11 1 1,ar 12 11 1,ab 13 3,bn 14 12 13 QT,an 15 14 1,ar 16 15 1,aL 17 97 [16],bL 18 17,ab 19 18,.bj 19 false [an 20 1 1,ar 21 20 1,ab 22 3,bn 23 21 22 QT,an 24 23 0,ar 25 24 1,aL 26 158 [25,(aw 0),(aw 4)],bL 27 26] 28 27]),(.cond 28 (ag [(.ae [ab 2 (bm false)]),.ret]) .skip)])),(.ae [ab 9 3,az 10 .add 9 (aw 1),ab 3 10])])
def QHA:List (Nat × Md):=[(1,.b [.d,.d]),(3,.one .d)]
def QCi:af :=
 (ag [(.ae [an 29 1 0,ar 30 29 1,aL 31 158 [30,(aw 1),(aw 5)],ab 32 31,.bj 32 true [an 33 1 1,ar 34 33 1,bh 35 34,an 36 1 0,ar 37 36 1,az 38 .leq 35 37] 39 38,ab 2 39]),.ret])
def QK1:af :=
 (ag [(.ae [aD 1 (.box 161 0 2),ab 2 (bm false)]),(ag [(.ae [ab 3 (aw 0)]),(.block 0 (.loop QHA Qt7))]),QCi])
def Qt5:List (bw × Md):=[(.t 2,.one .d)]
def QtI:Qb:=TQ 0 0 Qt5 K
def QR3:Qb:=ba (aU RV 0 QCi (QtI K)) (QtI K)
def Q2j:Qb:=bf 0 (QR3 K)
def GD(q:Qd)(i:Int):Prop:=Loop RV 0 QHA Qt7 (Q2j K) ⟨[(1,(.p 0 0 0)),(3,(aO i))],[(0,(.box [(aO q.1),(bu QT q.2)]))],1⟩
theorem QIC(q:Qd)(i:Int) (h :
 (aS (decide (i<((q.2).length:Int))) (((0<=i/\Int.toNat i<(q.2).length)/\((!(!(QH ((aq ((0,[]):Zl) q.2 (Int.toNat i)).2))))=true->(0<=i/\Int.toNat i<(q.2).length)))/\(aS ((!(QH ((aq ((0,[]):Zl) q.2 (Int.toNat i)).2)))||(!(aT ((aq ((0,[]):Zl) q.2 (Int.toNat i)).1) (0:Int) (4:Int)))) (K (GC false)) (GD K q (aI (i+1))))) (K (GC ((aT q.1 (1:Int) (5:Int))&&(decide (((q.2).length:Int)<=q.1))))))):GD K q i :=
 Loop.of h
theorem QSG(q:Qd):aR Tryz.prog 218 [(.a [(.c TI q.1),(.c (.sl QT) q.2)])] (GC (Q3 q)):=by
 refine bD RV QK1 Qt5 0 0 40 Bw (kc Ji (kc YV kn)) (λK =>
 (GD K q 0)) (λhb=>?_)
 have nN:(q.2).length<=9223372036854775807:=hb.1.2.1.1;refine Zd q.2 (λr k=>r.all Yq=q.2.all Yq->GD _ q k) ?_ ?_ rfl
 ·intro he;refine QIC _ q _ ⟨λh=>by simp at h,λ_=>?_⟩;grind[Q3,aT]
 ·intro k x r hk aY hg ih he;refine QIC _ q _ ⟨λ_=>?_,λh=>by simp at h;omega⟩;rw[Int.toNat_natCast,hg,Qy (by omega) (by omega)];grind[Q3,Yq,aT]
theorem RW:Qf Tryz.prog Bw:=Qh λx _=>QSG x.1
def uW(t:Bool):aJ:=cd (bH t)
def Bx:aP:=Qg 220 [(.a Qj)] λx=>(none,uW (Q3 x.1))
def RX:aN:=⟨[GB],false⟩
def Quv:af :=
 (ag [(.ae [az 25 .lss 24 23]),(.cond 25 .skip (.exit 0)),(.block 1 (ag [(.ae [bn 26 22 24 QT,aZ 27 26 2,aD 4 (.new 178 (bC QT)),a8 4 27 2]),(.ae [aZ 28 4 2,aL 29 221 [28],bL 30 29]),(.cond 30 (ag [(.ae [ab 2 (bm false)]),.ret]) .skip)])),(.ae [az 31 .add 24 (aw 1),ab 24 31])])
def Qz5:List (Nat × Md):=ij [22,23,24]
def QGH:af :=
 (ag [(.ae [ab 2 (bm true)]),.ret])
def Q2J:af :=
 (ag [(.ae [aD 1 (.box 161 0 2),ab 2 (bm false)]),(ag [(.ae [an 5 1 0,ar 6 5 1,az 7 .lss 6 (aw 1),ab 8 7,.bj 8 false [an 9 1 0,ar 10 9 1,az 11 .gtr 10 (aw 5)] 12 11,ab 13 12,.bj 13 false [an 14 1 1,ar 15 14 1,bh 16 15,an 17 1 0,ar 18 17 1,az 19 .gtr 16 18] 20 19]),(.cond 20 (ag [(.ae [ab 2 (bm false)]),.ret]) .skip)]),(ag [(.ae [an 21 1 1,ar 22 21 1,bh 23 22,ab 24 (aw 0)]),(.block 0 (.loop Qz5 Quv))]),QGH])
def QyC:List (bw × Md):=[(.t 2,.one .d)]
def QF3:Qb:=TQ 0 0 QyC K
def Q1V:Qb:=ba (aU RX 0 QGH (QF3 K)) (QF3 K)
def QSY:Qb:=bf 0 (Q1V K)
def RY(q:Qd)(x:Int):Prop:=Loop RX 0 Qz5 Quv (QSY K) ⟨[(22,(bu QT q.2)),(23,(aO ((q.2).length:Int))),(24,(aO x))],[],0⟩
theorem QMJ(q:Qd)(x:Int) (h :
 (aS (decide (x<((q.2).length:Int))) ((0<=x/\Int.toNat x<(q.2).length)/\(aS (!(Yq (aq ((0,[]):Zl) q.2 (Int.toNat x)))) (K (uW false)) (RY K q (aI (x+1))))) (K (uW true)))):RY K q x :=
 Loop.of h
theorem QP0(q:Qd):aR Tryz.prog 220 [(.a [(.c TI q.1),(.c (.sl QT) q.2)])] (uW (Q3 q)):=by
 refine bD RX Q2J QyC 0 0 32 Bx (kc QEb kn) (λK =>
 (aS (((decide (q.1<1))||(decide (q.1>5)))||(decide (((q.2).length:Int)>q.1))) (K (uW false)) (RY K q 0))) (λhb=>?_)
 have nN:(q.2).length<=9223372036854775807:=hb.1.2.1.1;refine⟨λh=>au ?_,λh=>ox (Q:=λx=>uW x=uW (Q3 q)) (p:=Yq) (c:=λx=>!(Yq x)) (0,[]) nN (λ_=>rfl) (λi h=>QMJ _ q i h) (au ?_)⟩
 ·grind[Q3]
 ·grind[Q3]
theorem RZ:Qf Tryz.prog Bx:=Qh λx _=>QP0 x.1
def R0(t:Bool):aJ:=cd (bH t)
def R1:aP:=Qg 180 [(.a Qj)] λx=>(none,R0 (ou x.1))
def QYY:aN:=⟨[],false⟩
def Q1I:af :=
 (ag [(.ae [aD 1 (.box 161 0 2),ab 2 (bm false)]),(.ae [an 3 1 1,ar 4 3 1,bh 5 4,an 6 1 0,ar 7 6 1,az 8 .lss 5 7,ab 2 8]),.ret])
def QSm:List (bw × Md):=[(.t 2,.one .d)]
theorem Q3l(q:Qd):aR Tryz.prog 180 [(.a [(.c TI q.1),(.c (.sl QT) q.2)])] (R0 (ou q)):=by
 refine bD QYY Q1I QSm 0 0 9 R1 kn (λK =>
 K (R0 (decide (((q.2).length:Int)<q.1)))) (λhb=>?_)
 exact au rfl
theorem QKW:Qf Tryz.prog R1:=Qh λx _=>Q3l x.1
def Bz(t:Qd):aJ:=⟨(.a [(aO t.1),(.r QT 0 0 ((t.2).length))]),[(.sl 178 QT (.dp 0 true []) t.2)],[],false,[]⟩
def BA:aP:=Qg 219 [(.a Qj)] λx=>(some (QA (α:=Qd) x.1),Bz (id (α:=Qd) x.1))
def R2:aN:=⟨[nt],true⟩
def Qw2:af :=
 (ag [(.ae [az 13 .lss 12 11]),(.cond 13 .skip (.exit 0)),(.block 1 (ag [(.ae [bn 14 10 12 QT,aZ 15 14 2,aD 5 (.new 178 (bC QT)),a8 5 15 2]),(.draw [an 16 3 1,ar 17 16 1,an 18 5 0,ar 19 18 1,an 20 5 1,ar 21 20 1,aL 22 104 [21],aD 23 (.build (bC QT) [(0,1,19),(1,1,22)]),aD 24 (.bO 178 QT [23]),aD 25 (.app 17 24 178 QT),an 26 3 1,a8 26 25 1] [(0,6),(1,6),(2,6),(3,6),(0,8),(1,8)])])),(.ae [az 27 .add 12 (aw 1),ab 12 27])])
def QDO:List (Nat × Md):=[(2,.b [.d,.f]),(3,.b [.d,.p 178]),(10,.one .d),(11,.one .d),(12,.one .d)]
def QHv:af :=
 (ag [(.ae [aZ 28 3 2,a8 2 28 2]),.ret])
def QOo:af :=
 (ag [(.ae [aD 1 (.box 161 0 2),aD 2 (.new 161 (bC Qj))]),(.ae [an 6 1 0,ar 7 6 1,aD 8 (.build (bC Qj) [(0,1,7)]),aD 3 (.new 161 (bC Qj)),a8 3 8 2]),(ag [(.ae [an 9 1 1,ar 10 9 1,bh 11 10,ab 12 (aw 0)]),(.block 0 (.loop QDO Qw2))]),QHv])
def Qw0:List (bw × Md):=[(.l 2 2 true,.b [.d,.p 178])]
def QFa:Qb:=TQ 0 0 Qw0 K
def QTw:Qb:=ba (aU R2 0 QHv (QFa K)) (QFa K)
def QJS:Qb:=bf 0 (QTw K)
def R3(q:Qd)(x:Int)(r1:List Zl):Prop:=Loop R2 0 QDO Qw2 (QJS K) ⟨[(2,(.p 0 0 0)),(3,(.p 2 0 0)),(10,(bu QT q.2)),(11,(aO ((q.2).length:Int))),(12,(aO x))],[(0,(.box [(aO 0),(.n QT)])),(1,(.sl 178 QT (.dp 0 true []) r1)),(2,(.box [(aO q.1),(.r QT 1 0 r1.length)]))],3⟩
theorem QCb(q:Qd)(x:Int)(r1:List Zl) (h :
 (aS (decide (x<((q.2).length:Int))) ((0<=x/\Int.toNat x<(q.2).length)/\(((QA (α:=List Int) ((aq ((0,[]):Zl) q.2 (Int.toNat x)).2))/\((r1.length=r1.length\/r1.length+1<=r1.length)/\r1.length+1<=bP))/\(R3 K q (aI (x+1)) (List.take (r1.length+1) ((List.take r1.length r1)++([((aq ((0,[]):Zl) q.2 (Int.toNat x)).1,(List.take ((id (α:=List Int) ((aq ((0,[]):Zl) q.2 (Int.toNat x)).2)).length) (List.drop 0 (id (α:=List Int) ((aq ((0,[]):Zl) q.2 (Int.toNat x)).2)))))])))))) (K (Bz (q.1,(List.take r1.length r1)))))):R3 K q x r1 :=
 Loop.of h
theorem QYQ(q:Qd)(hp:QA (α:=Qd) q):aR Tryz.prog 219 [(.a [(.c TI q.1),(.c (.sl QT) q.2)])] (Bz (id (α:=Qd) q)):=by
 refine bD R2 QOo Qw0 0 0 29 BA (kc qg kn) (λK =>
 (R3 K q 0 ([]:List Zl))) (λhb=>?_)
 unfold QA at hp;simp only[Q9,Q1]at hp;refine Jm (l:=q.2) (Q:=λz=>Bz (q.1,z)=Bz (id (α:=Qd) q)) (by omega) (λk x v hk hl hg hv hx ih=>?_) (λhq=>?_) (au rfl)
 ·refine QCb _ _ _ _ ⟨λ_=>?_,λh=>by simp at h;omega⟩;simp only[Q9,Q1]at hx;rw[Int.toNat_natCast,hg,dv (by omega),Zc,ub];exact⟨⟨by omega,hk⟩,⟨(show Sz.sz (_:List Int)<=2147483648 by omega),room (by omega)⟩,ih⟩
 ·refine QCb _ _ _ _ ⟨λh=>by simp at h,λ_=>?_⟩;rw[List.take_length];exact hq
theorem R4:Qf Tryz.prog BA:=Qh λx h=>QYQ x.1 h
def BB(t:Qd):aJ:=⟨(.a [(aO t.1),(.r QT 0 0 ((t.2).length))]),[(.sl 178 QT .ow t.2)],[],true,[]⟩
def BC:aP:=Qg 217 [(.a Qj)] λx=>(some (QA (α:=Qd) x.1),BB (id (α:=Qd) x.1))
def R5:aN:=⟨[],false⟩
def Qxo:af :=
 (ag [(ag [(.ae [ab 6 4,an 7 1 1,ar 8 7 1,bh 9 8,az 10 .lss 6 9]),(.cond 10 .skip (.exit 0))]),(.block 1 (.draw [ab 13 3,an 14 1 1,ar 15 14 1,ab 16 4,bn 17 15 16 QT,an 18 17 0,ar 19 18 1,aD 20 (.bO 3 [TI] []),an 21 1 1,ar 22 21 1,ab 23 4,bn 24 22 23 QT,an 25 24 1,ar 26 25 1,aD 27 (.app 20 26 3 [TI]),aD 28 (.build (bC QT) [(0,1,19),(1,1,27)]),aD 29 (.bO 178 QT [28]),aD 30 (.app 13 29 178 QT),ab 3 30] [(1,7),(2,7),(4,7),(5,7),(6,7),(7,8),(7,9),(7,11),(7,12),(7,13),(1,14),(2,14),(4,14),(5,14),(6,14)])),(.ae [ab 11 4,az 12 .add 11 (aw 1),ab 4 12])])
def Qzz:List (Nat × Md):=[(1,.b [.d,.d]),(2,.b [.d,.d]),(3,.one .f),(4,.one .d)]
def Qw7:af :=
 (ag [(.ae [ab 31 3,an 32 1 1,a8 32 31 1]),(.ae [aZ 33 1 2,a8 2 33 2]),.ret])
def QK2:af :=
 (ag [(.ae [aD 1 (.box 161 0 2),aD 2 (.new 161 (bC Qj))]),(.ae [aD 5 (.bO 178 QT []),ab 3 5]),(ag [(.ae [ab 4 (aw 0)]),(.block 0 (.loop Qzz Qxo))]),Qw7])
def Qxf:List (bw × Md):=[(.l 2 2 true,.b [.d,.o 178])]
def QtV:Qb:=TQ 0 0 Qxf K
def Q2U:Qb:=ba (aU R5 0 Qw7 (QtV K)) (QtV K)
def QOi:Qb:=bf 0 (Q2U K)
def R6(q:Qd)(i:Int)(l:List Zl):Prop:=Loop R5 0 Qzz Qxo (QOi K) ⟨[(1,(.p 0 0 0)),(2,(.p 1 0 0)),(3,(.r QT 2 0 l.length)),(4,(aO i))],[(0,(.box [(aO q.1),(bu QT q.2)])),(1,(.box [(aO 0),(bu QT ([]))])),(2,(.sl 178 QT .ow l))],3⟩
theorem QD8(q:Qd)(i:Int)(l:List Zl) (h :
 (aS (decide (i<((q.2).length:Int))) (((0<=i/\Int.toNat i<(q.2).length)/\((0<=i/\Int.toNat i<(q.2).length)/\(((0=0\/0+((aq ((0,[]):Zl) q.2 (Int.toNat i)).2).length<=0)/\0+((aq ((0,[]):Zl) q.2 (Int.toNat i)).2).length<=bP)/\((l.length=l.length\/l.length+1<=l.length)/\l.length+1<=bP))))/\(R6 K q (aI (i+1)) (List.take (l.length+1) ((List.take l.length l)++([((aq ((0,[]):Zl) q.2 (Int.toNat i)).1,(List.take (0+((aq ((0,[]):Zl) q.2 (Int.toNat i)).2).length) (List.drop 0 ((aq ((0,[]):Zl) q.2 (Int.toNat i)).2))))]))))) (K (BB (q.1,(List.take l.length l)))))):R6 K q i l :=
 Loop.of h
theorem QPX(q:Qd)(hp:QA (α:=Qd) q):aR Tryz.prog 217 [(.a [(.c TI q.1),(.c (.sl QT) q.2)])] (BB (id (α:=Qd) q)):=by
 refine bD R5 QK2 Qxf 0 0 34 BC kn (λK =>
 (R6 K q 0 ([]:List Zl))) (λhb=>?_)
 unfold QA at hp;simp only[Q9,Q1]at hp;refine Jm (l:=q.2) (Q:=λz=>BB (q.1,z)=BB (id (α:=Qd) q)) (by omega) (λk x v hk hl hg hv hx ih=>?_) (λhq=>?_) (au rfl)
 ·refine QD8 _ _ _ _ ⟨λ_=>?_,λh=>by simp at h;omega⟩;simp only[Q9,Q1]at hx;rw[Int.toNat_natCast,hg,dv (by omega),Zc,ru];have:=ZR x.2;exact⟨⟨⟨by omega,hk⟩,⟨by omega,hk⟩,⟨.inl rfl,by rw[QY];omega⟩,room (by omega)⟩,ih⟩
 ·refine QD8 _ _ _ _ ⟨λh=>by simp at h,λ_=>?_⟩;rw[List.take_length];exact hq
theorem R7:Qf Tryz.prog BC:=Qh λx h=>QPX x.1 h
def GF(t:Qd × Bool):aJ:=⟨(.tp [(.a [(aO t.1.1),(.r QT 0 0 ((t.1.2).length))]),(bH t.2)]),[(.sl 178 QT (.dp 0 true []) t.1.2)],[],false,[]⟩
def R8:aP:=Qg 150 [(.a Qj),(.a QT)] λx=>(some (ZK (α:=Qd) (β:=Zl) x.1 x.2.1),GF (Yn x.1 x.2.1))
def QSf:aN:=⟨[BA,Bx,GB,nt],true⟩
def QN9:af :=
 (ag [(.ae [aD 2 (.box 161 0 2),aD 3 (.box 178 1 2),aD 4 (.new 161 (bC Qj)),ab 5 (bm false)]),(.ae [aZ 7 2 2,aL 8 219 [7],aD 6 (.new 161 (bC Qj)),a8 6 8 2]),(ag [(.ae [aZ 9 2 2,aL 10 220 [9],bL 11 10,ab 12 11,.bj 12 false [aZ 13 3 2,aL 14 221 [13],bL 15 14] 16 15,ab 17 16,.bj 17 false [an 18 2 1,ar 19 18 1,bh 20 19,an 21 2 0,ar 22 21 1,az 23 .eql 20 22] 24 23]),(.cond 24 (ag [(.ae [aZ 25 6 2,a8 4 25 2,ab 5 (bm false)]),.ret]) .skip)]),(.draw [an 26 6 1,ar 27 26 1,an 28 3 0,ar 29 28 1,an 30 3 1,ar 31 30 1,aL 32 104 [31],aD 33 (.build (bC QT) [(0,1,29),(1,1,32)]),aD 34 (.bO 178 QT [33]),aD 35 (.app 27 34 178 QT),an 36 6 1,a8 36 35 1] [(0,6),(1,6),(2,6),(3,6),(0,8),(1,8)]),(.ae [aZ 37 6 2,a8 4 37 2,ab 5 (bm true)]),.ret])
def Q0H:List (bw × Md):=[(.l 4 2 true,.b [.d,.p 178]),(.t 5,.one .d)]
theorem QXs(q:Qd)(x:Zl)(hp:ZK (α:=Qd) (β:=Zl) q x):aR Tryz.prog 150 [(.a [(.c TI q.1),(.c (.sl QT) q.2)]),(.a [(.c TI x.1),(.c (.sl [TI]) x.2)])] (GF (Yn q x)):=by
 refine bD QSf QN9 Q0H 0 0 38 R8 (kc R4 (kc RZ (kc QEb (kc qg kn)))) (λK =>
 ((QA (α:=Qd) q)/\(aS (((!(Q3 q))||(!(Yq x)))||(((q.2).length:Int)==q.1)) (K (GF (((id (α:=Qd) q).1,(List.take (((id (α:=Qd) q).2).length) ((id (α:=Qd) q).2))),false))) (((QA (α:=List Int) x.2)/\((((id (α:=Qd) q).2).length=((id (α:=Qd) q).2).length\/((id (α:=Qd) q).2).length+1<=((id (α:=Qd) q).2).length)/\((id (α:=Qd) q).2).length+1<=bP))/\K (GF (((id (α:=Qd) q).1,(List.take (((id (α:=Qd) q).2).length+1) ((List.take (((id (α:=Qd) q).2).length) ((id (α:=Qd) q).2))++([(x.1,(List.take ((id (α:=List Int) x.2).length) (List.drop 0 (id (α:=List Int) x.2))))])))),true)))))) (λhb=>?_)
 unfold ZK at hp;have hq:QA q:=by unfold QA;omega
 simp only[Q9,Q1]at hp;have h1:=Yk q.2;have h2:=ZR x.2;have e:((((!(Q3 q))||(!(Yq x)))||(((q.2).length:Int)==q.1))) = !(Q3 q&&Yq x&&decide ((q.2.length:Int)<q.1)):=by
  cases hk:Q3 q
  ·rfl
  ·have:(q.2.length:Int)<=q.1:=by
    simp only[Q3,Bool.and_eq_true,decide_eq_true_eq]at hk;exact hk.1.2
   cases Yq x
   ·rfl
   ·rw[Bool.eq_iff_iff];simp;omega
 rw[e];refine⟨hq,λh=>au ?_,λh=>⟨⟨(show Sz.sz (_:List Int)<=2147483648 by omega),⟨.inl rfl,by rw[QY];simp only[id];omega⟩⟩,au ?_⟩⟩
 ·simp only[Bool.not_eq_true']at h;simp[Yn,h]
 ·simp only[Bool.not_eq_false']at h;simp[Yn,h,List.take_of_length_le]
theorem Q2t:Qf Tryz.prog R8:=Qh λx h=>QXs x.1 x.2.1 h
def GG(t:Qd × Bool):aJ:=⟨(.tp [(.a [(aO t.1.1),(.r QT 0 0 ((t.1.2).length))]),(bH t.2)]),[(.sl 178 QT .ow t.1.2)],[],true,[]⟩
def R9:aP:=Qg 146 [(.a Qj),(.a QT)] λx=>(some (ZK (α:=Qd) (β:=Zl) x.1 x.2.1),GG (Yn x.1 x.2.1))
def Q2p:aN:=⟨[BC,Bw,Y6,YF],false⟩
def QOt:af :=
 (ag [(.ae [aD 2 (.box 161 0 2),aD 3 (.box 178 1 2),aD 4 (.new 161 (bC Qj)),ab 5 (bm false)]),(.ae [aZ 7 2 2,aL 8 217 [7],aD 6 (.new 161 (bC Qj)),a8 6 8 2]),(ag [(.ae [aZ 9 2 2,aL 10 218 [9],bL 11 10,ab 12 11,.bj 12 false [an 13 2 1,ar 14 13 1,bh 15 14,an 16 2 0,ar 17 16 1,az 18 .geq 15 17] 19 18,ab 20 19,.bj 20 false [an 21 3 1,ar 22 21 1,aL 23 97 [22],bL 24 23] 25 24,ab 26 25,.bj 26 false [an 27 3 0,ar 28 27 1,aL 29 158 [28,(aw 0),(aw 4)],bL 30 29] 31 30]),(.cond 31 (ag [(.ae [aZ 32 6 2,a8 4 32 2,ab 5 (bm false)]),.ret]) .skip)]),(.draw [an 33 6 1,ar 34 33 1,an 35 3 0,ar 36 35 1,aD 37 (.bO 3 [TI] []),an 38 3 1,ar 39 38 1,aD 40 (.app 37 39 3 [TI]),aD 41 (.build (bC QT) [(0,1,36),(1,1,40)]),aD 42 (.bO 178 QT [41]),aD 43 (.app 34 42 178 QT),an 44 6 1,a8 44 43 1] [(0,4),(1,4),(2,4),(3,4),(4,5),(4,6),(0,7),(1,7),(2,7),(3,7),(0,9),(1,9)]),(.ae [aZ 45 6 2,a8 4 45 2,ab 5 (bm true)]),.ret])
def QLr:List (bw × Md):=[(.l 4 2 true,.b [.d,.o 178]),(.t 5,.one .d)]
theorem Q3v(q:Qd)(x:Zl)(hp:ZK (α:=Qd) (β:=Zl) q x):aR Tryz.prog 146 [(.a [(.c TI q.1),(.c (.sl QT) q.2)]),(.a [(.c TI x.1),(.c (.sl [TI]) x.2)])] (GG (Yn q x)):=by
 refine bD Q2p QOt QLr 0 0 46 R9 (kc R7 (kc RW (kc Ji (kc YV kn)))) (λK =>
 ((QA (α:=Qd) q)/\(aS ((((!(Q3 q))||(decide (((q.2).length:Int)>=q.1)))||(!(QH x.2)))||(!(aT x.1 (0:Int) (4:Int)))) (K (GG (((id (α:=Qd) q).1,(List.take (((id (α:=Qd) q).2).length) ((id (α:=Qd) q).2))),false))) ((((0=0\/0+(x.2).length<=0)/\0+(x.2).length<=bP)/\((((id (α:=Qd) q).2).length=((id (α:=Qd) q).2).length\/((id (α:=Qd) q).2).length+1<=((id (α:=Qd) q).2).length)/\((id (α:=Qd) q).2).length+1<=bP))/\K (GG (((id (α:=Qd) q).1,(List.take (((id (α:=Qd) q).2).length+1) ((List.take (((id (α:=Qd) q).2).length) ((id (α:=Qd) q).2))++([(x.1,(List.take (0+(x.2).length) (List.drop 0 (x.2:List Int))))])))),true)))))) (λhb=>?_)
 unfold ZK at hp;have hq:QA q:=by unfold QA;omega
 simp only[Q9,Q1]at hp;have h1:=Yk q.2;have h2:=ZR x.2;have e:(((((!(Q3 q))||(decide (((q.2).length:Int)>=q.1)))||(!(QH x.2)))||(!(aT x.1 0 4)))) = !(Q3 q&&Yq x&&decide ((q.2.length:Int)<q.1)):=by
  cases hk:Q3 q
  ·rfl
  ·cases hv:QH x.2
   ·simp[Yq,hv]
   ·rw[Bool.eq_iff_iff];simp[Yq,hv,aT];omega
 rw[e];refine⟨hq,λh=>au ?_,λh=>⟨⟨⟨.inl rfl,by rw[QY];omega⟩,⟨.inl rfl,by rw[QY];simp only[id];omega⟩⟩,au ?_⟩⟩
 ·simp only[Bool.not_eq_true']at h;simp[Yn,h]
 ·simp only[Bool.not_eq_false']at h;simp[Yn,h,List.take_of_length_le]
theorem QWv:Qf Tryz.prog R9:=Qh λx h=>Q3v x.1 x.2.1 h
def GH(t:Qd × Zl × Bool):aJ:=⟨(.tp [(.a [(aO t.1.1),(.r QT 0 0 ((t.1.2).length))]),(.a [(aO t.2.1.1),(.r [TI] 1 0 ((t.2.1.2).length))]),(bH t.2.2)]),[(.sl 0 QT (.dp 0 false []) t.1.2),(.sl 0 [TI] (.dp 0 false []) t.2.1.2)],[],false,[]⟩
def Sa:aP:=Qg 149 [(.a Qj)] λx=>(some (QA (α:=Qd) x.1),GH (Zq x.1))
def Q3H:aN:=⟨[BA,Bx],true⟩
def QNc:af :=
 (ag [(.ae [aD 1 (.box 161 0 2),aD 2 (.new 161 (bC Qj)),aD 3 (.new 178 (bC QT)),ab 4 (bm false)]),(.ae [aZ 7 1 2,aL 8 219 [7],aD 5 (.new 161 (bC Qj)),a8 5 8 2]),(ag [(.ae [aZ 9 1 2,aL 10 220 [9],bL 11 10,ab 12 11,.bj 12 false [an 13 1 1,ar 14 13 1,bh 15 14,az 16 .eql 15 (aw 0)] 17 16]),(.cond 17 (ag [(.ae [aZ 18 5 2,aD 19 (.build (bC QT) []),a8 2 18 2,a8 3 19 2,ab 4 (bm false)]),.ret]) .skip)]),(.ae [an 20 5 1,ar 21 20 1,bn 22 21 (aw 0) QT,aZ 23 22 2,aD 6 (.new 178 (bC QT)),a8 6 23 2]),(.ae [an 24 5 1,ar 25 24 1,aD 26 (.fO 25 (some (aw 1)) none QT),an 27 5 1,a8 27 26 1]),(.draw [aZ 28 5 2,aZ 29 6 2,a8 2 28 2,a8 3 29 2,ab 4 (bm true)] [(1,2)]),(.cv 3 1 .ret)])
def QXW:List (bw × Md):=[(.l 2 2 true,.b [.d,.w]),(.l 3 2 true,.b [.d,.w]),(.t 4,.one .d)]
theorem QXa(q:Qd)(hp:QA (α:=Qd) q):aR Tryz.prog 149 [(.a [(.c TI q.1),(.c (.sl QT) q.2)])] (GH (Zq q)):=by
 refine bD Q3H QNc QXW 0 0 30 Sa (kc R4 (kc RZ kn)) (λK =>
 ((QA (α:=Qd) q)/\(aS ((!(Q3 q))||(((q.2).length:Int)==0)) (K (GH (((id (α:=Qd) q).1,(List.take (((id (α:=Qd) q).2).length) ((id (α:=Qd) q).2))),((0:Int),([]:List Int)),false))) ((((0:Int)<=0/\Int.toNat 0<((id (α:=Qd) q).2).length)/\((0+(Int.toNat 0))<((id (α:=Qd) q).2).length))/\(((0:Int)<=1/\1<=((((id (α:=Qd) q).2).length:Nat):Int)/\((((id (α:=Qd) q).2).length:Nat):Int)<=((((id (α:=Qd) q).2).length:Nat):Int))/\(((0+(Int.toNat 0))<((id (α:=Qd) q).2).length)/\K (GH (((id (α:=Qd) q).1,(List.take (Int.toNat ((((id (α:=Qd) q).2).length:Nat):Int)-Int.toNat 1) (List.drop (0+Int.toNat 1) ((id (α:=Qd) q).2)))),((aq ((0,[]):Zl) ((id (α:=Qd) q).2) (0+(Int.toNat 0))).1,(List.take (((aq ((0,[]):Zl) ((id (α:=Qd) q).2) (0+(Int.toNat 0))).2).length) ((aq ((0,[]):Zl) ((id (α:=Qd) q).2) (0+(Int.toNat 0))).2))),true)))))))) (λhb=>?_)
 have hq:=hp;unfold QA at hp;simp only[Q9,Q1]at hp;have h1:=Yk q.2;have e:((!(Q3 q))||(((q.2).length:Int)==0)) = !(Q3 q&&decide (0<q.2.length)):=by
  rw[Bool.eq_iff_iff];simp
 rw[e];refine⟨hq,λh=>au ?_,λh=>?_⟩
 ·simp only[Bool.not_eq_true']at h;simp only[Zq,h];simp
 ·simp only[Bool.not_eq_false']at h;have h2:0<q.2.length:=by simp at h;exact h.2
  have h3:=C6 (Js h2 (0,[]));have h4:=ZR (aq (0,[]) q.2 0).2;simp only[Q9,Q1]at h3;have hM:(Zq q)=((q.1,q.2.tail),aq (0,[]) q.2 0,true):=by simp only[Zq,h];simp
  simp only[id];exact⟨⟨⟨by omega,by simpa using h2⟩,by simpa using h2⟩,⟨by omega,by omega,by omega⟩,by simpa using h2,au (by rw[hM];simp[List.take_of_length_le])⟩
theorem QV6:Qf Tryz.prog Sa:=Qh λx h=>QXa x.1 h
def GI(t:Qd × Zl × Bool):aJ:=f0 (.tp [(.a [(aO t.1.1),(bu QT t.1.2)]),(.a [(aO t.2.1.1),(bu [TI] t.2.1.2)]),(bH t.2.2)])
def Sb:aP:=Qg 145 [(.a Qj)] λx=>(some (QA (α:=Qd) x.1),GI (Zq x.1))
def QY7:aN:=⟨[BC,Bw],false⟩
def QQY:af :=
 (ag [(.ae [aD 1 (.box 161 0 2),aD 2 (.new 161 (bC Qj)),aD 3 (.new 178 (bC QT)),ab 4 (bm false)]),(.ae [aZ 7 1 2,aL 8 217 [7],aD 5 (.new 161 (bC Qj)),a8 5 8 2]),(ag [(.ae [aZ 9 1 2,aL 10 218 [9],bL 11 10,ab 12 11,.bj 12 false [an 13 1 1,ar 14 13 1,bh 15 14,az 16 .eql 15 (aw 0)] 17 16]),(.cond 17 (ag [(.ae [aZ 18 5 2,aD 19 (.build (bC QT) []),a8 2 18 2,a8 3 19 2,ab 4 (bm false)]),.ret]) .skip)]),(.ae [an 20 1 1,ar 21 20 1,bn 22 21 (aw 0) QT,aZ 23 22 2,aD 6 (.new 178 (bC QT)),a8 6 23 2]),(.ae [an 24 5 1,ar 25 24 1,aD 26 (.fO 25 (some (aw 1)) none QT),an 27 5 1,a8 27 26 1]),(.draw [aZ 28 5 2,an 29 6 0,ar 30 29 1,aD 31 (.bO 3 [TI] []),an 32 6 1,ar 33 32 1,aD 34 (.app 31 33 3 [TI]),aD 35 (.build (bC QT) [(0,1,30),(1,1,34)]),a8 2 28 2,a8 3 35 2,ab 4 (bm true)] [(0,3),(1,3),(2,3),(3,4),(3,5),(0,6),(1,6),(2,6),(1,8),(2,8)]),.ret])
def QZH:List (bw × Md):=[(.l 2 2 true,.b [.d,.d]),(.l 3 2 true,.b [.d,.d]),(.t 4,.one .d)]
theorem QRD(q:Qd)(hp:QA (α:=Qd) q):aR Tryz.prog 145 [(.a [(.c TI q.1),(.c (.sl QT) q.2)])] (GI (Zq q)):=by
 refine bD QY7 QQY QZH 0 0 36 Sb (kc R7 (kc RW kn)) (λK =>
 ((QA (α:=Qd) q)/\(aS ((!(Q3 q))||(((q.2).length:Int)==0)) (K (GI (((id (α:=Qd) q).1,(List.take (((id (α:=Qd) q).2).length) (List.drop 0 ((id (α:=Qd) q).2)))),((0:Int),[]),false))) (((0:Int)<=0/\Int.toNat 0<(q.2).length)/\(((0:Int)<=1/\1<=((((id (α:=Qd) q).2).length:Nat):Int)/\((((id (α:=Qd) q).2).length:Nat):Int)<=((((id (α:=Qd) q).2).length:Nat):Int))/\(((0=0\/0+((aq ((0,[]):Zl) q.2 (Int.toNat 0)).2).length<=0)/\0+((aq ((0,[]):Zl) q.2 (Int.toNat 0)).2).length<=bP)/\K (GI (((id (α:=Qd) q).1,(List.take (Int.toNat ((((id (α:=Qd) q).2).length:Nat):Int)-Int.toNat 1) (List.drop (0+Int.toNat 1) ((id (α:=Qd) q).2)))),((aq ((0,[]):Zl) q.2 (Int.toNat 0)).1,(List.take (0+((aq ((0,[]):Zl) q.2 (Int.toNat 0)).2).length) (List.drop 0 ((aq ((0,[]):Zl) q.2 (Int.toNat 0)).2)))),true)))))))) (λhb=>?_)
 have hq:=hp;unfold QA at hp;simp only[Q9,Q1]at hp;have h1:=Yk q.2;have e:((!(Q3 q))||(((q.2).length:Int)==0)) = !(Q3 q&&decide (0<q.2.length)):=by
  rw[Bool.eq_iff_iff];simp
 rw[e];refine⟨hq,λh=>au ?_,λh=>?_⟩
 ·simp only[Bool.not_eq_true']at h;simp only[Zq,h];simp
 ·simp only[Bool.not_eq_false']at h;have h2:0<q.2.length:=by simp at h;exact h.2
  have h3:=C6 (Js h2 (0,[]));have h4:=ZR (aq (0,[]) q.2 0).2;simp only[Q9,Q1]at h3;have hM:(Zq q)=((q.1,q.2.tail),aq (0,[]) q.2 0,true):=by simp only[Zq,h];simp
  simp only[id];exact⟨⟨by omega,by simpa using h2⟩,⟨by omega,by omega,by omega⟩,⟨by simp,by rw[QY];simp;omega⟩,au (by rw[hM];simp[List.take_of_length_le])⟩
theorem QNX:Qf Tryz.prog Sb:=Qh λx h=>QRD x.1 h
def Jd(t:Bool):aJ:=cd (bH t)
def Sc:aP:=Qg 176 [(.a QM)] λx=>(none,Jd (Zz x.1))
def qt:aN:=⟨[YF,wQ,Bw,Y6],false⟩
def QG7:af :=
 (ag [(ag [(.ae [ab 59 6,an 60 5 1,ar 61 60 1,bh 62 61,az 63 .lss 59 62]),(.cond 63 .skip (.exit 2))]),(.block 3 (ag [(.draw [an 66 5 1,ar 67 66 1,ab 68 6,bn 69 67 68 Qs,an 70 69 1,ar 71 70 1,an 72 1 0,ar 73 72 1,bh 74 73,az 75 .sub 74 (aw 1),aL 76 158 [71,(aw 0),75],bL 77 76] []),(.cond 77 (ag [(.ae [ab 2 (bm false)]),.ret]) .skip)])),(.ae [ab 64 6,az 65 .add 64 (aw 1),ab 6 65])])
def Qzy:List (Nat × Md):=[(1,.b (da 4)),(3,.one .d),(4,.one .d),(5,.b (da 14)),(6,.one .d)]
def QDK:af :=
 (ag [(.ae [ab 78 4,az 79 .gtr 78 (aw 0),ab 80 79,.bj 80 true [an 81 1 2,ar 82 81 1,ab 83 4,az 84 .sub 83 (aw 1),bn 85 82 84 Qj,aZ 86 85 2,aL 87 218 [86],bL 88 87,ab 89 88,.bj 89 false [an 90 1 3,ar 91 90 1,ab 92 4,az 93 .sub 92 (aw 1),bn 94 91 93 Qj,aZ 95 94 2,aL 96 218 [95],bL 97 96] 98 97] 99 98]),(.cond 99 (ag [(.ae [ab 2 (bm false)]),.ret]) .skip)])
def QEI:af :=
 (.ae [ab 40 4,az 41 .add 40 (aw 1),ab 4 41])
def Sd:af :=
 (ag [(ag [(.ae [ab 37 4,ab 38 3,az 39 .lss 37 38]),(.cond 39 .skip (.exit 0))]),(.block 1 (ag [(.ae [an 42 1 1,ar 43 42 1,ab 44 4,bn 45 43 44 Qm,aZ 46 45 14,aD 5 (.new 39 (bC Qm)),a8 5 46 14]),(ag [(.ae [aZ 47 5 14,aL 48 63 [47],bL 49 48,ab 50 49,.bj 50 false [an 51 5 3,ar 52 51 1,ab 53 4,ab 54 3,az 55 .sub 54 (aw 1),az 56 .eql 53 55,aD 57 (.j1 true 52 56)] 58 57]),(.cond 58 (ag [(.ae [ab 2 (bm false)]),.ret]) .skip)]),(ag [(.ae [ab 6 (aw 0)]),(.block 2 (.loop Qzy QG7))]),QDK])),QEI])
def GJ:List (Nat × Md):=[(1,.b (da 4)),(3,.one .d),(4,.one .d)]
def QGJ:af :=
 (ag [(ag [(.ae [ab 100 7,an 101 1 0,ar 102 101 1,bh 103 102,az 104 .lss 100 103]),(.cond 104 .skip (.exit 4))]),(.block 5 (ag [(.ae [an 107 1 0,ar 108 107 1,ab 109 7,bn 110 108 109 Qp,an 111 110 0,ar 112 111 1,aL 113 97 [112],bL 114 113,ab 115 114,.bj 115 false [an 116 1 0,ar 117 116 1,ab 118 7,bn 119 117 118 Qp,an 120 119 1,ar 121 120 1,aL 122 97 [121],bL 123 122] 124 123]),(.cond 124 (ag [(.ae [ab 2 (bm false)]),.ret]) .skip)])),(.ae [ab 105 7,az 106 .add 105 (aw 1),ab 7 106])])
def Qub:List (Nat × Md):=[(1,.b (da 4)),(7,.one .d)]
def Quh:af :=
 (ag [(.ae [ab 2 (bm true)]),.ret])
def QI8:af :=
 (ag [(ag [(.ae [ab 7 (aw 0)]),(.block 4 (.loop Qub QGJ))]),Quh])
def QWC:af :=
 (ag [(.ae [aD 1 (.box 56 0 4),ab 2 (bm false)]),(.ae [an 8 1 1,ar 9 8 1,bh 10 9,ab 3 10]),(ag [(.ae [ab 11 3,aL 12 158 [11,(aw 1),(aw 4)],bL 13 12,ab 14 13,.bj 14 false [an 15 1 2,ar 16 15 1,bh 17 16,ab 18 3,az 19 .sub 18 (aw 1),az 20 .neq 17 19] 21 20,ab 22 21,.bj 22 false [an 23 1 3,ar 24 23 1,bh 25 24,ab 26 3,az 27 .sub 26 (aw 1),az 28 .neq 25 27] 29 28,ab 30 29,.bj 30 false [an 31 1 0,ar 32 31 1,bh 33 32,aL 34 158 [33,(aw 1),(aw 5)],bL 35 34] 36 35]),(.cond 36 (ag [(.ae [ab 2 (bm false)]),.ret]) .skip)]),(ag [(.ae [ab 4 (aw 0)]),(.block 0 (.loop GJ Sd))]),QI8])
def QH9:List (bw × Md):=[(.t 2,.one .d)]
def GK:Qb:=TQ 0 0 QH9 K
def QQs:Qb:=ba (aU qt 0 QI8 (GK K)) (GK K)
def Se:Qb:=bf 0 (QQs K)
def QAb:Qb:=ba (λs'=>Loop qt 0 GJ Sd (Se K) (gc 0 GJ s')) (Se K)
def QUD:Qb:=ba (aU qt 0 QEI (QAb K)) (QAb K)
def QE2:Qb:=bf 1 (QUD K)
def QXb:Qb:=ba (aU qt 0 QDK (QE2 K)) (QE2 K)
def QKu:Qb:=bf 2 (QXb K)
def Sf(p:Ql)(i:Int)(s:Int):Prop:=Loop qt 0 Qzy QG7 (QKu K) ⟨[(1,(.p 0 0 0)),(3,(aO ((p.2.1).length:Int))),(4,(aO s)),(5,(.p 1 0 0)),(6,(aO i))],[(0,(.box (aV.cells QM p))),(1,(.box (aV.cells Qm (aq QE p.2.1 (Int.toNat s)))))],2⟩
def Q1H:Qb:=ba (aU qt 0 Quh (GK K)) (GK K)
def QVz:Qb:=bf 4 (Q1H K)
def BD(p:Ql)(i1:Int):Prop:=Loop qt 0 Qub QGJ (QVz K) ⟨[(1,(.p 0 0 0)),(7,(aO i1))],[(0,(.box (aV.cells QM p)))],1⟩
def BE(p:Ql)(s:Int):Prop:=Loop qt 0 GJ Sd (Se K) ⟨[(1,(.p 0 0 0)),(3,(aO ((p.2.1).length:Int))),(4,(aO s))],[(0,(.box (aV.cells QM p)))],1⟩
theorem QKP(p:Ql)(i:Int)(s:Int) (h :
 (aS (decide (i<(((aq QE p.2.1 (Int.toNat s)).2.1).length:Int))) ((0<=i/\Int.toNat i<((aq QE p.2.1 (Int.toNat s)).2.1).length)/\(aS (!(aT ((aq f5 ((aq QE p.2.1 (Int.toNat s)).2.1) (Int.toNat i)).2) (0:Int) (aI (((p.1).length:Int)-1)))) (K (Jd false)) (Sf K p (aI (i+1)) s))) (((decide (s>0))=true->((0<=aI (s-1)/\Int.toNat (aI (s-1))<(p.2.2.1).length)/\((!(!(Q3 (aq QI p.2.2.1 (Int.toNat (aI (s-1)))))))=true->(0<=aI (s-1)/\Int.toNat (aI (s-1))<(p.2.2.2).length))))/\(aS ((decide (s>0))&&((!(Q3 (aq QI p.2.2.1 (Int.toNat (aI (s-1))))))||(!(Q3 (aq QI p.2.2.2 (Int.toNat (aI (s-1)))))))) (K (Jd false)) (BE K p (aI (s+1))))))):Sf K p i s :=
 Loop.of h
theorem QDI(p:Ql)(i1:Int) (h :
 (aS (decide (i1<((p.1).length:Int))) (((0<=i1/\Int.toNat i1<(p.1).length)/\((!(!(QH ((aq QP p.1 (Int.toNat i1)).1))))=true->(0<=i1/\Int.toNat i1<(p.1).length)))/\(aS ((!(QH ((aq QP p.1 (Int.toNat i1)).1)))||(!(QH ((aq QP p.1 (Int.toNat i1)).2)))) (K (Jd false)) (BD K p (aI (i1+1))))) (K (Jd true)))):BD K p i1 :=
 Loop.of h
theorem QER(p:Ql)(s:Int) (h :
 (aS (decide (s<((p.2.1).length:Int))) ((0<=s/\Int.toNat s<(p.2.1).length)/\(aS ((!(QU (aq QE p.2.1 (Int.toNat s))))||(!(((aq QE p.2.1 (Int.toNat s)).2.2.2.1)==(s==(aI (((p.2.1).length:Int)-1)))))) (K (Jd false)) (Sf K p 0 s))) (BD K p 0))):BE K p s :=
 Loop.of h
theorem QRU(p:Ql):aR Tryz.prog 176 [(.a (aV.cells QM p))] (Jd (Zz p)):=by
 refine bD qt QWC QH9 0 0 125 Sc (kc YV (kc E0 (kc RW (kc Ji kn)))) (λK =>
 (aS ((((!(aT ((p.2.1).length:Int) (1:Int) (4:Int)))||(((p.2.2.1).length:Int) != (aI (((p.2.1).length:Int)-1))))||(((p.2.2.2).length:Int) != (aI (((p.2.1).length:Int)-1))))||(!(aT ((p.1).length:Int) (1:Int) (5:Int)))) (K (Jd false)) (BE K p 0))) (λhb=>?_)
 have fF:(p.1).length<=9223372036854775807:=hb.1.1.1;have fi:(p.2.1).length<=9223372036854775807:=hb.1.2.1.1;have gn:(p.2.2.1).length<=9223372036854775807:=hb.1.2.2.1.1;have gp:(p.2.2.2).length<=9223372036854775807:=hb.1.2.2.2.1.1;by_cases h0:aT p.2.1.length 1 4=true;rotate_left
 ·exact⟨λh=>au (by simp[Zz,h0]),λh=>by simp[h0]at h⟩
 have h1:=QW.1 h0;have e1:aI ((p.2.1.length:Int)-1)=p.2.1.length-1:=Qy (by omega) (by omega);rw[e1];refine⟨λh=>au ?_,λh=>?_⟩
 ·have:((p.2.2.1.length+1==p.2.1.length)&&(p.2.2.2.length+1==p.2.1.length)&&aT p.1.length 1 5)=false:=by
   cases hx:aT p.1.length 1 5 with
   | false=>simp
   | true=>simp[h0,hx]at h;simp;omega
  have e2:(Zz p)=false:=by
   unfold Zz;rw[h0,Bool.true_and,this,Bool.false_and]
  exact e2.symm
 have h2:aT p.1.length 1 5=true:=by grind
 have h3:=QW.1 h2;have ha:p.2.2.1.length+1=p.2.1.length/\p.2.2.2.length+1=p.2.1.length:=by simp[h0,h2]at h;omega
 have val:(Zz p)=(p.1.all JI&&(p.2.2.1.all Q3&&p.2.2.2.all Q3)&&Jw p.1.length p.2.1):=by
  simp only[Zz,h0,h2,ha];simp
 have e3:aI ((p.1.length:Int)-1)=p.1.length-1:=Qy (by omega) (by omega);have batch:(p.2.2.1.all Q3&&p.2.2.2.all Q3)=true->Jw p.1.length p.2.1=true->BD (λr'=>r'=Jd (Zz p)) p ((0:Nat):Int):=by
  intro hq hs;refine Zd p.1 (λr k=>r.all JI=p.1.all JI->BD (λr'=>r'=Jd (Zz p)) p k) ?_ ?_ rfl
  ·intro he;refine QDI _ _ _ ⟨λh=>by simp at h,λ_=>au ?_⟩;rw[val,hq,hs,<- he];rfl
  ·intro k x r hk aY hg ih he;refine QDI _ _ _ ⟨λ_=>?_,λh=>by simp at h;omega⟩;rw[Int.toNat_natCast,hg,Qy (x:=(k:Int)+1) (by omega) (by omega)];rw[List.all_cons]at he;refine⟨⟨⟨by omega,aY⟩,λ_=>⟨by omega,aY⟩⟩,λh=>au ?_,λh=>ih ?_⟩
   ·have:JI x=false:=by grind[JI]
    rw[this,Bool.false_and]at he;rw[val,<- he];rfl
   ·have:JI x=true:=by grind[JI]
    rw[this,Bool.true_and]at he;exact he
 refine Zd p.2.1 (λr k=>Jw p.1.length r=Jw p.1.length p.2.1->(∀ j:Nat,j+1<k->Q3 (aq QI p.2.2.1 j)=true/\Q3 (aq QI p.2.2.2 j)=true)->BE (λr'=>r'=Jd (Zz p)) p k) ?_ ?_ rfl (λj hj=>by omega)
 ·intro he hq;refine QER _ _ _ ⟨λh=>by simp at h,λ_=>batch ?_ ?_⟩
  ·rw[(zK QI).2 (λj hj=>(hq j (by omega)).1),(zK QI).2 (λj hj=>(hq j (by omega)).2)];rfl
  ·rw[<- he];rfl
 ·intro k x r hk aY hg ih he hq;have du:x∈p.2.1:=List.mem_of_mem_drop (i:=k) (by rw[hk];exact List.mem_cons_self);have js:x.2.1.length<=9223372036854775807:=(hb.1.2.1.2 x du).2.1.1;have fX:=W1 hk fi;rw[e1]at fX;rw[Jw]at he;refine QER _ _ _ ⟨λ_=>?_,λh=>by simp at h;omega⟩;rw[Int.toNat_natCast,hg,e1,fX];refine⟨⟨by omega,aY⟩,λh=>au ?_,λh=>?_⟩
  ·have:(QU x&&(x.2.2.2.1==decide (r.length=0)))=false:=by grind
   rw[this,Bool.false_and,Bool.false_and]at he;rw[val,<- he,Bool.and_false]
  ·have:(QU x&&(x.2.2.2.1==decide (r.length=0)))=true:=by grind
   rw[this,Bool.true_and]at he;have rest:x.2.1.all (λy=>aT y.2 0 (p.1.length-1))=true->((((decide ((k:Int)>0))=true->((0<=aI ((k:Int)-1)/\Int.toNat (aI ((k:Int)-1))<p.2.2.1.length)/\((!(!(Q3 (aq QI p.2.2.1 (Int.toNat (aI ((k:Int)-1)))))))=true->(0<=aI ((k:Int)-1)/\Int.toNat (aI ((k:Int)-1))<p.2.2.2.length))))/\((((decide ((k:Int)>0))&&((!(Q3 (aq QI p.2.2.1 (Int.toNat (aI ((k:Int)-1))))))||(!(Q3 (aq QI p.2.2.2 (Int.toNat (aI ((k:Int)-1))))))))=true->Jd false=Jd (Zz p))/\(((decide ((k:Int)>0))&&((!(Q3 (aq QI p.2.2.1 (Int.toNat (aI ((k:Int)-1))))))||(!(Q3 (aq QI p.2.2.2 (Int.toNat (aI ((k:Int)-1))))))))=false->BE (λr'=>r'=Jd (Zz p)) p (aI ((k:Int)+1)))))):=by
    intro hx;rw[hx,Bool.true_and]at he;rw[Qy (x:=(k:Int)+1) (by omega) (by omega)]
    rcases Nat.eq_zero_or_pos k with k0 | k0
    ·subst k0;exact⟨λh=>by simp at h,λh=>by simp at h,λ_=>ih he (λj hj=>by omega)⟩
    ·have e2:=oy k0 (by omega:k<=9223372036854775807);rw[e2.1];refine⟨λ_=>⟨⟨e2.2,by omega⟩,λ_=>⟨e2.2,by omega⟩⟩,λh=>au ?_,λh=>ih he (λj hj=>?_)⟩
     ·have qI:(p.2.2.1.all Q3&&p.2.2.2.all Q3)=false:=by
       cases hc:(p.2.2.1.all Q3&&p.2.2.2.all Q3) with
       | false=>rfl
       | true =>
        simp only[Bool.and_eq_true]at hc;have a1:=(zK QI).1 hc.1 (k-1) (by omega);have a2:=(zK QI).1 hc.2 (k-1) (by omega);rw[a1,a2]at h;simp at h
      rw[val,qI];simp
     ·by_cases hjk:j+1<k
      ·exact hq j hjk
      ·rw[show j=k-1 by omega];have jH:decide ((k:Int)>0)=true:=by simp;omega
       rw[jH]at h;grind
   refine ox (l:=x.2.1) (Q:=λb=>tV b _ (Jd false=Jd (Zz p))) (p:=λy=>aT y.2 0 (p.1.length-1)) (c:=λy=>!(aT y.2 0 (p.1.length-1))) (e:=true) f5 js (λy=>rfl) (λi h=>QKP (λr'=>r'=Jd (Zz p)) p i k (by rw[Int.toNat_natCast,hg,e3];exact h)) ?_
   cases hx:x.2.1.all (λy=>aT y.2 0 (p.1.length-1)) with
   | false =>
    rw[hx,Bool.false_and]at he;exact au (by rw[val,<- he,Bool.and_false])
   | true=>exact rest hx
theorem QPx:Qf Tryz.prog Sc:=Qh λx _=>QRU x.1
def YO(t:Bool):aJ:=cd (bH t)
def Sg:aP:=Qg 179 [(.a QM)] λx=>(none,YO (Zz x.1))
def oV:aN:=⟨[p9,Bx,wP],false⟩
def Qwe:af :=
 (ag [(.ae [az 50 .lss 49 48]),(.cond 50 .skip (.exit 0)),(.block 1 (ag [(.ae [bn 51 47 49 Qp,aZ 52 51 2,aD 5 (.new 154 (bC Qp)),a8 5 52 2]),(.ae [an 53 5 0,ar 54 53 1,aL 55 187 [54],bL 56 55,ab 57 56,.bj 57 false [an 58 5 1,ar 59 58 1,aL 60 187 [59],bL 61 60] 62 61]),(.cond 62 (ag [(.ae [ab 2 (bm false)]),.ret]) .skip)])),(.ae [az 63 .add 49 (aw 1),ab 49 63])])
def QGm:List (Nat × Md):=[(1,.b (da 4)),(3,.one .d),(47,.one .d),(48,.one .d),(49,.one .d)]
def Qvq:af :=
 (ag [(.ae [az 68 .lss 67 66]),(.cond 68 .skip (.exit 2)),(.block 3 (ag [(.ae [ab 69 67,ab 6 69]),(.ae [an 70 1 2,ar 71 70 1,ab 72 6,bn 73 71 72 Qj,aZ 74 73 2,aL 75 220 [74],bL 76 75,ab 77 76,.bj 77 false [an 78 1 3,ar 79 78 1,ab 80 6,bn 81 79 80 Qj,aZ 82 81 2,aL 83 220 [82],bL 84 83] 85 84]),(.cond 85 (ag [(.ae [ab 2 (bm false)]),.ret]) .skip)])),(.ae [az 86 .add 67 (aw 1),ab 67 86])])
def QuR:List (Nat × Md):=[(1,.b (da 4)),(3,.one .d),(66,.one .d),(67,.one .d)]
def Qz6:af :=
 (ag [(.ae [az 111 .lss 110 109]),(.cond 111 .skip (.exit 6)),(.block 7 (ag [(.ae [bn 112 108 110 Qs,aZ 113 112 2,aD 10 (.new 175 (bC Qs)),a8 10 113 2]),(.ae [an 114 10 1,ar 115 114 1,az 116 .lss 115 (aw 0),ab 117 116,.bj 117 false [an 118 10 1,ar 119 118 1,an 120 1 0,ar 121 120 1,bh 122 121,az 123 .geq 119 122] 124 123]),(.cond 124 (ag [(.ae [ab 2 (bm false)]),.ret]) .skip)])),(.ae [az 125 .add 110 (aw 1),ab 110 125])])
def QBG:List (Nat × Md):=[(1,.b (da 4)),(3,.one .d),(88,.one .d),(89,.one .d),(90,.one .d),(108,.one .d),(109,.one .d),(110,.one .d)]
def QAH:af :=
 (.ae [az 126 .add 90 (aw 1),ab 90 126])
def Si:af :=
 (ag [(.ae [az 91 .lss 90 89]),(.cond 91 .skip (.exit 4)),(.block 5 (ag [(.ae [ab 92 90,bn 93 88 90 Qm,aZ 94 93 14,aD 8 (.new 39 (bC Qm)),ab 7 92,a8 8 94 14]),(ag [(.ae [aZ 95 8 14,aL 96 72 [95],bL 97 96,ab 98 97,.bj 98 false [an 99 8 3,ar 100 99 1,ab 101 7,ab 102 3,az 103 .sub 102 (aw 1),az 104 .eql 101 103,aD 105 (.j1 true 100 104)] 106 105]),(.cond 106 (ag [(.ae [ab 2 (bm false)]),.ret]) .skip)]),(.ae [an 107 8 1,ar 108 107 1,bh 109 108,ab 110 (aw 0)]),(.block 6 (.loop QBG Qz6))])),QAH])
def GL:List (Nat × Md):=[(1,.b (da 4)),(3,.one .d),(88,.one .d),(89,.one .d),(90,.one .d)]
def QBf:af :=
 (ag [(.ae [ab 2 (bm true)]),.ret])
def QIL:af :=
 (ag [(ag [(.ae [an 87 1 1,ar 88 87 1,bh 89 88,ab 90 (aw 0)]),(.block 4 (.loop GL Si))]),QBf])
def QFV:af :=
 (ag [(ag [(.ae [an 64 1 2,ar 65 64 1,bh 66 65,ab 67 (aw 0)]),(.block 2 (.loop QuR Qvq))]),QIL])
def Q1T:af :=
 (ag [(.ae [aD 1 (.box 56 0 4),ab 2 (bm false)]),(.ae [an 11 1 1,ar 12 11 1,bh 13 12,ab 3 13]),(ag [(.ae [ab 14 3,az 15 .lss 14 (aw 1),ab 16 15,.bj 16 false [ab 17 3,az 18 .gtr 17 (aw 4)] 19 18,ab 20 19,.bj 20 false [an 21 1 2,ar 22 21 1,bh 23 22,ab 24 3,az 25 .sub 24 (aw 1),az 26 .neq 23 25] 27 26,ab 28 27,.bj 28 false [an 29 1 3,ar 30 29 1,bh 31 30,ab 32 3,az 33 .sub 32 (aw 1),az 34 .neq 31 33] 35 34]),(.cond 35 (ag [(.ae [ab 2 (bm false)]),.ret]) .skip)]),(ag [(.ae [an 36 1 0,ar 37 36 1,bh 38 37,az 39 .lss 38 (aw 1),ab 40 39,.bj 40 false [an 41 1 0,ar 42 41 1,bh 43 42,az 44 .gtr 43 (aw 5)] 45 44]),(.cond 45 (ag [(.ae [ab 2 (bm false)]),.ret]) .skip)]),(ag [(.ae [an 46 1 0,ar 47 46 1,bh 48 47,ab 49 (aw 0)]),(.block 0 (.loop QGm Qwe))]),QFV])
def QFk:List (bw × Md):=[(.t 2,.one .d)]
def xm:Qb:=TQ 0 0 QFk K
def Q0C:Qb:=ba (aU oV 0 QBf (xm K)) (xm K)
def Sj:Qb:=bf 4 (Q0C K)
def QAh:Qb:=ba (λs'=>Loop oV 0 GL Si (Sj K) (gc 0 GL s')) (Sj K)
def QTt:Qb:=ba (aU oV 0 QAH (QAh K)) (QAh K)
def QQk:Qb:=bf 5 (QTt K)
def QLI:Qb:=bf 6 (QQk K)
def Sk(p:Ql)(x2:Int)(x3:Int):Prop:=Loop oV 0 QBG Qz6 (QLI K) ⟨[(1,(.p 0 0 0)),(3,(aO ((p.2.1).length:Int))),(88,(bu Qm p.2.1)),(89,(aO ((p.2.1).length:Int))),(90,(aO x3)),(108,(bu Qs ((aq QE p.2.1 (Int.toNat x3)).2.1))),(109,(aO (((aq QE p.2.1 (Int.toNat x3)).2.1).length:Int))),(110,(aO x2))],[(0,(.box (aV.cells QM p)))],1⟩
def BF(p:Ql)(x3:Int):Prop:=Loop oV 0 GL Si (Sj K) ⟨[(1,(.p 0 0 0)),(3,(aO ((p.2.1).length:Int))),(88,(bu Qm p.2.1)),(89,(aO ((p.2.1).length:Int))),(90,(aO x3))],[(0,(.box (aV.cells QM p)))],1⟩
def Q4t:Qb:=ba (aU oV 0 QIL (xm K)) (xm K)
def QVB:Qb:=bf 2 (Q4t K)
def xn(p:Ql)(x1:Int):Prop:=Loop oV 0 QuR Qvq (QVB K) ⟨[(1,(.p 0 0 0)),(3,(aO ((p.2.1).length:Int))),(66,(aO ((p.2.2.1).length:Int))),(67,(aO x1))],[(0,(.box (aV.cells QM p)))],1⟩
def QZ7:Qb:=ba (aU oV 0 QFV (xm K)) (xm K)
def QU3:Qb:=bf 0 (QZ7 K)
def Sl(p:Ql)(x:Int):Prop:=Loop oV 0 QGm Qwe (QU3 K) ⟨[(1,(.p 0 0 0)),(3,(aO ((p.2.1).length:Int))),(47,(bu Qp p.1)),(48,(aO ((p.1).length:Int))),(49,(aO x))],[(0,(.box (aV.cells QM p)))],1⟩
theorem Q1F(p:Ql)(x2:Int)(x3:Int) (h :
 (aS (decide (x2<(((aq QE p.2.1 (Int.toNat x3)).2.1).length:Int))) ((0<=x2/\Int.toNat x2<((aq QE p.2.1 (Int.toNat x3)).2.1).length)/\(aS ((decide (((aq f5 ((aq QE p.2.1 (Int.toNat x3)).2.1) (Int.toNat x2)).2)<0))||(decide (((aq f5 ((aq QE p.2.1 (Int.toNat x3)).2.1) (Int.toNat x2)).2)>=((p.1).length:Int)))) (K (YO false)) (Sk K p (aI (x2+1)) x3))) (BF K p (aI (x3+1))))):Sk K p x2 x3 :=
 Loop.of h
theorem QFm(p:Ql)(x3:Int) (h :
 (aS (decide (x3<((p.2.1).length:Int))) ((0<=x3/\Int.toNat x3<(p.2.1).length)/\(aS ((!(QU (aq QE p.2.1 (Int.toNat x3))))||(!(((aq QE p.2.1 (Int.toNat x3)).2.2.2.1)==(x3==(aI (((p.2.1).length:Int)-1)))))) (K (YO false)) (Sk K p 0 x3))) (K (YO true)))):BF K p x3 :=
 Loop.of h
theorem QxS(p:Ql)(x1:Int) (h :
 (aS (decide (x1<((p.2.2.1).length:Int))) (((0<=x1/\Int.toNat x1<(p.2.2.1).length)/\((!(!(Q3 (aq QI p.2.2.1 (Int.toNat x1)))))=true->(0<=x1/\Int.toNat x1<(p.2.2.2).length)))/\(aS ((!(Q3 (aq QI p.2.2.1 (Int.toNat x1))))||(!(Q3 (aq QI p.2.2.2 (Int.toNat x1))))) (K (YO false)) (xn K p (aI (x1+1))))) (BF K p 0))):xn K p x1 :=
 Loop.of h
theorem QT9(p:Ql)(x:Int) (h :
 (aS (decide (x<((p.1).length:Int))) ((0<=x/\Int.toNat x<(p.1).length)/\(aS ((!(QH ((aq QP p.1 (Int.toNat x)).1)))||(!(QH ((aq QP p.1 (Int.toNat x)).2)))) (K (YO false)) (Sl K p (aI (x+1))))) (xn K p 0))):Sl K p x :=
 Loop.of h
theorem QLv(p:Ql):aR Tryz.prog 179 [(.a (aV.cells QM p))] (YO (Zz p)):=by
 refine bD oV Q1T QFk 0 0 127 Sg (kc uv (kc RZ (kc EV kn))) (λK =>
 (aS ((((decide (((p.2.1).length:Int)<1))||(decide (((p.2.1).length:Int)>4)))||(((p.2.2.1).length:Int) != (aI (((p.2.1).length:Int)-1))))||(((p.2.2.2).length:Int) != (aI (((p.2.1).length:Int)-1)))) (K (YO false)) (aS ((decide (((p.1).length:Int)<1))||(decide (((p.1).length:Int)>5))) (K (YO false)) (Sl K p 0)))) (λhb=>?_)
 have fF:(p.1).length<=9223372036854775807:=hb.1.1.1;have fi:(p.2.1).length<=9223372036854775807:=hb.1.2.1.1;have gn:(p.2.2.1).length<=9223372036854775807:=hb.1.2.2.1.1;have gp:(p.2.2.2).length<=9223372036854775807:=hb.1.2.2.2.1.1;refine⟨λh=>au ?_,λh=>?_⟩
 ·have:(aT p.2.1.length 1 4&&(p.2.2.1.length+1==p.2.1.length)&&(p.2.2.2.length+1==p.2.1.length))=false:=by
   by_cases h0:aT p.2.1.length 1 4=true
   ·have h1:=QW.1 h0;rw[Qy (x:=(p.2.1.length:Int)-1) (by omega) (by omega)]at h;simp at h;simp[h0];omega
   ·simp at h0;simp[h0]
  simp[Zz,this]
 have h0:aT p.2.1.length 1 4=true:=by simp at h;simp[aT];omega
 have h1:=QW.1 h0;have e1:aI ((p.2.1.length:Int)-1)=p.2.1.length-1:=Qy (by omega) (by omega);rw[e1]at h;have ha:p.2.2.1.length+1=p.2.1.length/\p.2.2.2.length+1=p.2.1.length:=by simp at h;omega
 refine⟨λh=>au ?_,λh=>?_⟩
 ·have:aT p.1.length 1 5=false:=by simp at h;simp[aT];omega
  simp[Zz,this]
 have h2:aT p.1.length 1 5=true:=by simp at h;simp[aT];omega
 have h3:=QW.1 h2;have val:(Zz p)=(p.1.all JI&&(p.2.2.1.all Q3&&p.2.2.2.all Q3)&&Jw p.1.length p.2.1):=by
  simp only[Zz,h0,h2,ha];simp
 refine ox (Q:=λb=>tV b (xn (λr'=>r'=YO (Zz p)) p ((0:Nat):Int)) (YO false=YO (Zz p))) (p:=JI) (c:=λx=>(!(QH x.1))||!(QH x.2)) (e:=true) QP fF (λx=>by grind[JI]) (λi h=>QT9 (λr'=>r'=YO (Zz p)) p i h) ?_
 cases sO:p.1.all JI with
 | false=>exact au (by rw[val,sO];rfl)
 | true =>
  show xn (λr'=>r'=YO (Zz p)) p ((0:Nat):Int);have uX:∀ k:Nat,((p.2.2.1.drop k).all Q3&&(p.2.2.2.drop k).all Q3)=(p.2.2.1.all Q3&&p.2.2.2.all Q3)->k<=p.2.2.1.length->xn (λr'=>r'=YO (Zz p)) p k:=by
   intro k;generalize hn:p.2.2.1.length-k=n
   induction n generalizing k with
   | zero =>
    intro he hle;refine QxS _ _ _ ⟨λh=>by simp at h;omega,λ_=>?_⟩;have eN:(p.2.2.1.all Q3&&p.2.2.2.all Q3)=true:=by
     rw[<- he,List.drop_eq_nil_of_le (by omega),List.drop_eq_nil_of_le (by omega)];rfl
    refine Zd p.2.1 (λr k=>Jw p.1.length r=Jw p.1.length p.2.1->BF (λr'=>r'=YO (Zz p)) p k) ?_ ?_ rfl
    ·intro eZ;refine QFm _ _ _ ⟨λh=>by simp at h,λ_=>au ?_⟩;rw[val,sO,eN,<- eZ];rfl
    ·intro k x r hk aY hg ih eZ;have du:x∈p.2.1:=List.mem_of_mem_drop (i:=k) (by rw[hk];exact List.mem_cons_self);have js:x.2.1.length<=9223372036854775807:=(hb.1.2.1.2 x du).2.1.1;have fX:=W1 hk fi;rw[Jw]at eZ;refine QFm _ _ _ ⟨λ_=>?_,λh=>by simp at h;omega⟩;rw[Int.toNat_natCast,hg,fX];refine⟨⟨by omega,aY⟩,λh=>au ?_,λh=>?_⟩
     ·have:(QU x&&(x.2.2.2.1==decide (r.length=0)))=false:=by grind
      rw[this,Bool.false_and,Bool.false_and]at eZ;rw[val,<- eZ,Bool.and_false]
     ·have:(QU x&&(x.2.2.2.1==decide (r.length=0)))=true:=by grind
      rw[this,Bool.true_and]at eZ;refine ox (l:=x.2.1) (Q:=λb=>tV b (BF (λr'=>r'=YO (Zz p)) p ((k+1:Nat):Int)) (YO false=YO (Zz p))) (p:=λy=>aT y.2 0 (p.1.length-1)) (c:=λy=>decide (y.2<0)||decide (y.2>=(p.1.length:Int))) (e:=true) f5 js (λy=>by grind[aT]) (λi h=>Q1F (λr'=>r'=YO (Zz p)) p i k (by rw[Int.toNat_natCast,hg,Qy (x:=(k:Int)+1) (by omega) (by omega)];exact h)) ?_
      cases hx:x.2.1.all (λy=>aT y.2 0 (p.1.length-1)) with
      | false =>
       rw[hx,Bool.false_and]at eZ;exact au (by rw[val,<- eZ,Bool.and_false])
      | true =>
       rw[hx,Bool.true_and]at eZ;exact ih eZ
   | succ n ihn =>
    intro he hle;obtain⟨y,q,hq⟩:∃ y q,p.2.2.1.drop k=y::q:=by
     cases hq:p.2.2.1.drop k with
     | nil=>have:=congrArg List.length hq;simp at this;omega
     | cons y q=>exact⟨y,q,rfl⟩
    obtain⟨z,t,hz⟩:∃ z t,p.2.2.2.drop k=z::t:=by
     cases hz:p.2.2.2.drop k with
     | nil=>have:=congrArg List.length hz;simp at this;omega
     | cons z t=>exact⟨z,t,rfl⟩
    have aY:=zx hq;refine QxS _ _ _ ⟨λ_=>?_,λh=>by simp at h;omega⟩;rw[Int.toNat_natCast,Z2 hq,Z2 hz,Qy (x:=(k:Int)+1) (by omega) (by omega)];have nu:=ihn (k+1) (by omega);rw[ZW hq,ZW hz]at nu;rw[hq,hz,List.all_cons,List.all_cons]at he;refine⟨⟨⟨by omega,aY⟩,λ_=>⟨by omega,by omega⟩⟩,λh=>au ?_,λh=>nu ?_ (by omega)⟩
    ·rw[val,<- he];grind
    ·rw[<- he];grind
  exact uX 0 rfl (Nat.zero_le _)
theorem QPG:Qf Tryz.prog Sg:=Qh λx _=>QLv x.1
def GM(t:bE):aJ:=cd (.a [(aO t.1),(aO t.2)])
def GN:aP:=Qg 144 [(.a QM),(.c TI)] λx=>(none,GM (Qk x.1 x.2.1))
def QJy:aN:=⟨[YF],false⟩
def QSy:af :=
 (ag [(.ae [aD 2 (.box 56 0 4),aD 4 (.new 175 (bC Qs))]),(ag [(.draw [ab 5 1,an 6 2 1,ar 7 6 1,bh 8 7,az 9 .sub 8 (aw 1),aL 10 158 [5,(aw 0),9],bL 11 10,ab 12 11,.bj 12 false [an 13 2 1,ar 14 13 1,ab 15 1,bn 16 14 15 Qm,an 17 16 0,ar 18 17 1,an 19 2 1,ar 20 19 1,ab 21 1,bn 22 20 21 Qm,an 23 22 1,ar 24 23 1,bh 25 24,az 26 .sub 25 (aw 1),aL 27 158 [18,(aw 0),26],bL 28 27] 29 28] []),(.cond 29 (ag [(.ae [aD 30 (.build (bC Qs) []),a8 4 30 2]),.ret]) .skip)]),(.draw [an 31 2 1,ar 32 31 1,ab 33 1,bn 34 32 33 Qm,an 35 34 1,ar 36 35 1,an 37 2 1,ar 38 37 1,ab 39 1,bn 40 38 39 Qm,an 41 40 0,ar 42 41 1,bn 43 36 42 Qs,aZ 44 43 2,a8 4 44 2] []),.ret])
def Q3y:List (bw × Md):=[(.l 4 2 true,.b [.d,.d])]
theorem QPQ(p:Ql)(s:Int):aR Tryz.prog 144 [(.a (aV.cells QM p)),(.c TI s)] (GM (Qk p s)):=by
 refine bD QJy QSy Q3y 0 0 45 GN (kc YV kn) (λK =>
 (((!(!(aT s (0:Int) (aI (((p.2.1).length:Int)-1)))))=true->((0<=s/\Int.toNat s<(p.2.1).length)/\(0<=s/\Int.toNat s<(p.2.1).length)))/\(aS ((!(aT s (0:Int) (aI (((p.2.1).length:Int)-1))))||(!(aT ((aq QE p.2.1 (Int.toNat s)).1) (0:Int) (aI ((((aq QE p.2.1 (Int.toNat s)).2.1).length:Int)-1))))) (K (GM ((0:Int),(0:Int)))) (((0<=s/\Int.toNat s<(p.2.1).length)/\((0<=s/\Int.toNat s<(p.2.1).length)/\((0:Int)<=(aq QE p.2.1 (Int.toNat s)).1/\Int.toNat ((aq QE p.2.1 (Int.toNat s)).1)<((aq QE p.2.1 (Int.toNat s)).2.1).length)))/\K (GM (aq f5 ((aq QE p.2.1 (Int.toNat s)).2.1) (Int.toNat ((aq QE p.2.1 (Int.toNat s)).1)))))))) (λhb=>?_)
 have fF:(p.1).length<=9223372036854775807:=hb.1.1.1;have fi:(p.2.1).length<=9223372036854775807:=hb.1.2.1.1;have gn:(p.2.2.1).length<=9223372036854775807:=hb.1.2.2.1.1;have gp:(p.2.2.2).length<=9223372036854775807:=hb.1.2.2.2.1.1;have e1:aI ((p.2.1.length:Int)-1)=p.2.1.length-1:=Qy (by omega) (by omega);rw[e1];by_cases h0:aT s 0 (p.2.1.length-1)=true
 ·have h1:=QW.1 h0;have aY:s.toNat<p.2.1.length:=by omega
  have du:=Js aY QE;have js:(aq QE p.2.1 s.toNat).2.1.length<=9223372036854775807:=(hb.1.2.1.2 _ du).2.1.1;rw[Qy (x:=((aq QE p.2.1 s.toNat).2.1.length:Int)-1) (by omega) (by omega)];refine⟨λ_=>⟨⟨h1.1,aY⟩,h1.1,aY⟩,λh=>au ?_,λh=>⟨⟨⟨h1.1,aY⟩,⟨h1.1,aY⟩,?_⟩,au ?_⟩⟩
  ·simp[h0]at h;simp[Qk,h0,rl,h]
  ·simp[h0]at h;have:=QW.1 h;omega
  ·simp[h0]at h;simp[Qk,h0,rl,h]
 ·refine⟨λh=>by simp[h0]at h,λh=>au ?_,λh=>by simp[h0]at h⟩;simp[Qk,h0]
theorem QDh:Qf Tryz.prog GN:=Qh λx _=>QPQ x.1 x.2.1
def BG(t:bE):aJ:=cd (.a [(aO t.1),(aO t.2)])
def GO:aP:=Qg 148 [(.a QM),(.c TI)] λx=>(none,BG (Qk x.1 x.2.1))
def QTO:aN:=⟨[],false⟩
def QM5:af :=
 (ag [(.ae [aD 2 (.box 56 0 4),aD 4 (.new 175 (bC Qs))]),(ag [(.ae [ab 6 1,az 7 .lss 6 (aw 0),ab 8 7,.bj 8 false [ab 9 1,an 10 2 1,ar 11 10 1,bh 12 11,az 13 .geq 9 12] 14 13]),(.cond 14 (ag [(.ae [aD 15 (.build (bC Qs) []),a8 4 15 2]),.ret]) .skip)]),(.ae [an 16 2 1,ar 17 16 1,ab 18 1,bn 19 17 18 Qm,aZ 20 19 14,aD 5 (.new 39 (bC Qm)),a8 5 20 14]),(ag [(.ae [an 21 5 0,ar 22 21 1,az 23 .lss 22 (aw 0),ab 24 23,.bj 24 false [an 25 5 0,ar 26 25 1,an 27 5 1,ar 28 27 1,bh 29 28,az 30 .geq 26 29] 31 30]),(.cond 31 (ag [(.ae [aD 32 (.build (bC Qs) []),a8 4 32 2]),.ret]) .skip)]),(.ae [an 33 5 1,ar 34 33 1,an 35 5 0,ar 36 35 1,bn 37 34 36 Qs,aZ 38 37 2,a8 4 38 2]),.ret])
def QTN:List (bw × Md):=[(.l 4 2 true,.b [.d,.d])]
theorem QWi(p:Ql)(s:Int):aR Tryz.prog 148 [(.a (aV.cells QM p)),(.c TI s)] (BG (Qk p s)):=by
 refine bD QTO QM5 QTN 0 0 39 GO kn (λK =>
 (aS ((decide (s<0))||(decide (s>=((p.2.1).length:Int)))) (K (BG ((0:Int),(0:Int)))) ((0<=s/\Int.toNat s<(p.2.1).length)/\(aS ((decide (((aq QE p.2.1 (Int.toNat s)).1)<0))||(decide (((aq QE p.2.1 (Int.toNat s)).1)>=(((aq QE p.2.1 (Int.toNat s)).2.1).length:Int)))) (K (BG ((0:Int),(0:Int)))) (((0:Int)<=(aq QE p.2.1 (Int.toNat s)).1/\Int.toNat ((aq QE p.2.1 (Int.toNat s)).1)<((aq QE p.2.1 (Int.toNat s)).2.1).length)/\K (BG (aq f5 ((aq QE p.2.1 (Int.toNat s)).2.1) (Int.toNat ((aq QE p.2.1 (Int.toNat s)).1))))))))) (λhb=>?_)
 refine⟨λh=>au ?_,λh=>?_⟩
 ·have h0:aT s 0 (p.2.1.length-1)=false:=by simp at h;simp[aT];omega
  simp[Qk,h0]
 have h0:aT s 0 (p.2.1.length-1)=true:=by simp at h;simp[aT];omega
 have h1:=QW.1 h0;have aY:s.toNat<p.2.1.length:=by omega
 refine⟨⟨h1.1,aY⟩,λh=>au ?_,λh=>?_⟩
 ·have h2:aT (aq QE p.2.1 s.toNat).1 0 ((aq QE p.2.1 s.toNat).2.1.length-1)=false:=by simp at h;simp[aT];omega
  simp[Qk,h0,rl,h2]
 ·have h2:aT (aq QE p.2.1 s.toNat).1 0 ((aq QE p.2.1 s.toNat).2.1.length-1)=true:=by simp at h;simp[aT];omega
  have h3:=QW.1 h2;refine⟨⟨h3.1,by omega⟩,au ?_⟩;simp[Qk,h0,rl,h2]
theorem QAq:Qf Tryz.prog GO:=Qh λx _=>QWi x.1 x.2.1
def BH(t:Bool):aJ:=cd (bH t)
def Sm:aP:=Qg 177 [(.a QM)] λx=>(none,BH (ov x.1))
def Sn:aN:=⟨[],false⟩
def QIz:af :=
 (ag [(ag [(.ae [ab 4 3,an 5 1 1,ar 6 5 1,bh 7 6,az 8 .lss 4 7]),(.cond 8 .skip (.exit 0))]),(.block 1 (ag [(.draw [an 11 1 1,ar 12 11 1,ab 13 3,bn 14 12 13 Qm,an 15 14 0,ar 16 15 1,an 17 1 1,ar 18 17 1,ab 19 3,bn 20 18 19 Qm,an 21 20 1,ar 22 21 1,bh 23 22,az 24 .sub 23 (aw 1),az 25 .lss 16 24] []),(.cond 25 (ag [(.ae [ab 2 (bm false)]),.ret]) .skip)])),(.ae [ab 9 3,az 10 .add 9 (aw 1),ab 3 10])])
def QFT:List (Nat × Md):=[(1,.b (da 4)),(3,.one .d)]
def QEz:af :=
 (ag [(.ae [ab 2 (bm true)]),.ret])
def QPM:af :=
 (ag [(.ae [aD 1 (.box 56 0 4),ab 2 (bm false)]),(ag [(.ae [ab 3 (aw 0)]),(.block 0 (.loop QFT QIz))]),QEz])
def Qy7:List (bw × Md):=[(.t 2,.one .d)]
def QAZ:Qb:=TQ 0 0 Qy7 K
def QSX:Qb:=ba (aU Sn 0 QEz (QAZ K)) (QAZ K)
def Q19:Qb:=bf 0 (QSX K)
def GP(p:Ql)(s:Int):Prop:=Loop Sn 0 QFT QIz (Q19 K) ⟨[(1,(.p 0 0 0)),(3,(aO s))],[(0,(.box (aV.cells QM p)))],1⟩
theorem Qv8(p:Ql)(s:Int) (h :
 (aS (decide (s<((p.2.1).length:Int))) (((0<=s/\Int.toNat s<(p.2.1).length)/\(0<=s/\Int.toNat s<(p.2.1).length))/\(aS (decide (((aq QE p.2.1 (Int.toNat s)).1)<(aI ((((aq QE p.2.1 (Int.toNat s)).2.1).length:Int)-1)))) (K (BH false)) (GP K p (aI (s+1))))) (K (BH true)))):GP K p s :=
 Loop.of h
theorem QZp(p:Ql):aR Tryz.prog 177 [(.a (aV.cells QM p))] (BH (ov p)):=by
 refine bD Sn QPM Qy7 0 0 26 Sm kn (λK =>
 (GP K p 0)) (λhb=>?_)
 have fF:(p.1).length<=9223372036854775807:=hb.1.1.1;have fi:(p.2.1).length<=9223372036854775807:=hb.1.2.1.1;have gn:(p.2.2.1).length<=9223372036854775807:=hb.1.2.2.1.1;have gp:(p.2.2.2).length<=9223372036854775807:=hb.1.2.2.2.1.1;refine Zd p.2.1 (λr k=>r.all Ju=p.2.1.all Ju->GP (λr'=>r'=BH (ov p)) p k) ?_ ?_ rfl
 ·intro he;refine Qv8 _ _ _ ⟨λh=>by simp at h,λ_=>au ?_⟩;exact he
 ·intro k x r hk aY hg ih he;have du:x∈p.2.1:=List.mem_of_mem_drop (i:=k) (by rw[hk];exact List.mem_cons_self);have js:x.2.1.length<=9223372036854775807:=(hb.1.2.1.2 x du).2.1.1;refine Qv8 _ _ _ ⟨λ_=>?_,λh=>by simp at h;omega⟩;rw[Int.toNat_natCast,hg,Qy (x:=(k:Int)+1) (by omega) (by omega),Qy (x:=(x.2.1.length:Int)-1) (by omega) (by omega)];rw[List.all_cons]at he;refine⟨⟨⟨by omega,aY⟩,by omega,aY⟩,λh=>au ?_,λh=>ih ?_⟩
  ·have:Ju x=false:=by simp at h;simp[Ju];omega
   rw[this]at he;exact he
  ·have:Ju x=true:=by simp at h;simp[Ju];omega
   rw[this,Bool.true_and]at he;exact he
theorem QWU:Qf Tryz.prog Sm:=Qh λx _=>QZp x.1
def J5(t:Bool):aJ:=cd (bH t)
def So:aP:=Qg 89 [(.a QM),(.c TI)] λx=>(none,J5 (ZZ x.1 x.2.1))
def Sp:aN:=⟨[Sc,YF,GN,Sm],false⟩
def QCs:af :=
 (.cond 100 (ag [(.ae [ab 4 (bm true)]),.ret]) (ag [(.ae [az 105 .eql 20 (aw 8),ab 104 105]),(.cond 104 (ag [(.ae [aZ 106 2 4,aL 107 177 [106],ab 4 107]),.ret]) .skip)]))
def QQt:List (Nat × Md):=[(2,.b (da 4)),(20,.one .d),(100,.one .d)]
def QMT:af:=.wk QQt QCs
def QtG:af :=
 (ag [(.ae [ab 4 (bm false)]),.ret])
def Q0L:af :=
 (ag [(.ae [aD 2 (.box 56 0 4),ab 4 (bm false)]),(ag [(.ae [aZ 5 2 4,aL 6 176 [5],bL 7 6,ab 8 7,.bj 8 false [ab 9 1,an 10 2 1,ar 11 10 1,bh 12 11,az 13 .sub 12 (aw 1),aL 14 158 [9,(aw 0),13],bL 15 14] 16 15]),(.cond 16 (ag [(.ae [ab 4 (bm false)]),.ret]) .skip)]),(ag [(.ae [aZ 17 2 4,ab 18 1,aL 19 144 [17,18],aD 20 (.lY 19 0 1 false)]),(.block 0 (ag [(.ae [az 22 .eql 20 (aw 1),ab 21 22]),(.cond 21 (ag [(.ae [ab 23 1,az 24 .gtr 23 (aw 0),ab 25 24,.bj 25 true [an 26 2 2,ar 27 26 1,ab 28 1,az 29 .sub 28 (aw 1),bn 30 27 29 Qj,an 31 30 1,ar 32 31 1,bh 33 32,az 34 .gtr 33 (aw 0)] 35 34,ab 4 35]),.ret]) (ag [(.ae [az 37 .eql 20 (aw 3),ab 36 37]),(.cond 36 (ag [(.draw [ab 38 1,an 39 2 1,ar 40 39 1,bh 41 40,az 42 .sub 41 (aw 1),az 43 .lss 38 42,ab 44 43,.bj 44 true [an 45 2 2,ar 46 45 1,ab 47 1,bn 48 46 47 Qj,an 49 48 1,ar 50 49 1,bh 51 50,an 52 2 2,ar 53 52 1,ab 54 1,bn 55 53 54 Qj,an 56 55 0,ar 57 56 1,az 58 .lss 51 57] 59 58,ab 4 59] []),.ret]) (ag [(.ae [az 61 .eql 20 (aw 4),ab 60 61]),(.cond 60 (ag [(.ae [ab 62 1,an 63 2 1,ar 64 63 1,bh 65 64,az 66 .sub 65 (aw 1),az 67 .lss 62 66,ab 68 67,.bj 68 true [an 69 2 3,ar 70 69 1,ab 71 1,bn 72 70 71 Qj,an 73 72 1,ar 74 73 1,bh 75 74,az 76 .gtr 75 (aw 0)] 77 76,ab 4 77]),.ret]) (ag [(.ae [az 79 .eql 20 (aw 7),ab 78 79]),(.cond 78 (ag [(.draw [ab 80 1,az 81 .gtr 80 (aw 0),ab 82 81,.bj 82 true [an 83 2 3,ar 84 83 1,ab 85 1,az 86 .sub 85 (aw 1),bn 87 84 86 Qj,an 88 87 1,ar 89 88 1,bh 90 89,an 91 2 3,ar 92 91 1,ab 93 1,az 94 .sub 93 (aw 1),bn 95 92 94 Qj,an 96 95 0,ar 97 96 1,az 98 .lss 90 97] 99 98,ab 4 99] []),.ret]) (ag [(ag [(.ae [az 101 .eql 20 (aw 2),ab 100 101]),(.cond 100 .skip (ag [(.ae [az 102 .eql 20 (aw 5),ab 100 102]),(.cond 100 .skip (.ae [az 103 .eql 20 (aw 6),ab 100 103]))]))]),QMT]))]))]))]))]))]),QtG])
def Quj:List (bw × Md):=[(.t 4,.one .d)]
def QxL:Qb:=TQ 0 0 Quj K
def QRV:Qb:=ba (aU Sp 0 QtG (QxL K)) (QxL K)
def Q2i:Qb:=bf 0 (QRV K)
@[irreducible] def BI(p:Ql)(s:Int)(x:Bool):Prop:=aU Sp 0 QCs (Q2i K) ⟨[(2,(.p 0 0 0)),(20,(aO ((Qk p s).1))),(100,(bH x))],[(0,(.box (aV.cells QM p)))],1⟩
theorem QWJ(p:Ql)(s:Int)(x:Bool) (h :
 (aS x (K (J5 true)) (aS (((Qk p s).1)==8) (K (J5 (ov p))) (K (J5 false))))):cz (BI K p s x) :=
 cz.of h
theorem QNB(p:Ql)(s:Int):aR Tryz.prog 89 [(.a (aV.cells QM p)),(.c TI s)] (J5 (ZZ p s)):=by
 refine bD Sp Q0L Quj 0 0 108 So (kc QPx (kc YV (kc QDh (kc QWU kn)))) (λK =>
 (aS ((!(Zz p))||(!(aT s (0:Int) (aI (((p.2.1).length:Int)-1))))) (K (J5 false)) (aS (((Qk p s).1)==1) (((decide (s>0))=true->(0<=aI (s-1)/\Int.toNat (aI (s-1))<(p.2.2.1).length))/\K (J5 ((decide (s>0))&&(decide ((((aq QI p.2.2.1 (Int.toNat (aI (s-1)))).2).length:Int)>0))))) (aS (((Qk p s).1)==3) (((decide (s<(aI (((p.2.1).length:Int)-1))))=true->((0<=s/\Int.toNat s<(p.2.2.1).length)/\(0<=s/\Int.toNat s<(p.2.2.1).length)))/\K (J5 ((decide (s<(aI (((p.2.1).length:Int)-1))))&&(decide ((((aq QI p.2.2.1 (Int.toNat s)).2).length:Int)<((aq QI p.2.2.1 (Int.toNat s)).1)))))) (aS (((Qk p s).1)==4) (((decide (s<(aI (((p.2.1).length:Int)-1))))=true->(0<=s/\Int.toNat s<(p.2.2.2).length))/\K (J5 ((decide (s<(aI (((p.2.1).length:Int)-1))))&&(decide ((((aq QI p.2.2.2 (Int.toNat s)).2).length:Int)>0))))) (aS (((Qk p s).1)==7) (((decide (s>0))=true->((0<=aI (s-1)/\Int.toNat (aI (s-1))<(p.2.2.2).length)/\(0<=aI (s-1)/\Int.toNat (aI (s-1))<(p.2.2.2).length)))/\K (J5 ((decide (s>0))&&(decide ((((aq QI p.2.2.2 (Int.toNat (aI (s-1)))).2).length:Int)<((aq QI p.2.2.2 (Int.toNat (aI (s-1)))).1)))))) (aS (((Qk p s).1)==2) (BI K p s (((Qk p s).1)==2)) (aS (((Qk p s).1)==5) (BI K p s (((Qk p s).1)==5)) (BI K p s (((Qk p s).1)==6)))))))))) (λhb=>?_)
 have fF:(p.1).length<=9223372036854775807:=hb.1.1.1;have fi:(p.2.1).length<=9223372036854775807:=hb.1.2.1.1;have gn:(p.2.2.1).length<=9223372036854775807:=hb.1.2.2.1.1;have gp:(p.2.2.2).length<=9223372036854775807:=hb.1.2.2.2.1.1;by_cases h0:(Zz p&&aT s 0 (p.2.1.length-1))=true;rotate_left
 ·have e1:aI ((p.2.1.length:Int)-1)=p.2.1.length-1:=Qy (by omega) (by omega);rw[e1];refine⟨λh=>au (by grind[ZZ]),λh=>by grind⟩
 have BJ:=h0;simp only[Bool.and_eq_true,QW]at BJ;have ig:=BJ.1;simp only[Zz,Bool.and_eq_true,QW,beq_iff_eq]at ig;have e1:aI ((p.2.1.length:Int)-1)=p.2.1.length-1:=Qy (by omega) (by omega);have e2:aI (s-1)=s-1:=Qy (by omega) (by omega);rw[e1,e2];have e4:Int.toNat (s-1)=s.toNat-1:=by omega
 rw[e4];have hM:(ZZ p s)=JQ p s (Qk p s).1:=by unfold ZZ;rw[h0,Bool.true_and]
 have k2:∀ b:Bool,(b=true->JQ p s (Qk p s).1=true)->(b=false->JQ p s (Qk p s).1=if(Qk p s).1=8 then ov p else false)->BI (λr'=>r'=J5 (ZZ p s)) p s b:=by
  intro b i4 fY;refine(QWJ (λr'=>r'=J5 (ZZ p s)) p s _ ⟨λh=>au ?_,λh=>⟨λh8=>au ?_,λh8=>au ?_⟩⟩).h
  ·rw[hM,i4 h]
  ·rw[hM,fY h,if_pos (by simpa using h8)]
  ·rw[hM,fY h,if_neg (by simpa using h8)]
 generalize(Qk p s).1=kd at *;refine⟨λh=>by grind,λ_=>⟨λh1=>⟨λh=>by simp at h;omega,au ?_⟩,λh1=>⟨λh2=>⟨λh=>by simp at h;omega,au ?_⟩,λh2=>⟨λh3=>⟨λh=>by simp at h;omega,au ?_⟩,λh3=>⟨λh4=>⟨λh=>by simp at h;omega,au ?_⟩,λh4=>⟨λh5=>k2 _ ?_ ?_,λh5=>⟨λh6=>k2 _ ?_ ?_,λh6=>k2 _ ?_ ?_⟩⟩⟩⟩⟩⟩⟩
 all_goals (try rw[hM]);simp only[JQ,ou]at *;grind
theorem QWL:Qf Tryz.prog So:=Qh λx _=>QNB x.1 x.2.1
def Jc(t:Bool):aJ:=cd (bH t)
def Sq:aP:=Qg 92 [(.a QM),(.c TI)] λx=>(none,Jc (ZZ x.1 x.2.1))
def BK:aN:=⟨[Sg,GO,R1],false⟩
def QAG:af :=
 (ag [(.ae [az 94 .lss 93 92]),(.cond 94 .skip (.exit 1)),(.block 2 (ag [(.ae [bn 95 91 93 Qm,aZ 96 95 14,aD 7 (.new 39 (bC Qm)),a8 7 96 14]),(.ae [an 97 7 0,ar 98 97 1,an 99 7 1,ar 100 99 1,bh 101 100,az 102 .sub 101 (aw 1),az 103 .lss 98 102]),(.cond 103 (ag [(.ae [ab 4 (bm false)]),.ret]) .skip)])),(.ae [az 104 .add 93 (aw 1),ab 93 104])])
def Qwu:List (Nat × Md):=ij [91,92,93]
def QG9:af :=
 (ag [(.ae [ab 4 (bm true)]),.ret])
def Qzg:af :=
 (.cond 84 (ag [(.ae [ab 4 (bm true)]),.ret]) (ag [(.ae [az 89 .eql 31 (aw 8),ab 88 89]),(.cond 88 (ag [(ag [(.ae [an 90 2 1,ar 91 90 1,bh 92 91,ab 93 (aw 0)]),(.block 1 (.loop Qwu QAG))]),QG9]) .skip)]))
def QQa:List (Nat × Md):=[(2,.b (da 4)),(31,.one .d),(84,.one .d)]
def Q4i:af:=.wk QQa Qzg
def QI3:af :=
 (ag [(.ae [ab 4 (bm false)]),.ret])
def QPN:af :=
 (ag [(.ae [aD 2 (.box 56 0 4),ab 4 (bm false)]),(ag [(.ae [aZ 8 2 4,aL 9 179 [8],bL 10 9,ab 11 10,.bj 11 false [ab 12 1,az 13 .lss 12 (aw 0)] 14 13,ab 15 14,.bj 15 false [ab 16 1,an 17 2 1,ar 18 17 1,bh 19 18,az 20 .geq 16 19] 21 20]),(.cond 21 (ag [(.ae [ab 4 (bm false)]),.ret]) .skip)]),(.ae [ab 22 1,an 23 2 1,ar 24 23 1,bh 25 24,az 26 .sub 25 (aw 1),az 27 .lss 22 26,ab 5 27]),(ag [(.ae [aZ 28 2 4,ab 29 1,aL 30 148 [28,29],aD 31 (.lY 30 0 1 false)]),(.block 0 (ag [(.ae [az 33 .eql 31 (aw 1),ab 32 33]),(.cond 32 (ag [(.ae [ab 34 1,az 35 .gtr 34 (aw 0),ab 36 35,.bj 36 true [an 37 2 2,ar 38 37 1,ab 39 1,az 40 .sub 39 (aw 1),bn 41 38 40 Qj,an 42 41 1,ar 43 42 1,bh 44 43,az 45 .gtr 44 (aw 0)] 46 45,ab 4 46]),.ret]) (ag [(.ae [az 48 .eql 31 (aw 3),ab 47 48]),(.cond 47 (ag [(.ae [ab 49 5,ab 50 49,.bj 50 true [an 51 2 2,ar 52 51 1,ab 53 1,bn 54 52 53 Qj,aZ 55 54 2,aL 56 180 [55]] 57 56,ab 4 57]),.ret]) (ag [(.ae [az 59 .eql 31 (aw 4),ab 58 59]),(.cond 58 (ag [(.ae [ab 60 5,ab 61 60,.bj 61 true [an 62 2 3,ar 63 62 1,ab 64 1,bn 65 63 64 Qj,an 66 65 1,ar 67 66 1,bh 68 67,az 69 .gtr 68 (aw 0)] 70 69,ab 4 70]),.ret]) (ag [(.ae [az 72 .eql 31 (aw 7),ab 71 72]),(.cond 71 (ag [(.ae [ab 73 1,az 74 .gtr 73 (aw 0),ab 75 74,.bj 75 true [an 76 2 3,ar 77 76 1,ab 78 1,az 79 .sub 78 (aw 1),bn 80 77 79 Qj,aZ 81 80 2,aL 82 180 [81]] 83 82,ab 4 83]),.ret]) (ag [(ag [(.ae [az 85 .eql 31 (aw 2),ab 84 85]),(.cond 84 .skip (ag [(.ae [az 86 .eql 31 (aw 5),ab 84 86]),(.cond 84 .skip (.ae [az 87 .eql 31 (aw 6),ab 84 87]))]))]),Q4i]))]))]))]))]))]),QI3])
def QHy:List (bw × Md):=[(.t 4,.one .d)]
def QCz:Qb:=TQ 0 0 QHy K
def QS9:Qb:=ba (aU BK 0 QI3 (QCz K)) (QCz K)
def Sr:Qb:=bf 0 (QS9 K)
def Q1c:Qb:=ba (aU BK 0 QG9 (Sr K)) (Sr K)
def Q23:Qb:=bf 1 (Q1c K)
def BL(p:Ql)(x1:Int):Prop:=Loop BK 0 Qwu QAG (Q23 K) ⟨[(91,(bu Qm p.2.1)),(92,(aO ((p.2.1).length:Int))),(93,(aO x1))],[],0⟩
@[irreducible] def BM(p:Ql)(s:Int)(x:Bool):Prop:=aU BK 0 Qzg (Sr K) ⟨[(2,(.p 0 0 0)),(31,(aO ((Qk p s).1))),(84,(bH x))],[(0,(.box (aV.cells QM p)))],1⟩
theorem QHW(p:Ql)(x1:Int) (h :
 (aS (decide (x1<((p.2.1).length:Int))) ((0<=x1/\Int.toNat x1<(p.2.1).length)/\(aS (decide (((aq QE p.2.1 (Int.toNat x1)).1)<(aI ((((aq QE p.2.1 (Int.toNat x1)).2.1).length:Int)-1)))) (K (Jc false)) (BL K p (aI (x1+1))))) (K (Jc true)))):BL K p x1 :=
 Loop.of h
theorem QUN(p:Ql)(s:Int)(x:Bool) (h :
 (aS x (K (Jc true)) (aS (((Qk p s).1)==8) (BL K p 0) (K (Jc false))))):cz (BM K p s x) :=
 cz.of h
theorem QKk(p:Ql)(s:Int):aR Tryz.prog 92 [(.a (aV.cells QM p)),(.c TI s)] (Jc (ZZ p s)):=by
 refine bD BK QPN QHy 0 0 105 Sq (kc QPG (kc QAq (kc QKW kn))) (λK =>
 (aS (((!(Zz p))||(decide (s<0)))||(decide (s>=((p.2.1).length:Int)))) (K (Jc false)) (aS (((Qk p s).1)==1) (((decide (s>0))=true->(0<=aI (s-1)/\Int.toNat (aI (s-1))<(p.2.2.1).length))/\K (Jc ((decide (s>0))&&(decide ((((aq QI p.2.2.1 (Int.toNat (aI (s-1)))).2).length:Int)>0))))) (aS (((Qk p s).1)==3) (((decide (s<(aI (((p.2.1).length:Int)-1))))=true->(0<=s/\Int.toNat s<(p.2.2.1).length))/\K (Jc ((decide (s<(aI (((p.2.1).length:Int)-1))))&&(ou (aq QI p.2.2.1 (Int.toNat s)))))) (aS (((Qk p s).1)==4) (((decide (s<(aI (((p.2.1).length:Int)-1))))=true->(0<=s/\Int.toNat s<(p.2.2.2).length))/\K (Jc ((decide (s<(aI (((p.2.1).length:Int)-1))))&&(decide ((((aq QI p.2.2.2 (Int.toNat s)).2).length:Int)>0))))) (aS (((Qk p s).1)==7) (((decide (s>0))=true->(0<=aI (s-1)/\Int.toNat (aI (s-1))<(p.2.2.2).length))/\K (Jc ((decide (s>0))&&(ou (aq QI p.2.2.2 (Int.toNat (aI (s-1)))))))) (aS (((Qk p s).1)==2) (BM K p s (((Qk p s).1)==2)) (aS (((Qk p s).1)==5) (BM K p s (((Qk p s).1)==5)) (BM K p s (((Qk p s).1)==6)))))))))) (λhb=>?_)
 have fF:(p.1).length<=9223372036854775807:=hb.1.1.1;have fi:(p.2.1).length<=9223372036854775807:=hb.1.2.1.1;have gn:(p.2.2.1).length<=9223372036854775807:=hb.1.2.2.1.1;have gp:(p.2.2.2).length<=9223372036854775807:=hb.1.2.2.2.1.1;by_cases h0:(Zz p&&aT s 0 (p.2.1.length-1))=true;rotate_left
 ·refine⟨λh=>au (by grind[ZZ]),λh=>by grind[aT]⟩
 have BJ:=h0;simp only[Bool.and_eq_true,QW]at BJ;have ig:=BJ.1;simp only[Zz,Bool.and_eq_true,QW,beq_iff_eq]at ig;have e1:aI ((p.2.1.length:Int)-1)=p.2.1.length-1:=Qy (by omega) (by omega);have e2:aI (s-1)=s-1:=Qy (by omega) (by omega);rw[e1,e2];have e4:Int.toNat (s-1)=s.toNat-1:=by omega
 rw[e4];have hM:(ZZ p s)=JQ p s (Qk p s).1:=by unfold ZZ;rw[h0,Bool.true_and]
 have eN:JQ p s (Qk p s).1=ov p->BL (λr'=>r'=Jc (ZZ p s)) p ((0:Nat):Int):=by
  intro hm;refine Zd p.2.1 (λr k=>r.all Ju=p.2.1.all Ju->BL (λr'=>r'=Jc (ZZ p s)) p k) ?_ ?_ rfl
  ·intro he;refine QHW (λr'=>r'=Jc (ZZ p s)) p _ ⟨λh=>by simp at h,λ_=>au ?_⟩;rw[hM,hm];exact he
  ·intro k x r hk aY hg ih he;have du:x∈p.2.1:=List.mem_of_mem_drop (i:=k) (by rw[hk];exact List.mem_cons_self);have js:x.2.1.length<=9223372036854775807:=(hb.1.2.1.2 x du).2.1.1;refine QHW (λr'=>r'=Jc (ZZ p s)) p _ ⟨λ_=>?_,λh=>by simp at h;omega⟩;rw[Int.toNat_natCast,hg,Qy (x:=(k:Int)+1) (by omega) (by omega),Qy (x:=(x.2.1.length:Int)-1) (by omega) (by omega)];rw[List.all_cons]at he;refine⟨⟨by omega,aY⟩,λh=>au ?_,λh=>ih ?_⟩
   ·have:Ju x=false:=by simp at h;simp[Ju];omega
    rw[this]at he;rw[hM,hm];exact he
   ·have:Ju x=true:=by simp at h;simp[Ju];omega
    rw[this,Bool.true_and]at he;exact he
 have k2:∀ b:Bool,(b=true->JQ p s (Qk p s).1=true)->(b=false->JQ p s (Qk p s).1=if(Qk p s).1=8 then ov p else false)->BM (λr'=>r'=Jc (ZZ p s)) p s b:=by
  intro b i4 fY;refine(QUN (λr'=>r'=Jc (ZZ p s)) p s _ ⟨λh=>au ?_,λh=>⟨λh8=>eN ?_,λh8=>au ?_⟩⟩).h
  ·rw[hM,i4 h]
  ·rw[fY h,if_pos (by simpa using h8)]
  ·rw[hM,fY h,if_neg (by simpa using h8)]
 clear eN;generalize(Qk p s).1=kd at *;refine⟨λh=>by grind[aT],λ_=>⟨λh1=>⟨λh=>by simp at h;omega,au ?_⟩,λh1=>⟨λh2=>⟨λh=>by simp at h;omega,au ?_⟩,λh2=>⟨λh3=>⟨λh=>by simp at h;omega,au ?_⟩,λh3=>⟨λh4=>⟨λh=>by simp at h;omega,au ?_⟩,λh4=>⟨λh5=>k2 _ ?_ ?_,λh5=>⟨λh6=>k2 _ ?_ ?_,λh6=>k2 _ ?_ ?_⟩⟩⟩⟩⟩⟩⟩
 all_goals (try rw[hM]);simp only[JQ,ou]at *;grind
theorem QKn:Qf Tryz.prog Sq:=Qh λx _=>QKk x.1 x.2.1
end
end Go.Proofs.YtdplaepmjogjjaaGreat.Am

