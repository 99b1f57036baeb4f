/- -/
import Derived.Test.YtjbdljkhbglnhaaGreatZCGB
import Derived.Test.YtjbdljkhbglnhaaGreatZCGC
set_option linter.all false
namespace Go.Proofs.YtjbdljkhbglnhaaGreat.Am
open Go Sz
def QkP (ops:Q9) (plan:List TIns) (_ _:Bool):Prop:=sz ops≤2147483648∧plan.length≤2147483648
def Qkz (s:Qc) (_:Int) (_ _:List Int):Prop:=sz s≤2147483648
def Qil (s:Qc) (_:Int):Prop:=sz s≤2147483648
def Qhp (s:Qc) (_:Int) (_:List Int):Prop:=sz s≤2147483648
def QcX (p:Qk) (_:Int):Prop:=sz p≤1073741824
def QiC (p:Qk) (_:List Int):Prop:=sz p≤536870912
def Qjj (p:Qk) (_:Int):Prop:=sz p≤536870912
def QjH (p:Qk):Prop:=sz p≤2147483648∧Qjv p
def Jn (l:List Int):List Int:=l.take 2000
def JH (c:Qo) (b:List Qi):QG × Int:=(if Zt c b=0 then Yu (Q6 c) b else QfW,Zt c b)
theorem Yw (s:Qc):sz s=sz (QH s)+sz (sOps s)+sz (Qm s)+sz (QL s)+sz (sX s)+sz (sY s)+sz (sG s)+sz (sD s)+sz (QD s):=by
 simp only [YC,Yi,QaL];((try simp only [sPc,QH,sOps,Qx,QE,Qm,QL,sX,sY,sG,sD,QD,QC,sSat,QM,QB,Qz,QA] at *);omega)
theorem Qed (p:Qk):sz p=sz (QM p)+sz (QB p)+sz (Qz p)+sz (QA p):=by
 simp only [YC];((try simp only [sPc,QH,sOps,Qx,QE,Qm,QL,sX,sY,sG,sD,QD,QC,sSat,QM,QB,Qz,QA] at *);omega)
theorem QSK (m:Q9):(Zq m).2=(0,false):=by unfold Zq;split <;> rfl
theorem Qd2 {α:Type} [Sz α] (d:α) (v:α):∀ (l:List α) (i:Nat),sz (l.set i v)+sz (gtd d l i)≤sz l+sz v+sz d
 | [],i=>by simp [gtd]
 | x::l,0=>by simp only [List.set_cons_zero,Jv,Qc7];omega
 | x::l,i+1=>by
  have:=Qd2 d v l i
  simp only [List.set_cons_succ,Jv,QWA];omega
theorem Qfb {α:Type} [Sz α] (d:α) (l:List α) (i:Nat):sz (gtd d l i)≤sz l+sz d:=by
 by_cases h:i<l.length
 ·have:=Qk0 (JP h d);omega
 ·have:gtd d l i=d:=by simp [gtd,List.getD_eq_getElem?_getD,List.getElem?_eq_none (Nat.le_of_not_lt h)]
  rw [this];omega
theorem vec6 {v:List Int} (h:QU v=true):v.length≤6:=by
 simp only [QU,Bool.and_eq_true,QR] at h;omega
theorem Qbz {v:List Int} {n:Int} (h:Qr v n=true):v.length≤6:=by
 simp only [Qr,Bool.and_eq_true] at h;exact vec6 h.1
theorem QnG (f:Int→Int→Int × Bool):∀ (a b:List Int),(vz f a b).1.length≤a.length
 | [],b=>by simp [vz]
 | a::aa,[]=>by simp [vz]
 | a::aa,b::bb=>by simp only [vz,List.length_cons];have:=QnG f aa bb;omega
theorem QAQ (f:Int→Int × Bool):∀ (a:List Int),(v1 f a).1.length≤a.length
 | []=>by simp [v1]
 | a::aa=>by simp only [v1,List.length_cons];have:=QAQ f aa;omega
theorem QsX {a b:List Int} (h:ZJ a b=true):a.length≤6:=by
 simp only [ZJ,Bool.and_eq_true] at h;exact vec6 h.1
theorem Qqz (a b:List Int):(Zk a b).1.length≤6:=by
 unfold Zk
 split
 ·rename_i h;have:=QnG Q4 a b;have:=QsX h;omega
 ·simp
theorem Qu3 (c:Int) (a:List Int):(ZC c a).1.length≤6:=by
 unfold ZC
 split
 ·rename_i h
  simp only [Bool.and_eq_true] at h
  have:=QAQ (Zo c) a;have:=vec6 h.2;omega
 ·simp
theorem QRl (a:List Int):(Yd a).length≤6:=by
 unfold Yd
 split
 ·rename_i h;simp;exact vec6 h
 ·simp
theorem QHK (x d:List Int):(Yg x d).length≤6:=by
 unfold Yg
 split
 ·rename_i h;have:=QsX h;simp;omega
 ·simp
theorem QXN (m:TMat) (x:List Int):(Zm m x).1.length≤6:=by
 unfold Zm
 split
 ·rename_i h
  simp only [Bool.and_eq_true,Zy,QR] at h
  simp;omega
 ·simp
theorem QMj (m:TMat) (x:List Int):(Zv m x).1.length≤6:=by
 unfold Zv
 split
 ·rename_i h
  simp only [Bool.and_eq_true,Zy,QR] at h
  simp;omega
 ·simp
theorem fwd6 (o:TOp') (x:List Int):(Yy o x).1.length≤6:=by
 unfold Yy
 split
 ·split
  ·exact QXN _ _
  ·split
   ·exact Qqz _ _
   ·split
    ·exact Qu3 _ _
    ·split
     ·exact Qqz _ _
     ·exact QRl _
 ·simp
theorem bwd6 (o:TOp') (x d:List Int):(Ye o x d).1.length≤6:=by
 unfold Ye
 split
 ·rename_i h
  simp only [Bool.and_eq_true] at h
  split
  ·exact QMj _ _
  ·split
   ·exact Qbz h.2
   ·split
    ·exact Qu3 _ _
    ·split
     ·exact Qqz _ _
     ·exact QHK _ _
 ·simp
theorem QVg:∀ (ops:List TOp') (rows:List (List Int)) (d:List Int),(Qy ops rows d).2.1.length≤6+d.length
 | [],rows,d=>by simp [Qy]
 | o::os,[],d=>by simp [Qy]
 | o::os,r::rs,d=>by simp only [Qy];have:=bwd6 o r (Qy os rs d).2.1;omega
theorem QjL:∀ (ops:List TOp') (x:List Int),sz (Qu ops x).1≤1+x.length+7*ops.length
 | [],x=>by simp only [Qu,Jv,Y6,List.length_nil];have:sz ([]:List (List Int))=0:=rfl;omega
 | o::r,x=>by
  have h1:=QjL r (Yy o x).1
  have h2:=fwd6 o x
  simp only [Qu,Jv,Y6,List.length_cons];omega
theorem QtN:∀ (a b:List (List Int)),sz (Zd a b).1≤sz a
 | [],b=>by simp [Zd]
 | a::aa,[]=>by simp only [Zd];exact Nat.zero_le _
 | a::aa,b::bb=>by
  have h1:=QtN aa bb
  have h2:=QnG Q4 a b
  simp only [Zd,Jv,Y6];omega
theorem Qdy {s:Qc} (h:Zn s=true):QN (sOps s)=true:=by
 simp only [Zn,Bool.and_eq_true] at h;exact h.1.1.1.1
theorem Qrr {s:Qc} (h:Zn s=true):(sOps s).length≤8:=(YM (Qdy h)).2
theorem Qya {s:Qc} (h:Zn s=true):0≤sPc s∧sPc s≤(QH s).length:=by
 simp only [Zn,Bool.and_eq_true,QR] at h;exact h.1.1.1.2
theorem QBr {s:Qc} (h:Zn s=true):∀ x,x∈Qm s→QaR s x=true:=by
 simp only [Zn,Bool.and_eq_true,List.all_eq_true] at h;exact h.1.2
theorem QRs {s:Qc} (h:Zn s=true):(QD s).length=(sOps s).length∧ZT (sOps s) (QD s)=true:=by
 simp only [Zn,Bool.and_eq_true,JQ,beq_iff_eq] at h;exact h.1.1.2
theorem Qz0 {s:Qc} {x:Ys} (h:Zn s=true) (hx:QaR s x=true):1≤x.2.length∧(x.2.length:Int)=Jr s∧Qr (gtd [] x.2 0) (Q7 (sOps s))=true:=by
 simp only [QaR,Bool.and_eq_true,beq_iff_eq] at hx
 obtain ⟨h1,h2⟩:=hx
 have h3:1≤x.2.length:=by unfold Jr at h1;split at h1 <;> omega
 refine ⟨h3,h1,?_⟩
 unfold YU at h2
 rw [← h1,Int.toNat_natCast,List.take_length] at h2
 cases hr:x.2 with
 | nil=>rw [hr] at h3;simp at h3
 | cons r rs =>
  rw [hr] at h2
  simp only [Jl,Bool.and_eq_true] at h2
  have hm:=Qdy h
  have hl:=YM hm
  have:QbD (sOps s) 0=Q7 (sOps s):=by
   unfold QbD Q7
   rw [if_pos (by omega),if_pos hm]
  rw [Qc7,← this]
  exact h2.1
theorem QvT:∀ (l:List Ys) (m k:Int),0≤k→J3 l m k<k+l.length∧-1≤J3 l m k
 | [],m,k,hk=>by simp only [J3,List.length_nil];omega
 | x::r,m,k,hk=>by
  have:=QvT r m (k+1) (by omega)
  simp only [J3,List.length_cons]
  split <;> omega
theorem Qp8 (l:List Ys) (m:Int):QX l m<l.length∧-1≤QX l m:=by
 have:=QvT l m 0 (Int.le_refl _)
 unfold QX;omega
theorem QF8 (s:Qc) (m:Int) (x t:List Int):sz (YZ s m x t)≤sz s+100:=by
 unfold YZ
 split
 ·rename_i h
  simp only [QaD,Bool.and_eq_true] at h
  have h1:=Qrr h.1.1.1
  have h2:=Qbz h.1.1.2
  have h3:=QjL (sOps s) x
  have h4:=Qfb [] (Qu (sOps s) x).1 (sOps s).length
  have h5:sz (if QE s=true then List.take 1 (Qu (sOps s) x).1 else (Qu (sOps s) x).1)≤sz (Qu (sOps s) x).1:=by
   split
   ·exact Qo1 _ _
   ·exact Nat.le_refl _
  have h6:sz (if Qx s=true then sY s else gtd [] (Qu (sOps s) x).1 (sOps s).length)≤sz (sY s)+sz (gtd [] (Qu (sOps s) x).1 (sOps s).length):=by
   split <;> ((try simp only [sPc,QH,sOps,Qx,QE,Qm,QL,sX,sY,sG,sD,QD,QC,sSat,QM,QB,Qz,QA] at *);omega)
  have h7:(gtd [] (Qu (sOps s) x).1 (sOps s).length).length≤6:=by
   have:gtd [] (Qu (sOps s) x).1 (sOps s).length=ZY (sOps s) x:=rfl
   rw [this]
   have hv:∀ (ops:List TOp') (x:List Int),x.length≤6→(ZY ops x).length≤6:=by
    intro ops
    induction ops with
    | nil=>intro x hx;rw [Qkw];exact hx
    | cons o r ih=>intro x hx;rw [Qf2];exact ih _ (fwd6 o x)
   exact hv _ _ h2
  have h8:=Y6 (gtd [] (Qu (sOps s) x).1 (sOps s).length)
  have e:sz ([]:List Int)=0:=rfl
  rw [Yw,Yw s]
  have e3:sz ([]:List Ys)=0:=rfl
  simp only [Qm,sX,Qga,Jv,QcU,Yi,e,e3]
  have e2:sz ([]:List Ys)=0:=rfl
  ((try simp only [sPc,QH,sOps,Qx,QE,Qm,QL,sX,sY,sG,sD,QD,QC,sSat,QM,QB,Qz,QA] at *);omega)
 ·((try simp only [sPc,QH,sOps,Qx,QE,Qm,QL,sX,sY,sG,sD,QD,QC,sSat,QM,QB,Qz,QA] at *);omega)
theorem QIi (s:Qc) (m:Int):sz (Jx s m)≤sz s+100:=by
 unfold Jx
 simp only
 split
 ·rename_i h
  simp only [Bool.and_eq_true,decide_eq_true_eq] at h
  have h1:=Qrr h.1
  have hf:=Qp8 (Qm s) m
  have hk:(QX (Qm s) m).toNat<(Qm s).length:=by ((try simp only [sPc,QH,sOps,Qx,QE,Qm,QL,sX,sY,sG,sD,QD,QC,sSat,QM,QB,Qz,QA] at *);omega)
  have h2:=Qbz (Qz0 h.1 (QBr h.1 _ (JP hk YO))).2.2
  have h3:=QjL (sOps s) (gtd [] (gtd YO (Qm s) (QX (Qm s) m).toNat).2 0)
  rw [Yw,Yw s]
  ((try simp only [sPc,QH,sOps,Qx,QE,Qm,QL,sX,sY,sG,sD,QD,QC,sSat,QM,QB,Qz,QA] at *);omega)
 ·((try simp only [sPc,QH,sOps,Qx,QE,Qm,QL,sX,sY,sG,sD,QD,QC,sSat,QM,QB,Qz,QA] at *);omega)
theorem QMe (s:Qc) (m:Int) (t:List Int):sz (Yc s m t)≤sz s+100:=by
 unfold Yc
 simp only
 split
 ·rename_i h
  simp only [QaI,Bool.and_eq_true] at h
  have h1:=Qbz h.2
  have h2:=QVg (sOps s) (YT s (QX (Qm s) m)) (bwdD s (QX (Qm s) m) t).1
  have h3:=QtN (sSum s).1 (Qy (sOps s) (YT s (QX (Qm s) m)) (bwdD s (QX (Qm s) m) t).1).1
  have h4:=Qlh (Qm s) (QX (Qm s) m).toNat
  have h5:sz (List.drop ((QX (Qm s) m).toNat+1) (Qm s))≤sz (List.drop (QX (Qm s) m).toNat (Qm s)):=by
   rw [← List.drop_drop];exact QB6 _ _
  have h6:=Y6 (Qy (sOps s) (YT s (QX (Qm s) m)) (bwdD s (QX (Qm s) m) t).1).2.1
  have e:sz ([]:List Int)=0:=rfl
  have e2:sz ([]:List (List Int))=0:=rfl
  rw [Yw,Yw s]
  simp only [Qm,QL,sG,QD,Qga,e,e2,ZA]
  ((try simp only [sPc,QH,sOps,Qx,QE,Qm,QL,sX,sY,sG,sD,QD,QC,sSat,QM,QB,Qz,QA] at *);omega)
 ·((try simp only [sPc,QH,sOps,Qx,QE,Qm,QL,sX,sY,sG,sD,QD,QC,sSat,QM,QB,Qz,QA] at *);omega)
theorem Qru (q:Qn):sz (ZS q).1+sz (ZS q).2.1.2≤sz q:=by
 unfold ZS
 split
 ·rename_i h
  simp only [Bool.and_eq_true,decide_eq_true_eq] at h
  obtain ⟨c,l⟩:=q
  cases l with
  | nil=>simp at h
  | cons x l=>simp only [List.tail_cons,Qc7,QcU,Yi,Jv];rw [YC x,Yi];((try simp only [sPc,QH,sOps,Qx,QE,Qm,QL,sX,sY,sG,sD,QD,QC,sSat,QM,QB,Qz,QA] at *);omega)
 ·have:sz ([]:List Int)=0:=rfl
  simp only;((try simp only [sPc,QH,sOps,Qx,QE,Qm,QL,sX,sY,sG,sD,QD,QC,sSat,QM,QB,Qz,QA] at *);omega)
theorem Quo (q:Qn) (x:Yo):sz (Y7 q x).1≤sz q+1+sz x.2:=by
 unfold Y7
 split
 ·have:sz ([]:List Yo)=0:=rfl
  simp only [QcU,Qga,Jv,Yi]
  rw [YC q,Yi,YC x,Yi];((try simp only [sPc,QH,sOps,Qx,QE,Qm,QL,sX,sY,sG,sD,QD,QC,sSat,QM,QB,Qz,QA] at *);omega)
 ·simp only;((try simp only [sPc,QH,sOps,Qx,QE,Qm,QL,sX,sY,sG,sD,QD,QC,sSat,QM,QB,Qz,QA] at *);omega)
theorem QT4 (p:Qk) (k:Nat) (x:Qc) (i:TIns):sz (Yl p k x i).1+sz (Yl p k x i).2.1+sz (Yl p k x i).2.2≤sz x+sz (Qz p)+sz (QA p)+100:=by
 have e:sz ([]:List Int)=0:=rfl
 have ed:sz Q2=0:=rfl
 unfold Yl
 simp only
 split
 ·have h1:=Qru (gtd Q2 (Qz p) (k-1))
  have h2:=Qd2 Q2 (ZS (gtd Q2 (Qz p) (k-1))).1 (Qz p) (k-1)
  have h3:sz (setX x (ZS (gtd Q2 (Qz p) (k-1))).2.1.2)≤sz x+sz (ZS (gtd Q2 (Qz p) (k-1))).2.1.2:=by
   rw [Yw,Yw x];simp only [setX];((try simp only [sPc,QH,sOps,Qx,QE,Qm,QL,sX,sY,sG,sD,QD,QC,sSat,QM,QB,Qz,QA] at *);omega)
  simp only;((try simp only [sPc,QH,sOps,Qx,QE,Qm,QL,sX,sY,sG,sD,QD,QC,sSat,QM,QB,Qz,QA] at *);omega)
 split
 ·have h:=QF8 x i.2 (if k=0 then (gtd Zh (QM p) i.2.toNat).1 else sX x) (gtd Zh (QM p) i.2.toNat).2
  simp only;((try simp only [sPc,QH,sOps,Qx,QE,Qm,QL,sX,sY,sG,sD,QD,QC,sSat,QM,QB,Qz,QA] at *);omega)
 split
 ·have h1:=Quo (gtd Q2 (Qz p) k) (i.2,sY x)
  have h2:=Qd2 Q2 (Y7 (gtd Q2 (Qz p) k) (i.2,sY x)).1 (Qz p) k
  have h3:sz (setY x [])+sz (sY x)=sz x:=by rw [Yw,Yw x];simp only [setY,e];((try simp only [sPc,QH,sOps,Qx,QE,Qm,QL,sX,sY,sG,sD,QD,QC,sSat,QM,QB,Qz,QA] at *);omega)
  simp only at h1 ⊢;((try simp only [sPc,QH,sOps,Qx,QE,Qm,QL,sX,sY,sG,sD,QD,QC,sSat,QM,QB,Qz,QA] at *);omega)
 split
 ·have h1:=Qru (gtd Q2 (QA p) k)
  have h2:=Qd2 Q2 (ZS (gtd Q2 (QA p) k)).1 (QA p) k
  have h3:sz (setG x (ZS (gtd Q2 (QA p) k)).2.1.2)≤sz x+sz (ZS (gtd Q2 (QA p) k)).2.1.2:=by
   rw [Yw,Yw x];simp only [setG];((try simp only [sPc,QH,sOps,Qx,QE,Qm,QL,sX,sY,sG,sD,QD,QC,sSat,QM,QB,Qz,QA] at *);omega)
  simp only;((try simp only [sPc,QH,sOps,Qx,QE,Qm,QL,sX,sY,sG,sD,QD,QC,sSat,QM,QB,Qz,QA] at *);omega)
 split
 ·have h:=QIi x i.2
  simp only;((try simp only [sPc,QH,sOps,Qx,QE,Qm,QL,sX,sY,sG,sD,QD,QC,sSat,QM,QB,Qz,QA] at *);omega)
 split
 ·have h:=QMe x i.2 (gtd Zh (QM p) i.2.toNat).2
  have h3:∀ y:Qc,sz (setD y [])≤sz y:=by intro y;rw [Yw,Yw y];simp only [setD,e];((try simp only [sPc,QH,sOps,Qx,QE,Qm,QL,sX,sY,sG,sD,QD,QC,sSat,QM,QB,Qz,QA] at *);omega)
  have h4:=h3 (Yc x i.2 (gtd Zh (QM p) i.2.toNat).2)
  simp only
  split <;> ((try simp only [sPc,QH,sOps,Qx,QE,Qm,QL,sX,sY,sG,sD,QD,QC,sSat,QM,QB,Qz,QA] at *);omega)
 split
 ·have h1:=Quo (gtd Q2 (QA p) (k-1)) (i.2,sD x)
  have h2:=Qd2 Q2 (Y7 (gtd Q2 (QA p) (k-1)) (i.2,sD x)).1 (QA p) (k-1)
  have h3:sz (setD x [])+sz (sD x)=sz x:=by rw [Yw,Yw x];simp only [setD,e];((try simp only [sPc,QH,sOps,Qx,QE,Qm,QL,sX,sY,sG,sD,QD,QC,sSat,QM,QB,Qz,QA] at *);omega)
  simp only at h1 ⊢;((try simp only [sPc,QH,sOps,Qx,QE,Qm,QL,sX,sY,sG,sD,QD,QC,sSat,QM,QB,Qz,QA] at *);omega)
 ·simp only;((try simp only [sPc,QH,sOps,Qx,QE,Qm,QL,sX,sY,sG,sD,QD,QC,sSat,QM,QB,Qz,QA] at *);omega)
theorem QiG (p:Qk) (s:Int):sz (Zz p s)≤sz p+100:=by
 unfold Zz
 split
 ·have h1:=QT4 p s.toNat (gtd QT (QB p) s.toNat) (Qv p s)
  have h2:=Qd2 QT (YB (Yl p s.toNat (gtd QT (QB p) s.toNat) (Qv p s)).1 (sPc (gtd QT (QB p) s.toNat)+1)) (QB p) s.toNat
  have h3:∀ (y:Qc) (v:Int),sz (YB y v)=sz y:=by intro y v;rw [Yw,Yw y];rfl
  rw [h3] at h2
  have ed:sz QT=0:=rfl
  rw [Qed,Qed p]
  simp only
  ((try simp only [sPc,QH,sOps,Qx,QE,Qm,QL,sX,sY,sG,sD,QD,QC,sSat,QM,QB,Qz,QA] at *);omega)
 ·((try simp only [sPc,QH,sOps,Qx,QE,Qm,QL,sX,sY,sG,sD,QD,QC,sSat,QM,QB,Qz,QA] at *);omega)
theorem QCy:∀ (l:List Int) (p:Qk),sz (Qb0 l p)≤sz p+100*l.length
 | [],p=>by simp [Qb0]
 | s::r,p=>by
  have h1:=QCy r (Zz p s)
  have h2:=QiG p s
  simp only [Qb0,List.length_cons];((try simp only [sPc,QH,sOps,Qx,QE,Qm,QL,sX,sY,sG,sD,QD,QC,sSat,QM,QB,Qz,QA] at *);omega)
theorem Qlj:∀ (n k:Nat) (p:Qk),sz (ZI k n p)≤sz p+100*n
 | 0,k,p=>by simp [ZI]
 | n+1,k,p=>by
  have h1:=Qlj n (k+1) (Zz p (Int.tmod (k:Int) (QB p).length))
  have h2:=QiG p (Int.tmod (k:Int) (QB p).length)
  simp only [ZI];((try simp only [sPc,QH,sOps,Qx,QE,Qm,QL,sX,sY,sG,sD,QD,QC,sSat,QM,QB,Qz,QA] at *);omega)
theorem QKF (p:Qk) (l:List Int):sz (Jq p l)≤sz p+200000:=by
 unfold Jq
 have:=QCy (l.take 2000) p
 have:(l.take 2000).length≤2000:=by simp;((try simp only [sPc,QH,sOps,Qx,QE,Qm,QL,sX,sY,sG,sD,QD,QC,sSat,QM,QB,Qz,QA] at *);omega)
 ((try simp only [sPc,QH,sOps,Qx,QE,Qm,QL,sX,sY,sG,sD,QD,QC,sSat,QM,QB,Qz,QA] at *);omega)
theorem QTa (p:Qk) (n:Int):sz (YW p n)≤sz p+200000:=by
 unfold YW
 split
 ·have:=Qlj (min n.toNat 2000) 0 p
  ((try simp only [sPc,QH,sOps,Qx,QE,Qm,QL,sX,sY,sG,sD,QD,QC,sSat,QM,QB,Qz,QA] at *);omega)
 ·((try simp only [sPc,QH,sOps,Qx,QE,Qm,QL,sX,sY,sG,sD,QD,QC,sSat,QM,QB,Qz,QA] at *);omega)
end Go.Proofs.YtjbdljkhbglnhaaGreat.Am
namespace Go.Proofs.YtjbdljkhbglnhaaGreat.Am
open Go Sz
theorem Qvd (a b:Int):decide (a≥b) = !decide (a<b):=by
 rw [Bool.eq_iff_iff];simp
theorem QzR {s:Qc} {m:Int} {x t:List Int} (h:¬ QaD s m x t=true):YZ s m x t=s:=by unfold YZ;rw [if_neg h]
theorem QVR {s:Qc} {m:Int} (h:¬ (Zn s&&decide (0≤QX (Qm s) m))=true):Jx s m=s:=by unfold Jx;simp only;rw [if_neg h]
theorem QRc {s:Qc} {m:Int} {t:List Int} (h:¬ QaI s (QX (Qm s) m) t=true):Yc s m t=s:=by unfold Yc;simp only;rw [if_neg h]
theorem QVO (s:Qc) (m:Int) (x t:List Int):QaD s m x t=(!(((!(Zn s))||(!(Qr x (Q7 (Z3 s)))))||decide (QX s.2.2.2.2.2.1 m≥0))&&!(s.2.2.2.1&&(!(Qr t (Za (Z3 s)))))):=by
 unfold QaD
 rw [Qvd]
 show (Zn s&&Qr x (Q7 (Z3 s))&&decide (QX s.2.2.2.2.2.1 m<0)&&(!s.2.2.2.1||Qr t (Za (Z3 s))))=_
 cases Zn s <;> cases Qr x (Q7 (Z3 s)) <;> cases decide (QX s.2.2.2.2.2.1 m<0) <;> cases s.2.2.2.1 <;> cases Qr t (Za (Z3 s)) <;> rfl
theorem Qq9 (s:Qc) (m:Int):((!(Zn s))||decide (QX s.2.2.2.2.2.1 m<0)) = !(Zn s&&decide (0≤QX s.2.2.2.2.2.1 m)):=by
 have:=Qvd (QX s.2.2.2.2.2.1 m) 0
 rw [show decide (0≤QX s.2.2.2.2.2.1 m)=decide (QX s.2.2.2.2.2.1 m≥0) from rfl,this]
 cases Zn s <;> cases decide (QX s.2.2.2.2.2.1 m<0) <;> rfl
theorem QGJ {s:Qc} {m:Int} {x t:List Int} (h:QaD s m x t=true):YZ s m x t =
  (sPc s,QH s,sOps s,Qx s,QE s,Qm s++[(m,if QE s then (Qu (sOps s) x).1.take 1 else (Qu (sOps s) x).1)],QL s,[],(if Qx s then sY s else gtd [] (Qu (sOps s) x).1 (sOps s).length),sG s,sD s,QD s,
   (if Qx s then (Q4 (QC s) (ZX (gtd [] (Qu (sOps s) x).1 (sOps s).length) t).1).1 else QC s),
   (sSat s||(Qu (sOps s) x).2||(Qx s&&((ZX (gtd [] (Qu (sOps s) x).1 (sOps s).length) t).2||(Q4 (QC s) (ZX (gtd [] (Qu (sOps s) x).1 (sOps s).length) t).1).2)))):=by
 unfold YZ;rw [if_pos h]
theorem QFj {s:Qc} {m:Int} {t:List Int} {rows:List (List Int)} {d:List Int} {b:Bool} (h:QaI s (QX (Qm s) m) t=true) (hr:rows=YT s (QX (Qm s) m)) (hd:(d,b)=bwdD s (QX (Qm s) m) t):Yc s m t =
  (sPc s,QH s,sOps s,Qx s,QE s,(Qm s).take (QX (Qm s) m).toNat++(Qm s).drop ((QX (Qm s) m).toNat+1),[],sX s,sY s,[],(Qy (sOps s) rows d).2.1,
   (ZA (sSum s) ((Qy (sOps s) rows d).1,0,b||(Qy (sOps s) rows d).2.2)).1,(ZA (sSum s) ((Qy (sOps s) rows d).1,0,b||(Qy (sOps s) rows d).2.2)).2.1,(ZA (sSum s) ((Qy (sOps s) rows d).1,0,b||(Qy (sOps s) rows d).2.2)).2.2):=by
 unfold Yc
 simp only
 rw [if_pos h,← hr,← hd]
theorem QkT (s:Qc) (k:Int) (t:List Int):QaI s k t=(Zn s&&decide (0≤k)&&((YT s k).length==(sOps s).length+1)&&YU (sOps s) (YT s k) (sOps s).length&&Qr (bwdD s k t).1 (Za (sOps s))):=rfl
theorem QVM {α:Type} {l:List α} {k:Nat} (hk:k<l.length):List.take (k+(List.take (l.length-(k+1)) (List.drop (k+1) l)).length) (List.take k l++List.take (l.length-(k+1)) (List.drop (k+1) l))=List.take k l++List.drop (k+1) l:=by
 have e:List.take (l.length-(k+1)) (List.drop (k+1) l)=List.drop (k+1) l:=List.take_of_length_le (by simp)
 rw [e]
 exact List.take_of_length_le (by simp;omega)
theorem Qr6 (f:Int→Int→Int) (x:List Int):∀ d:List Int,(d.flatMap fun a=>x.map (f a)).length=d.length*x.length
 | []=>by simp
 | a::d=>by rw [List.flatMap_cons,List.length_append,Qr6 f x d,List.length_map,List.length_cons,Nat.add_mul];omega
theorem Qq1 (d x:List Int):(Zl d x).1.2.2.length≤36:=by
 unfold Zl
 split
 ·rename_i h
  simp only [Bool.and_eq_true] at h
  have h1:=vec6 h.1
  have h2:=vec6 h.2
  simp only
  rw [Qr6 (fun a b=>(Zo a b).1) x d]
  exact Nat.le_trans (Nat.mul_le_mul h1 h2) (by omega)
 ·simp
theorem QLU (o:TOp') (x d:List Int):(Ye o x d).2.1.length≤36:=by
 unfold Ye
 split
 ·rename_i h
  simp only [Bool.and_eq_true] at h
  split
  ·exact Qq1 _ _
  ·split
   ·exact Nat.le_trans (Qbz h.2) (by omega)
   ·split
    ·simp
    ·split
     ·exact Qq1 _ _
     ·simp
 ·simp
theorem QB9:∀ (ops:List TOp') (rows:List (List Int)) (d:List Int),sz (Qy ops rows d).1≤37*ops.length
 | [],rows,d=>by simp [Qy]
 | o::os,[],d=>by simp only [Qy];exact Nat.zero_le _
 | o::os,r::rs,d=>by
  have h1:=QLU o r (Qy os rs d).2.1
  have h2:=QB9 os rs d
  simp only [Qy,Jv,Y6,List.length_cons];omega
end Go.Proofs.YtjbdljkhbglnhaaGreat.Am
namespace Go.Proofs.YtjbdljkhbglnhaaGreat.Am
open Go Sz
theorem Qqn {nb:Int}:∀ {l:List Qc},Qa1 nb l=true→∀ x,x∈l→Zn x=true∧∀ i,i∈x.2.1→0≤i.2∧i.2<nb
 | [],_,x,hx=>by cases hx
 | s::r,h,x,hx=>by
  simp only [Qa1,Bool.and_eq_true,List.all_eq_true,QR] at h
  rcases List.mem_cons.1 hx with rfl | hx
  ·exact ⟨h.1.1.1,fun i hi=>by have:=h.1.2 i hi;omega⟩
  ·exact Qqn h.2 x hx
theorem QSM {p:Qk} {s:Int} (he:YK p s=true):∃ k:Nat,s=k∧k<p.2.1.length∧p.2.1.length≤4∧p.2.2.1.length+1=p.2.1.length∧p.2.2.2.length+1=p.2.1.length∧Zn (gtd QT p.2.1 k)=true ∧
  0≤(Qv p s).2∧(Qv p s).2<p.1.length∧((Qv p s).1=1→0<k)∧((Qv p s).1=3→k+1<p.2.1.length)∧((Qv p s).1=4→k+1<p.2.1.length)∧((Qv p s).1=7→0<k) ∧
  ((Qv p s).1=1∨(Qv p s).1=2∨(Qv p s).1=3∨(Qv p s).1=4∨(Qv p s).1=5∨(Qv p s).1=6∨(Qv p s).1=7∨(Qv p s).1=8):=by
 simp only [YK,Bool.and_eq_true] at he
 obtain ⟨⟨h1,h2⟩,h3⟩:=he
 simp only [Yb,Bool.and_eq_true,QR,beq_iff_eq] at h1
 have h2':=QR.1 h2
 obtain ⟨k,rfl⟩:=Int.eq_ofNat_of_zero_le h2'.1
 have hk:k<p.2.1.length:=by omega
 have hg:=Qqn h1.2.2 _ (JP hk QT)
 have hkind:(Qv p (k:Int)).1=1∨(Qv p (k:Int)).1=2∨(Qv p (k:Int)).1=3∨(Qv p (k:Int)).1=4∨(Qv p (k:Int)).1=5∨(Qv p (k:Int)).1=6∨(Qv p (k:Int)).1=7∨(Qv p (k:Int)).1=8:=by
  generalize (Qv p (k:Int)).1=kd at h3
  unfold QaS at h3
  simp only at h3
  split at h3
  ·omega
  split at h3
  ·omega
  split at h3
  ·omega
  split at h3
  ·omega
  split at h3
  ·omega
  split at h3
  ·omega
  ·cases h3
 have hM:0≤(Qv p (k:Int)).2∧(Qv p (k:Int)).2<p.1.length:=by
  have hn:Qv p (k:Int)=QeC (gtd QT p.2.1 k):=by
   unfold Qv;rw [if_pos h2,Int.toNat_natCast]
  rw [hn] at hkind ⊢
  unfold QeC at hkind ⊢
  split
  ·rename_i hpc
   have hpc:=QR.1 hpc
   exact hg.2 _ (JP (by omega) dIns)
  ·rename_i hpc
   rw [if_neg hpc] at hkind
   simp at hkind
 refine ⟨k,rfl,hk,by omega,by omega,by omega,hg.1,hM.1,hM.2,?_,?_,?_,?_,hkind⟩
 all_goals
  intro hkd
  rw [hkd] at h3
  simp [QaS] at h3
  omega
theorem QLL {p:Qk} {s:Int} (h:YK p s=false):Zz p s=p:=by unfold Zz;rw [if_neg (by rw [h];simp)]
theorem QPG {p:Qk} {k:Nat} {x y:Qc} {a b:List Qn} (h:YK p (k:Int)=true) (hx:x=gtd QT p.2.1 k) (hy:Yl p k x (Qv p (k:Int))=(y,a,b)) (hpc:y.1=x.1) :
  Zz p (k:Int)=(p.1,p.2.1.set k (y.1+1,y.2),a,b):=by
 unfold Zz
 rw [if_pos h]
 simp only [Int.toNat_natCast]
 rw [show gtd QT (QB p) k=x from hx.symm,hy]
 simp only
 rw [hpc]
 rfl
theorem QGr (p:Qk) (s:Int):(Zz p s).2.1.length=p.2.1.length:=by
 unfold Zz;split
 ·simp
 ·rfl
theorem QTS (s:Qc) (m:Int) (x t:List Int):(YZ s m x t).1=s.1:=by unfold YZ;split <;> rfl
theorem QUK (s:Qc) (m:Int):(Jx s m).1=s.1:=by unfold Jx;simp only;split <;> rfl
theorem QCE (s:Qc) (m:Int) (t:List Int):(Yc s m t).1=s.1:=by unfold Yc;simp only;split <;> rfl
theorem pi1 {p:Qk} {k:Nat} {x:Qc} {i:TIns} (h:i.1=1):Yl p k x i=(setX x (ZS (gtd Q2 (Qz p) (k-1))).2.1.2,(Qz p).set (k-1) (ZS (gtd Q2 (Qz p) (k-1))).1,QA p):=by
 unfold Yl;simp only [h];simp
theorem pi2 {p:Qk} {k:Nat} {x:Qc} {i:TIns} (h:i.1=2):Yl p k x i=(YZ x i.2 (if k=0 then (gtd Zh (QM p) i.2.toNat).1 else sX x) (gtd Zh (QM p) i.2.toNat).2,Qz p,QA p):=by
 unfold Yl;simp only [h];simp
theorem pi3 {p:Qk} {k:Nat} {x:Qc} {i:TIns} (h:i.1=3):Yl p k x i=(setY x [],(Qz p).set k (Y7 (gtd Q2 (Qz p) k) (i.2,sY x)).1,QA p):=by
 unfold Yl;simp only [h];simp
theorem pi4 {p:Qk} {k:Nat} {x:Qc} {i:TIns} (h:i.1=4):Yl p k x i=(setG x (ZS (gtd Q2 (QA p) k)).2.1.2,Qz p,(QA p).set k (ZS (gtd Q2 (QA p) k)).1):=by
 unfold Yl;simp only [h];simp
theorem pi5 {p:Qk} {k:Nat} {x:Qc} {i:TIns} (h:i.1=5):Yl p k x i=(Jx x i.2,Qz p,QA p):=by
 unfold Yl;simp only [h];simp
theorem pi6 {p:Qk} {k:Nat} {x:Qc} {i:TIns} (h:i.1=6):Yl p k x i=((if k=0 then setD (Yc x i.2 (gtd Zh (QM p) i.2.toNat).2) [] else Yc x i.2 (gtd Zh (QM p) i.2.toNat).2),Qz p,QA p):=by
 unfold Yl;simp only [h];simp
theorem pi7 {p:Qk} {k:Nat} {x:Qc} {i:TIns} (h:i.1=7):Yl p k x i=(setD x [],Qz p,(QA p).set (k-1) (Y7 (gtd Q2 (QA p) (k-1)) (i.2,sD x)).1):=by
 unfold Yl;simp only [h];simp
theorem pi8 {p:Qk} {k:Nat} {x:Qc} {i:TIns} (h:i.1=8):Yl p k x i=(x,Qz p,QA p):=by
 unfold Yl;simp only [h];simp
theorem Qyd {m:Q9} (h:QN m=true):sz m≤296:=by
 have hl:=YM h
 have hm:=QDU h
 have:∀ l:List TOp',(∀ o,o∈l→Zb o=true)→sz l≤37*l.length:=by
  intro l
  induction l with
  | nil=>intro _;exact Nat.zero_le _
  | cons o l ih =>
   intro hh
   have h1:=Qht (hh o (List.mem_cons_self ..))
   have h2:=ih (fun y hy=>hh y (List.mem_cons_of_mem _ hy))
   have h3:=Y6 o.2.2.2
   simp only [Jv,YC,Yi,List.length_cons]
   omega
 have:=this m hm
 omega
theorem QsM {m:Q9} {b:List Qi} (h:ZG m b=true):sz b≤65:=by
 simp only [ZG,Bool.and_eq_true,QR,List.all_eq_true] at h
 have:∀ l:List Qi,(∀ o,o∈l→Z5 m o=true)→sz l≤13*l.length:=by
  intro l
  induction l with
  | nil=>intro _;exact Nat.zero_le _
  | cons o l ih =>
   intro hh
   have h1:=hh o (List.mem_cons_self ..)
   simp only [Z5,Bool.and_eq_true] at h1
   have h4:=Qbz h1.1.2
   have h5:=Qbz h1.2
   have h2:=ih (fun y hy=>hh y (List.mem_cons_of_mem _ hy))
   have h3:=Y6 o.1
   have h6:=Y6 o.2
   simp only [Jv,YC,List.length_cons]
   omega
 have:=this b h.2
 omega
theorem QTg (l:List TIns):sz l=l.length:=QLP l (fun _=>rfl)
theorem QW2 (ops:Q9) (plan:List TIns) (a b:Bool):sz (QaP ops plan a b)≤plan.length+600:=by
 unfold QaP
 split
 ·rename_i h
  have h1:=Qyd h
  have h2:=Qeg h (Qo0 h)
  have h3:=QTg plan
  have h4:sz (Zq ops).1≤sz (Zq ops):=by simp only [YC];omega
  have e0:sz ([]:List Int)=0:=rfl
  have e1:sz ([]:List (List Int))=0:=rfl
  have e2:sz ([]:List Ys)=0:=rfl
  rw [Yw]
  simp only [QH,sOps,Qm,QL,sX,sY,sG,sD,QD,e0,e1,e2]
  omega
 ·exact Nat.zero_le _
theorem QlW (c:Qo) (n micro:Int):∀ k:Nat,sz (Qam c n micro k)≤700*k
 | 0=>Nat.zero_le _
 | k+1=>by
  have h:=QlW c n micro k
  have e2:sz ([]:List Qc)=0:=rfl
  rw [Qam,Qga,Jv,e2]
  have h1:=QW2 (slice (Q6 c) (Qt (Q6 c) (Zj c) k).1 (Qt (Q6 c) (Zj c) k).2) (ZE (cDs c) n k micro (gtd false (J9 c) k)) (decide ((k:Int)=n-1)) (gtd false (J9 c) k)
  have h2:=QhC (cDs c) n k micro (gtd false (J9 c) k)
  omega
theorem QDc:∀ l:List Int,sz (l.map fun n=>((n,[]):Qn))=l.length
 | []=>rfl
 | n::l=>by
  have e:sz ([]:List Yo)=0:=rfl
  simp only [List.map_cons,Jv,QcU,Yi,QDc l,e,List.length_cons];omega
theorem Qw9 (c:Qo) (b:List Qi):sz (Zi c b)≤10000:=by
 unfold Zi
 split
 ·rename_i h
  have A:=QhL h
  have hn:=Qhj A
  have h1:=QsM A.batch
  have h2:=QlW c (QO c) b.length (QO c).toNat
  have h3:=Qis A
  have h4:=QDc (JZ c)
  have h5:=A.stages
  have h6:nSt c=(Zj c).length+1:=rfl
  rw [Qed]
  simp only [QM,QB,Qz,QA]
  omega
 ·exact Nat.zero_le _
end Go.Proofs.YtjbdljkhbglnhaaGreat.Am

