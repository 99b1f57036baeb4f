/- -/
import Derived.Test.YtjbdljkhbglnhaaGreatZEGB
import Derived.Test.YtjbdljkhbglnhaaGreatZEGC
set_option linter.all false
namespace Go.Proofs.YtjbdljkhbglnhaaGreat.Am
open Go Sz
def QoA (ops:Zh) (plan:List TIns) (_ _:Bool):Prop:=sz ops≤2147483648∧plan.length≤2147483648
def QbJ (s:Qc) (_:Int) (_ _:List Int):Prop:=sz s≤2147483648
def Qbx (s:Qc) (_:Int):Prop:=sz s≤2147483648
def QbI (s:Qc) (_:Int) (_:List Int):Prop:=sz s≤2147483648
def JC (p:Qe) (_:Int):Prop:=sz p≤1073741824
def QjN (p:Qe) (_:List Int):Prop:=sz p≤536870912
theorem Yf (s:Qc):sz s=sz (QA s)+sz (sOps s)+sz (Qf s)+sz (QD s)+sz (sX s)+sz (sY s)+sz (sG s)+sz (sD s)+sz (QC s):=by
 simp only [ZP,ZF,JP];((try simp only [sPc,QA,sOps,Qs,Qx,Qf,QD,sX,sY,sG,sD,QC,QB,sSat,QH,QI,Qz,Qy] at *);omega)
theorem QaH (p:Qe):sz p=sz (QH p)+sz (QI p)+sz (Qz p)+sz (Qy p):=by
 simp only [ZP];((try simp only [sPc,QA,sOps,Qs,Qx,Qf,QD,sX,sY,sG,sD,QC,QB,sSat,QH,QI,Qz,Qy] at *);omega)
theorem QU2 (m:Zh):(Yw m).2=(0,false):=by unfold Yw;split <;> rfl
theorem Qee {α:Type} [Sz α] (d:α) (v:α):∀ (l:List α) (i:Nat),sz (l.set i v)+sz (gtd d l i)≤sz l+sz v+sz d
 | [],i=>by simp [gtd]
 | x::l,0=>by simp only [List.set_cons_zero,JM,QbG];omega
 | x::l,i+1=>by
  have:=Qee d v l i
  simp only [List.set_cons_succ,JM,QLw];omega
theorem Qbr {α:Type} [Sz α] (d:α) (l:List α) (i:Nat):sz (gtd d l i)≤sz l+sz d:=by
 by_cases h:i<l.length
 ·have:=Qgs (Y5 h d);omega
 ·have:gtd d l i=d:=by simp [gtd,List.getD_eq_getElem?_getD,List.getElem?_eq_none (Nat.le_of_not_lt h)]
  rw [this];omega
theorem vec6 {v:List Int} (h:QJ v=true):v.length≤6:=by
 simp only [QJ,Bool.and_eq_true,QT] at h;omega
theorem Qaf {v:List Int} {n:Int} (h:Qq v n=true):v.length≤6:=by
 simp only [Qq,Bool.and_eq_true] at h;exact vec6 h.1
theorem QlA (f:Int→Int→Int × Bool):∀ (a b:List Int),(vz f a b).1.length≤a.length
 | [],b=>by simp [vz]
 | a::aa,[]=>by simp [vz]
 | a::aa,b::bb=>by simp only [vz,List.length_cons];have:=QlA f aa bb;omega
theorem QsS (f:Int→Int × Bool):∀ (a:List Int),(v1 f a).1.length≤a.length
 | []=>by simp [v1]
 | a::aa=>by simp only [v1,List.length_cons];have:=QsS f aa;omega
theorem QyY {a b:List Int} (h:ZH a b=true):a.length≤6:=by
 simp only [ZH,Bool.and_eq_true] at h;exact vec6 h.1
theorem Qn3 (a b:List Int):(Zl a b).1.length≤6:=by
 unfold Zl
 split
 ·rename_i h;have:=QlA Q4 a b;have:=QyY h;omega
 ·simp
theorem QBL (c:Int) (a:List Int):(ZE c a).1.length≤6:=by
 unfold ZE
 split
 ·rename_i h
  simp only [Bool.and_eq_true] at h
  have:=QsS (Zr c) a;have:=vec6 h.2;omega
 ·simp
theorem QF4 (a:List Int):(Yj a).length≤6:=by
 unfold Yj
 split
 ·rename_i h;simp;exact vec6 h
 ·simp
theorem QI4 (x d:List Int):(Yn x d).length≤6:=by
 unfold Yn
 split
 ·rename_i h;have:=QyY h;simp;omega
 ·simp
theorem QLj (m:TMat) (x:List Int):(Zo m x).1.length≤6:=by
 unfold Zo
 split
 ·rename_i h
  simp only [Bool.and_eq_true,Zy,QT] at h
  simp;omega
 ·simp
theorem QWa (m:TMat) (x:List Int):(Zw m x).1.length≤6:=by
 unfold Zw
 split
 ·rename_i h
  simp only [Bool.and_eq_true,Zy,QT] at h
  simp;omega
 ·simp
theorem fwd6 (o:TOp') (x:List Int):(YB o x).1.length≤6:=by
 unfold YB
 split
 ·split
  ·exact QLj _ _
  ·split
   ·exact Qn3 _ _
   ·split
    ·exact QBL _ _
    ·split
     ·exact Qn3 _ _
     ·exact QF4 _
 ·simp
theorem bwd6 (o:TOp') (x d:List Int):(Yp o x d).1.length≤6:=by
 unfold Yp
 split
 ·rename_i h
  simp only [Bool.and_eq_true] at h
  split
  ·exact QWa _ _
  ·split
   ·exact Qaf h.2
   ·split
    ·exact QBL _ _
    ·split
     ·exact Qn3 _ _
     ·exact QI4 _ _
 ·simp
theorem QWC:∀ (ops:List TOp') (rows:List (List Int)) (d:List Int),(QP ops rows d).2.1.length≤6+d.length
 | [],rows,d=>by simp [QP]
 | o::os,[],d=>by simp [QP]
 | o::os,r::rs,d=>by simp only [QP];have:=bwd6 o r (QP os rs d).2.1;omega
theorem Qfv:∀ (ops:List TOp') (x:List Int),sz (QE ops x).1≤1+x.length+7*ops.length
 | [],x=>by simp only [QE,JM,ZS,List.length_nil];have:sz ([]:List (List Int))=0:=rfl;omega
 | o::r,x=>by
  have h1:=Qfv r (YB o x).1
  have h2:=fwd6 o x
  simp only [QE,JM,ZS,List.length_cons];omega
theorem QsE:∀ (a b:List (List Int)),sz (ZD a b).1≤sz a
 | [],b=>by simp [ZD]
 | a::aa,[]=>by simp only [ZD];exact Nat.zero_le _
 | a::aa,b::bb=>by
  have h1:=QsE aa bb
  have h2:=QlA Q4 a b
  simp only [ZD,JM,ZS];omega
theorem Jy {s:Qc} (h:QR s=true):QU (sOps s)=true:=by
 simp only [QR,Bool.and_eq_true] at h;exact h.1.1.1.1
theorem Qu6 {s:Qc} (h:QR s=true):(sOps s).length≤8:=(Ym (Jy h)).2
theorem Qzj {s:Qc} (h:QR s=true):0≤sPc s∧sPc s≤(QA s).length:=by
 simp only [QR,Bool.and_eq_true,QT] at h;exact h.1.1.1.2
theorem Ql1 {s:Qc} (h:QR s=true):∀ x,x∈Qf s→YP s x=true:=by
 simp only [QR,Bool.and_eq_true,List.all_eq_true] at h;exact h.1.2
theorem QCL {s:Qc} (h:QR s=true):(QC s).length=(sOps s).length∧Z1 (sOps s) (QC s)=true:=by
 simp only [QR,Bool.and_eq_true,Jh,beq_iff_eq] at h;exact h.1.1.2
theorem QmB {s:Qc} {x:ZG} (h:QR s=true) (hx:YP s x=true):1≤x.2.length∧(x.2.length:Int)=Z9 s∧Qq (gtd [] x.2 0) (Q6 (sOps s))=true:=by
 simp only [YP,Bool.and_eq_true,beq_iff_eq] at hx
 obtain ⟨h1,h2⟩:=hx
 have h3:1≤x.2.length:=by unfold Z9 at h1;split at h1 <;> omega
 refine ⟨h3,h1,?_⟩
 unfold Yl at h2
 rw [← h1,Int.toNat_natCast,List.take_length] at h2
 cases hr:x.2 with
 | nil=>rw [hr] at h3;simp at h3
 | cons r rs =>
  rw [hr] at h2
  simp only [Yr,Bool.and_eq_true] at h2
  have hm:=Jy h
  have hl:=Ym hm
  have:Jc (sOps s) 0=Q6 (sOps s):=by
   unfold Jc Q6
   rw [if_pos (by omega),if_pos hm]
  rw [QbG,← this]
  exact h2.1
theorem QuQ:∀ (l:List ZG) (m k:Int),0≤k→Jw l m k<k+l.length∧-1≤Jw l m k
 | [],m,k,hk=>by simp only [Jw,List.length_nil];omega
 | x::r,m,k,hk=>by
  have:=QuQ r m (k+1) (by omega)
  simp only [Jw,List.length_cons]
  split <;> omega
theorem QfT (l:List ZG) (m:Int):QL l m<l.length∧-1≤QL l m:=by
 have:=QuQ l m 0 (Int.le_refl _)
 unfold QL;omega
theorem QKT (s:Qc) (m:Int) (x t:List Int):sz (Yd s m x t)≤sz s+100:=by
 unfold Yd
 split
 ·rename_i h
  simp only [Jr,Bool.and_eq_true] at h
  have h1:=Qu6 h.1.1.1
  have h2:=Qaf h.1.1.2
  have h3:=Qfv (sOps s) x
  have h4:=Qbr [] (QE (sOps s) x).1 (sOps s).length
  have h5:sz (if Qx s=true then List.take 1 (QE (sOps s) x).1 else (QE (sOps s) x).1)≤sz (QE (sOps s) x).1:=by
   split
   ·exact Qqw _ _
   ·exact Nat.le_refl _
  have h6:sz (if Qs s=true then sY s else gtd [] (QE (sOps s) x).1 (sOps s).length)≤sz (sY s)+sz (gtd [] (QE (sOps s) x).1 (sOps s).length):=by
   split <;> ((try simp only [sPc,QA,sOps,Qs,Qx,Qf,QD,sX,sY,sG,sD,QC,QB,sSat,QH,QI,Qz,Qy] at *);omega)
  have h7:(gtd [] (QE (sOps s) x).1 (sOps s).length).length≤6:=by
   have:gtd [] (QE (sOps s) x).1 (sOps s).length=Z5 (sOps s) x:=rfl
   rw [this]
   have hv:∀ (ops:List TOp') (x:List Int),x.length≤6→(Z5 ops x).length≤6:=by
    intro ops
    induction ops with
    | nil=>intro x hx;rw [Qh6];exact hx
    | cons o r ih=>intro x hx;rw [QfJ];exact ih _ (fwd6 o x)
   exact hv _ _ h2
  have h8:=ZS (gtd [] (QE (sOps s) x).1 (sOps s).length)
  have e:sz ([]:List Int)=0:=rfl
  rw [Yf,Yf s]
  have e3:sz ([]:List ZG)=0:=rfl
  simp only [Qf,sX,Qe2,JM,QaR,ZF,e,e3]
  have e2:sz ([]:List ZG)=0:=rfl
  ((try simp only [sPc,QA,sOps,Qs,Qx,Qf,QD,sX,sY,sG,sD,QC,QB,sSat,QH,QI,Qz,Qy] at *);omega)
 ·((try simp only [sPc,QA,sOps,Qs,Qx,Qf,QD,sX,sY,sG,sD,QC,QB,sSat,QH,QI,Qz,Qy] at *);omega)
theorem QOe (s:Qc) (m:Int):sz (YU s m)≤sz s+100:=by
 unfold YU
 simp only
 split
 ·rename_i h
  simp only [Bool.and_eq_true,decide_eq_true_eq] at h
  have h1:=Qu6 h.1
  have hf:=QfT (Qf s) m
  have hk:(QL (Qf s) m).toNat<(Qf s).length:=by ((try simp only [sPc,QA,sOps,Qs,Qx,Qf,QD,sX,sY,sG,sD,QC,QB,sSat,QH,QI,Qz,Qy] at *);omega)
  have h2:=Qaf (QmB h.1 (Ql1 h.1 _ (Y5 hk Zu))).2.2
  have h3:=Qfv (sOps s) (gtd [] (gtd Zu (Qf s) (QL (Qf s) m).toNat).2 0)
  rw [Yf,Yf s]
  ((try simp only [sPc,QA,sOps,Qs,Qx,Qf,QD,sX,sY,sG,sD,QC,QB,sSat,QH,QI,Qz,Qy] at *);omega)
 ·((try simp only [sPc,QA,sOps,Qs,Qx,Qf,QD,sX,sY,sG,sD,QC,QB,sSat,QH,QI,Qz,Qy] at *);omega)
theorem QFD (s:Qc) (m:Int) (t:List Int):sz (Zz s m t)≤sz s+100:=by
 unfold Zz
 simp only
 split
 ·rename_i h
  simp only [JV,Bool.and_eq_true] at h
  have h1:=Qaf h.2
  have h2:=QWC (sOps s) (Z3 s (QL (Qf s) m)) (bwdD s (QL (Qf s) m) t).1
  have h3:=QsE (sSum s).1 (QP (sOps s) (Z3 s (QL (Qf s) m)) (bwdD s (QL (Qf s) m) t).1).1
  have h4:=Qno (Qf s) (QL (Qf s) m).toNat
  have h5:sz (List.drop ((QL (Qf s) m).toNat+1) (Qf s))≤sz (List.drop (QL (Qf s) m).toNat (Qf s)):=by
   rw [← List.drop_drop];exact Qxl _ _
  have h6:=ZS (QP (sOps s) (Z3 s (QL (Qf s) m)) (bwdD s (QL (Qf s) m) t).1).2.1
  have e:sz ([]:List Int)=0:=rfl
  have e2:sz ([]:List (List Int))=0:=rfl
  rw [Yf,Yf s]
  simp only [Qf,QD,sG,QC,Qe2,e,e2,Z7]
  ((try simp only [sPc,QA,sOps,Qs,Qx,Qf,QD,sX,sY,sG,sD,QC,QB,sSat,QH,QI,Qz,Qy] at *);omega)
 ·((try simp only [sPc,QA,sOps,Qs,Qx,Qf,QD,sX,sY,sG,sD,QC,QB,sSat,QH,QI,Qz,Qy] at *);omega)
theorem Qy7 (q:Qd):sz (Zv q).1+sz (Zv q).2.1.2≤sz q:=by
 unfold Zv
 split
 ·rename_i h
  simp only [Bool.and_eq_true,decide_eq_true_eq] at h
  obtain ⟨c,l⟩:=q
  cases l with
  | nil=>simp at h
  | cons x l=>simp only [List.tail_cons,QbG,QaR,ZF,JM];rw [ZP x,ZF];((try simp only [sPc,QA,sOps,Qs,Qx,Qf,QD,sX,sY,sG,sD,QC,QB,sSat,QH,QI,Qz,Qy] at *);omega)
 ·have:sz ([]:List Int)=0:=rfl
  simp only;((try simp only [sPc,QA,sOps,Qs,Qx,Qf,QD,sX,sY,sG,sD,QC,QB,sSat,QH,QI,Qz,Qy] at *);omega)
theorem Quv (q:Qd) (x:Zb):sz (Yz q x).1≤sz q+1+sz x.2:=by
 unfold Yz
 split
 ·have:sz ([]:List Zb)=0:=rfl
  simp only [QaR,Qe2,JM,ZF]
  rw [ZP q,ZF,ZP x,ZF];((try simp only [sPc,QA,sOps,Qs,Qx,Qf,QD,sX,sY,sG,sD,QC,QB,sSat,QH,QI,Qz,Qy] at *);omega)
 ·simp only;((try simp only [sPc,QA,sOps,Qs,Qx,Qf,QD,sX,sY,sG,sD,QC,QB,sSat,QH,QI,Qz,Qy] at *);omega)
theorem QLP (p:Qe) (k:Nat) (x:Qc) (i:TIns):sz (Yo p k x i).1+sz (Yo p k x i).2.1+sz (Yo p k x i).2.2≤sz x+sz (Qz p)+sz (Qy p)+100:=by
 have e:sz ([]:List Int)=0:=rfl
 have ed:sz Qv=0:=rfl
 unfold Yo
 simp only
 split
 ·have h1:=Qy7 (gtd Qv (Qz p) (k-1))
  have h2:=Qee Qv (Zv (gtd Qv (Qz p) (k-1))).1 (Qz p) (k-1)
  have h3:sz (setX x (Zv (gtd Qv (Qz p) (k-1))).2.1.2)≤sz x+sz (Zv (gtd Qv (Qz p) (k-1))).2.1.2:=by
   rw [Yf,Yf x];simp only [setX];((try simp only [sPc,QA,sOps,Qs,Qx,Qf,QD,sX,sY,sG,sD,QC,QB,sSat,QH,QI,Qz,Qy] at *);omega)
  simp only;((try simp only [sPc,QA,sOps,Qs,Qx,Qf,QD,sX,sY,sG,sD,QC,QB,sSat,QH,QI,Qz,Qy] at *);omega)
 split
 ·have h:=QKT x i.2 (if k=0 then (gtd QY (QH p) i.2.toNat).1 else sX x) (gtd QY (QH p) i.2.toNat).2
  simp only;((try simp only [sPc,QA,sOps,Qs,Qx,Qf,QD,sX,sY,sG,sD,QC,QB,sSat,QH,QI,Qz,Qy] at *);omega)
 split
 ·have h1:=Quv (gtd Qv (Qz p) k) (i.2,sY x)
  have h2:=Qee Qv (Yz (gtd Qv (Qz p) k) (i.2,sY x)).1 (Qz p) k
  have h3:sz (setY x [])+sz (sY x)=sz x:=by rw [Yf,Yf x];simp only [setY,e];((try simp only [sPc,QA,sOps,Qs,Qx,Qf,QD,sX,sY,sG,sD,QC,QB,sSat,QH,QI,Qz,Qy] at *);omega)
  simp only at h1 ⊢;((try simp only [sPc,QA,sOps,Qs,Qx,Qf,QD,sX,sY,sG,sD,QC,QB,sSat,QH,QI,Qz,Qy] at *);omega)
 split
 ·have h1:=Qy7 (gtd Qv (Qy p) k)
  have h2:=Qee Qv (Zv (gtd Qv (Qy p) k)).1 (Qy p) k
  have h3:sz (setG x (Zv (gtd Qv (Qy p) k)).2.1.2)≤sz x+sz (Zv (gtd Qv (Qy p) k)).2.1.2:=by
   rw [Yf,Yf x];simp only [setG];((try simp only [sPc,QA,sOps,Qs,Qx,Qf,QD,sX,sY,sG,sD,QC,QB,sSat,QH,QI,Qz,Qy] at *);omega)
  simp only;((try simp only [sPc,QA,sOps,Qs,Qx,Qf,QD,sX,sY,sG,sD,QC,QB,sSat,QH,QI,Qz,Qy] at *);omega)
 split
 ·have h:=QOe x i.2
  simp only;((try simp only [sPc,QA,sOps,Qs,Qx,Qf,QD,sX,sY,sG,sD,QC,QB,sSat,QH,QI,Qz,Qy] at *);omega)
 split
 ·have h:=QFD x i.2 (gtd QY (QH p) i.2.toNat).2
  have h3:∀ y:Qc,sz (setD y [])≤sz y:=by intro y;rw [Yf,Yf y];simp only [setD,e];((try simp only [sPc,QA,sOps,Qs,Qx,Qf,QD,sX,sY,sG,sD,QC,QB,sSat,QH,QI,Qz,Qy] at *);omega)
  have h4:=h3 (Zz x i.2 (gtd QY (QH p) i.2.toNat).2)
  simp only
  split <;> ((try simp only [sPc,QA,sOps,Qs,Qx,Qf,QD,sX,sY,sG,sD,QC,QB,sSat,QH,QI,Qz,Qy] at *);omega)
 split
 ·have h1:=Quv (gtd Qv (Qy p) (k-1)) (i.2,sD x)
  have h2:=Qee Qv (Yz (gtd Qv (Qy p) (k-1)) (i.2,sD x)).1 (Qy p) (k-1)
  have h3:sz (setD x [])+sz (sD x)=sz x:=by rw [Yf,Yf x];simp only [setD,e];((try simp only [sPc,QA,sOps,Qs,Qx,Qf,QD,sX,sY,sG,sD,QC,QB,sSat,QH,QI,Qz,Qy] at *);omega)
  simp only at h1 ⊢;((try simp only [sPc,QA,sOps,Qs,Qx,Qf,QD,sX,sY,sG,sD,QC,QB,sSat,QH,QI,Qz,Qy] at *);omega)
 ·simp only;((try simp only [sPc,QA,sOps,Qs,Qx,Qf,QD,sX,sY,sG,sD,QC,QB,sSat,QH,QI,Qz,Qy] at *);omega)
theorem Qgf (p:Qe) (s:Int):sz (Zd p s)≤sz p+100:=by
 unfold Zd
 split
 ·have h1:=QLP p s.toNat (gtd QK (QI p) s.toNat) (Ql p s)
  have h2:=Qee QK (YL (Yo p s.toNat (gtd QK (QI p) s.toNat) (Ql p s)).1 (sPc (gtd QK (QI p) s.toNat)+1)) (QI p) s.toNat
  have h3:∀ (y:Qc) (v:Int),sz (YL y v)=sz y:=by intro y v;rw [Yf,Yf y];rfl
  rw [h3] at h2
  have ed:sz QK=0:=rfl
  rw [QaH,QaH p]
  simp only
  ((try simp only [sPc,QA,sOps,Qs,Qx,Qf,QD,sX,sY,sG,sD,QC,QB,sSat,QH,QI,Qz,Qy] at *);omega)
 ·((try simp only [sPc,QA,sOps,Qs,Qx,Qf,QD,sX,sY,sG,sD,QC,QB,sSat,QH,QI,Qz,Qy] at *);omega)
theorem QCP:∀ (l:List Int) (p:Qe),sz (QbX l p)≤sz p+100*l.length
 | [],p=>by simp [QbX]
 | s::r,p=>by
  have h1:=QCP r (Zd p s)
  have h2:=Qgf p s
  simp only [QbX,List.length_cons];((try simp only [sPc,QA,sOps,Qs,Qx,Qf,QD,sX,sY,sG,sD,QC,QB,sSat,QH,QI,Qz,Qy] at *);omega)
theorem QOs (p:Qe) (l:List Int):sz (Jq p l)≤sz p+200000:=by
 unfold Jq
 have:=QCP (l.take 2000) p
 have:(l.take 2000).length≤2000:=by simp;((try simp only [sPc,QA,sOps,Qs,Qx,Qf,QD,sX,sY,sG,sD,QC,QB,sSat,QH,QI,Qz,Qy] at *);omega)
 ((try simp only [sPc,QA,sOps,Qs,Qx,Qf,QD,sX,sY,sG,sD,QC,QB,sSat,QH,QI,Qz,Qy] at *);omega)
end Go.Proofs.YtjbdljkhbglnhaaGreat.Am
namespace Go.Proofs.YtjbdljkhbglnhaaGreat.Am
open Go Sz
theorem Qp9 (a b:Int):decide (a≥b) = !decide (a<b):=by
 rw [Bool.eq_iff_iff];simp
theorem Qpo {s:Qc} {m:Int} {x t:List Int} (h:¬ Jr s m x t=true):Yd s m x t=s:=by unfold Yd;rw [if_neg h]
theorem QvJ {s:Qc} {m:Int} (h:¬ (QR s&&decide (0≤QL (Qf s) m))=true):YU s m=s:=by unfold YU;simp only;rw [if_neg h]
theorem QBW {s:Qc} {m:Int} {t:List Int} (h:¬ JV s (QL (Qf s) m) t=true):Zz s m t=s:=by unfold Zz;simp only;rw [if_neg h]
theorem QKU {m:Zh} (h:QU m=true):Q6 m=(gtd dOp m 0).2.1:=by unfold Q6;rw [if_pos h]
theorem QCI {m:Zh} (h:QU m=true):Q5 m=(gtd dOp m (m.length-1)).2.2.1:=by unfold Q5;rw [if_pos h]
theorem QqT (s:Qc) (m:Int) (x t:List Int):Jr s m x t=(!(((!(QR s))||(!(Qq x (Q6 (ZQ s)))))||decide (QL s.2.2.2.2.2.1 m≥0))&&!(s.2.2.2.1&&(!(Qq t (Q5 (ZQ s)))))):=by
 unfold Jr
 rw [Qp9]
 show (QR s&&Qq x (Q6 (ZQ s))&&decide (QL s.2.2.2.2.2.1 m<0)&&(!s.2.2.2.1||Qq t (Q5 (ZQ s))))=_
 cases QR s <;> cases Qq x (Q6 (ZQ s)) <;> cases decide (QL s.2.2.2.2.2.1 m<0) <;> cases s.2.2.2.1 <;> cases Qq t (Q5 (ZQ s)) <;> rfl
theorem QWp (s:Qc) (m:Int) (x t:List Int) (k:Nat) (hk:QR s=true→k=s.2.2.1.length-1) :
  (((((!(QR s))||(!(QJ x)))||((x.length:Int) != ((gtd dOp s.2.2.1 0).2.1)))||decide (QL s.2.2.2.2.2.1 m≥0))||(s.2.2.2.1&&((!(QJ t))||((t.length:Int) != ((gtd dOp s.2.2.1 k).2.2.1))))) = !Jr s m x t:=by
 rw [QqT,Qp9]
 cases hs:QR s
 ·rfl
 ·have hm:=Jy hs
  rw [hk hs,show ZQ s=s.2.2.1 from rfl,QKU hm,QCI hm]
  unfold Qq
  simp only [bne]
  cases QJ x <;> cases ((x.length:Int)==(gtd dOp s.2.2.1 0).2.1) <;> cases decide (QL s.2.2.2.2.2.1 m<0) <;> cases s.2.2.2.1 <;> cases QJ t <;> cases ((t.length:Int)==(gtd dOp s.2.2.1 (s.2.2.1.length-1)).2.2.1) <;> rfl
theorem Qi5 (s:Qc) (m:Int):((!(QR s))||decide (QL s.2.2.2.2.2.1 m<0)) = !(QR s&&decide (0≤QL s.2.2.2.2.2.1 m)):=by
 have:=Qp9 (QL s.2.2.2.2.2.1 m) 0
 rw [show decide (0≤QL s.2.2.2.2.2.1 m)=decide (QL s.2.2.2.2.2.1 m≥0) from rfl,this]
 cases QR s <;> cases decide (QL s.2.2.2.2.2.1 m<0) <;> rfl
theorem QAO {s:Qc} {m:Int} {x t:List Int} (h:Jr s m x t=true):Yd s m x t =
  (sPc s,QA s,sOps s,Qs s,Qx s,Qf s++[(m,if Qx s then (QE (sOps s) x).1.take 1 else (QE (sOps s) x).1)],QD s,[],(if Qs s then sY s else gtd [] (QE (sOps s) x).1 (sOps s).length),sG s,sD s,QC s,
   (if Qs s then (Q4 (QB s) (Z6 (gtd [] (QE (sOps s) x).1 (sOps s).length) t).1).1 else QB s),
   (sSat s||(QE (sOps s) x).2||(Qs s&&((Z6 (gtd [] (QE (sOps s) x).1 (sOps s).length) t).2||(Q4 (QB s) (Z6 (gtd [] (QE (sOps s) x).1 (sOps s).length) t).1).2)))):=by
 unfold Yd;rw [if_pos h]
theorem QCM {s:Qc} {m:Int} {t:List Int} {rows:List (List Int)} {d:List Int} {b:Bool} (h:JV s (QL (Qf s) m) t=true) (hr:rows=Z3 s (QL (Qf s) m)) (hd:(d,b)=bwdD s (QL (Qf s) m) t):Zz s m t =
  (sPc s,QA s,sOps s,Qs s,Qx s,(Qf s).take (QL (Qf s) m).toNat++(Qf s).drop ((QL (Qf s) m).toNat+1),[],sX s,sY s,[],(QP (sOps s) rows d).2.1,
   (Z7 (sSum s) ((QP (sOps s) rows d).1,0,b||(QP (sOps s) rows d).2.2)).1,(Z7 (sSum s) ((QP (sOps s) rows d).1,0,b||(QP (sOps s) rows d).2.2)).2.1,(Z7 (sSum s) ((QP (sOps s) rows d).1,0,b||(QP (sOps s) rows d).2.2)).2.2):=by
 unfold Zz
 simp only
 rw [if_pos h,← hr,← hd]
theorem QcA (s:Qc) (k:Int) (t:List Int):JV s k t=(QR s&&decide (0≤k)&&((Z3 s k).length==(sOps s).length+1)&&Yl (sOps s) (Z3 s k) (sOps s).length&&Qq (bwdD s k t).1 (Q5 (sOps s))):=rfl
theorem QvK {α:Type} {l:List α} {k:Nat} (hk:k<l.length):List.take (k+(List.take (l.length-(k+1)) (List.drop (k+1) l)).length) (List.take k l++List.take (l.length-(k+1)) (List.drop (k+1) l))=List.take k l++List.drop (k+1) l:=by
 have e:List.take (l.length-(k+1)) (List.drop (k+1) l)=List.drop (k+1) l:=List.take_of_length_le (by simp)
 rw [e]
 exact List.take_of_length_le (by simp;omega)
theorem Qrq (f:Int→Int→Int) (x:List Int):∀ d:List Int,(d.flatMap fun a=>x.map (f a)).length=d.length*x.length
 | []=>by simp
 | a::d=>by rw [List.flatMap_cons,List.length_append,Qrq f x d,List.length_map,List.length_cons,Nat.add_mul];omega
theorem Qxk (d x:List Int):(Zm d x).1.2.2.length≤36:=by
 unfold Zm
 split
 ·rename_i h
  simp only [Bool.and_eq_true] at h
  have h1:=vec6 h.1
  have h2:=vec6 h.2
  simp only
  rw [Qrq (fun a b=>(Zr a b).1) x d]
  exact Nat.le_trans (Nat.mul_le_mul h1 h2) (by omega)
 ·simp
theorem QXS (o:TOp') (x d:List Int):(Yp o x d).2.1.length≤36:=by
 unfold Yp
 split
 ·rename_i h
  simp only [Bool.and_eq_true] at h
  split
  ·exact Qxk _ _
  ·split
   ·exact Nat.le_trans (Qaf h.2) (by omega)
   ·split
    ·simp
    ·split
     ·exact Qxk _ _
     ·simp
 ·simp
theorem Qpj:∀ (ops:List TOp') (rows:List (List Int)) (d:List Int),sz (QP ops rows d).1≤37*ops.length
 | [],rows,d=>by simp [QP]
 | o::os,[],d=>by simp only [QP];exact Nat.zero_le _
 | o::os,r::rs,d=>by
  have h1:=QXS o r (QP os rs d).2.1
  have h2:=Qpj os rs d
  simp only [QP,JM,ZS,List.length_cons];omega
theorem QXl {ops:List TOp'} {rows:List (List Int)} {k:Nat} (hk:k<ops.length) (hr:k<rows.length) :
  Yr ops k ((rows.drop k).take (ops.length-k))=(Qq (gtd [] rows k) (gtd dOp ops k).2.1&&Yr ops (k+1) ((rows.drop (k+1)).take (ops.length-(k+1)))):=by
 rw [List.drop_eq_getElem_cons hr,show ops.length-k=(ops.length-(k+1))+1 by omega,List.take_succ_cons,Yr]
 have:gtd [] rows k=rows[k]:=Qb4 (List.getElem?_eq_getElem hr) _
 rw [← this]
 unfold Jc
 rw [if_pos hk]
end Go.Proofs.YtjbdljkhbglnhaaGreat.Am
namespace Go.Proofs.YtjbdljkhbglnhaaGreat.Am
open Go Sz
theorem QsP {nb:Int}:∀ {l:List Qc},Jz nb l=true→∀ x,x∈l→QR x=true∧∀ i,i∈x.2.1→0≤i.2∧i.2<nb
 | [],_,x,hx=>by cases hx
 | s::r,h,x,hx=>by
  simp only [Jz,Bool.and_eq_true,List.all_eq_true,QT] at h
  rcases List.mem_cons.1 hx with rfl | hx
  ·exact ⟨h.1.1.1,fun i hi=>by have:=h.1.2 i hi;omega⟩
  ·exact QsP h.2 x hx
theorem QDS {p:Qe} {s:Int} (he:Za p s=true):∃ k:Nat,s=k∧k<p.2.1.length∧p.2.1.length≤4∧p.2.2.1.length+1=p.2.1.length∧p.2.2.2.length+1=p.2.1.length∧QR (gtd QK p.2.1 k)=true ∧
  0≤(Ql p s).2∧(Ql p s).2<p.1.length∧((Ql p s).1=1→0<k)∧((Ql p s).1=3→k+1<p.2.1.length)∧((Ql p s).1=4→k+1<p.2.1.length)∧((Ql p s).1=7→0<k) ∧
  ((Ql p s).1=1∨(Ql p s).1=2∨(Ql p s).1=3∨(Ql p s).1=4∨(Ql p s).1=5∨(Ql p s).1=6∨(Ql p s).1=7∨(Ql p s).1=8):=by
 simp only [Za,Bool.and_eq_true] at he
 obtain ⟨⟨h1,h2⟩,h3⟩:=he
 simp only [Zn,Bool.and_eq_true,QT,beq_iff_eq] at h1
 have h2':=QT.1 h2
 obtain ⟨k,rfl⟩:=Int.eq_ofNat_of_zero_le h2'.1
 have hk:k<p.2.1.length:=by omega
 have hg:=QsP h1.2.2 _ (Y5 hk QK)
 have hkind:(Ql p (k:Int)).1=1∨(Ql p (k:Int)).1=2∨(Ql p (k:Int)).1=3∨(Ql p (k:Int)).1=4∨(Ql p (k:Int)).1=5∨(Ql p (k:Int)).1=6∨(Ql p (k:Int)).1=7∨(Ql p (k:Int)).1=8:=by
  generalize (Ql p (k:Int)).1=kd at h3
  unfold JD at h3
  simp only at h3
  split at h3
  ·omega
  split at h3
  ·omega
  split at h3
  ·omega
  split at h3
  ·omega
  split at h3
  ·omega
  split at h3
  ·omega
  ·cases h3
 have hM:0≤(Ql p (k:Int)).2∧(Ql p (k:Int)).2<p.1.length:=by
  have hn:Ql p (k:Int)=QbO (gtd QK p.2.1 k):=by
   unfold Ql;rw [if_pos h2,Int.toNat_natCast]
  rw [hn] at hkind ⊢
  unfold QbO at hkind ⊢
  split
  ·rename_i hpc
   have hpc:=QT.1 hpc
   exact hg.2 _ (Y5 (by omega) dIns)
  ·rename_i hpc
   rw [if_neg hpc] at hkind
   simp at hkind
 refine ⟨k,rfl,hk,by omega,by omega,by omega,hg.1,hM.1,hM.2,?_,?_,?_,?_,hkind⟩
 all_goals
  intro hkd
  rw [hkd] at h3
  simp [JD] at h3
  omega
theorem Qye {p:Qe} {s:Int} (h:Za p s=false):Zd p s=p:=by unfold Zd;rw [if_neg (by rw [h];simp)]
theorem QuJ {p:Qe} {k:Nat} {x y:Qc} {a b:List Qd} (h:Za p (k:Int)=true) (hx:x=gtd QK p.2.1 k) (hy:Yo p k x (Ql p (k:Int))=(y,a,b)) (hpc:y.1=x.1) :
  Zd p (k:Int)=(p.1,p.2.1.set k (y.1+1,y.2),a,b):=by
 unfold Zd
 rw [if_pos h]
 simp only [Int.toNat_natCast]
 rw [show gtd QK (QI p) k=x from hx.symm,hy]
 simp only
 rw [hpc]
 rfl
theorem QtO (s:Qc) (m:Int) (x t:List Int):(Yd s m x t).1=s.1:=by unfold Yd;split <;> rfl
theorem QBq (s:Qc) (m:Int):(YU s m).1=s.1:=by unfold YU;simp only;split <;> rfl
theorem Qko (s:Qc) (m:Int) (t:List Int):(Zz s m t).1=s.1:=by unfold Zz;simp only;split <;> rfl
theorem pi1 {p:Qe} {k:Nat} {x:Qc} {i:TIns} (h:i.1=1):Yo p k x i=(setX x (Zv (gtd Qv (Qz p) (k-1))).2.1.2,(Qz p).set (k-1) (Zv (gtd Qv (Qz p) (k-1))).1,Qy p):=by
 unfold Yo;simp only [h];simp
theorem pi2 {p:Qe} {k:Nat} {x:Qc} {i:TIns} (h:i.1=2):Yo p k x i=(Yd x i.2 (if k=0 then (gtd QY (QH p) i.2.toNat).1 else sX x) (gtd QY (QH p) i.2.toNat).2,Qz p,Qy p):=by
 unfold Yo;simp only [h];simp
theorem pi3 {p:Qe} {k:Nat} {x:Qc} {i:TIns} (h:i.1=3):Yo p k x i=(setY x [],(Qz p).set k (Yz (gtd Qv (Qz p) k) (i.2,sY x)).1,Qy p):=by
 unfold Yo;simp only [h];simp
theorem pi4 {p:Qe} {k:Nat} {x:Qc} {i:TIns} (h:i.1=4):Yo p k x i=(setG x (Zv (gtd Qv (Qy p) k)).2.1.2,Qz p,(Qy p).set k (Zv (gtd Qv (Qy p) k)).1):=by
 unfold Yo;simp only [h];simp
theorem pi5 {p:Qe} {k:Nat} {x:Qc} {i:TIns} (h:i.1=5):Yo p k x i=(YU x i.2,Qz p,Qy p):=by
 unfold Yo;simp only [h];simp
theorem pi6 {p:Qe} {k:Nat} {x:Qc} {i:TIns} (h:i.1=6):Yo p k x i=((if k=0 then setD (Zz x i.2 (gtd QY (QH p) i.2.toNat).2) [] else Zz x i.2 (gtd QY (QH p) i.2.toNat).2),Qz p,Qy p):=by
 unfold Yo;simp only [h];simp
theorem pi7 {p:Qe} {k:Nat} {x:Qc} {i:TIns} (h:i.1=7):Yo p k x i=(setD x [],Qz p,(Qy p).set (k-1) (Yz (gtd Qv (Qy p) (k-1)) (i.2,sD x)).1):=by
 unfold Yo;simp only [h];simp
theorem pi8 {p:Qe} {k:Nat} {x:Qc} {i:TIns} (h:i.1=8):Yo p k x i=(x,Qz p,Qy p):=by
 unfold Yo;simp only [h];simp
theorem Qw3 {m:Zh} (h:QU m=true):sz m≤296:=by
 have hl:=Ym h
 have hm:=Qxv h
 have:∀ l:List TOp',(∀ o,o∈l→Zf o=true)→sz l≤37*l.length:=by
  intro l
  induction l with
  | nil=>intro _;exact Nat.zero_le _
  | cons o l ih =>
   intro hh
   have h1:=Qoy (hh o (List.mem_cons_self ..))
   have h2:=ih (fun y hy=>hh y (List.mem_cons_of_mem _ hy))
   have h3:=ZS o.2.2.2
   simp only [JM,ZP,ZF,List.length_cons]
   omega
 have:=this m hm
 omega
theorem QCU {m:Zh} {b:List Qt} (h:Y9 m b=true):sz b≤65:=by
 simp only [Y9,Bool.and_eq_true,QT,List.all_eq_true] at h
 have:∀ l:List Qt,(∀ o,o∈l→Qat m o=true)→sz l≤13*l.length:=by
  intro l
  induction l with
  | nil=>intro _;exact Nat.zero_le _
  | cons o l ih =>
   intro hh
   have h1:=hh o (List.mem_cons_self ..)
   simp only [Qat,Bool.and_eq_true] at h1
   have h4:=Qaf h1.1.2
   have h5:=Qaf h1.2
   have h2:=ih (fun y hy=>hh y (List.mem_cons_of_mem _ hy))
   have h3:=ZS o.1
   have h6:=ZS o.2
   simp only [JM,ZP,List.length_cons]
   omega
 have:=this b h.2
 omega
theorem QMj (l:List TIns):sz l=l.length:=QJa l (fun _=>rfl)
theorem QOG (ops:Zh) (plan:List TIns) (a b:Bool):sz (QaW ops plan a b)≤plan.length+600:=by
 unfold QaW
 split
 ·rename_i h
  have h1:=Qw3 h
  have h2:=QoV h (QNh h)
  have h3:=QMj plan
  have h4:sz (Yw ops).1≤sz (Yw ops):=by simp only [ZP];omega
  have e0:sz ([]:List Int)=0:=rfl
  have e1:sz ([]:List (List Int))=0:=rfl
  have e2:sz ([]:List ZG)=0:=rfl
  rw [Yf]
  simp only [QA,sOps,Qf,QD,sX,sY,sG,sD,QC,e0,e1,e2]
  omega
 ·exact Nat.zero_le _
theorem Qo4 (c:QN) (n micro:Int):∀ k:Nat,sz (QaI c n micro k)≤700*k
 | 0=>Nat.zero_le _
 | k+1=>by
  have h:=Qo4 c n micro k
  have e2:sz ([]:List Qc)=0:=rfl
  rw [QaI,Qe2,JM,e2]
  have h1:=QOG (slice (Yc c) (QW (Yc c) (ZI c) k).1 (QW (Yc c) (ZI c) k).2) (YC (cDs c) n k micro (gtd false (Qar c) k)) (decide ((k:Int)=n-1)) (gtd false (Qar c) k)
  have h2:=QCZ (cDs c) n k micro (gtd false (Qar c) k)
  omega
theorem Qtk:∀ l:List Int,sz (l.map fun n=>((n,[]):Qd))=l.length
 | []=>rfl
 | n::l=>by
  have e:sz ([]:List Zb)=0:=rfl
  simp only [List.map_cons,JM,QaR,ZF,Qtk l,e,List.length_cons];omega
theorem QPp (c:QN) (b:List Qt):sz (Z4 c b)≤10000:=by
 unfold Z4
 split
 ·rename_i h
  have A:=QnM h
  have hn:=QmX A
  have h1:=QCU A.batch
  have h2:=Qo4 c (Zj c) b.length (Zj c).toNat
  have h3:=Qji A
  have h4:=Qtk (J5 c)
  have h5:=A.stages
  have h6:nSt c=(ZI c).length+1:=rfl
  rw [QaH]
  simp only [QH,QI,Qz,Qy]
  omega
 ·exact Nat.zero_le _
end Go.Proofs.YtjbdljkhbglnhaaGreat.Am

