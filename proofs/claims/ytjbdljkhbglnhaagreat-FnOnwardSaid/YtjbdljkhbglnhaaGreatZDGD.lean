/- -/
import Derived.Test.YtjbdljkhbglnhaaGreatZDGB
import Derived.Test.YtjbdljkhbglnhaaGreatZDGC
set_option linter.all false
namespace Go.Proofs.YtjbdljkhbglnhaaGreat.Am
open Go Sz
def QqA (ops:Zf) (plan:List TIns) (_ _:Bool):Prop:=sz ops≤2147483648∧plan.length≤2147483648
def Qb0 (s:Qc) (_:Int) (_ _:List Int):Prop:=sz s≤2147483648
def Qb9 (s:Qc) (_:Int):Prop:=sz s≤2147483648
def Qcc (s:Qc) (_:Int) (_:List Int):Prop:=sz s≤2147483648
def Qbe (p:Qe) (_:Int):Prop:=sz p≤1073741824
def Qkg (p:Qe) (_:List Int):Prop:=sz p≤536870912
theorem Ye (s:Qc):sz s=sz (QA s)+sz (sOps s)+sz (Qf s)+sz (QF s)+sz (sX s)+sz (sY s)+sz (sG s)+sz (sD s)+sz (QD s):=by
 simp only [ZQ,ZE,JP];((try simp only [sPc,QA,sOps,Qs,Qx,Qf,QF,sX,sY,sG,sD,QD,QB,sSat,QI,QH,Qy,Qz] at *);omega)
theorem Qa2 (p:Qe):sz p=sz (QI p)+sz (QH p)+sz (Qy p)+sz (Qz p):=by
 simp only [ZQ];((try simp only [sPc,QA,sOps,Qs,Qx,Qf,QF,sX,sY,sG,sD,QD,QB,sSat,QI,QH,Qy,Qz] at *);omega)
theorem QPz (m:Zf):(Yy m).2=(0,false):=by unfold Yy;split <;> rfl
theorem QdC {α:Type} [Sz α] (d:α) (v:α):∀ (l:List α) (i:Nat),sz (l.set i v)+sz (gtd d l i)≤sz l+sz v+sz d
 | [],i=>by simp [gtd]
 | x::l,0=>by simp only [List.set_cons_zero,JJ,QbE];omega
 | x::l,i+1=>by
  have:=QdC d v l i
  simp only [List.set_cons_succ,JJ,QGa];omega
theorem Qbl {α:Type} [Sz α] (d:α) (l:List α) (i:Nat):sz (gtd d l i)≤sz l+sz d:=by
 by_cases h:i<l.length
 ·have:=Qfn (Jc h d);omega
 ·have:gtd d l i=d:=by simp [gtd,List.getD_eq_getElem?_getD,List.getElem?_eq_none (Nat.le_of_not_lt h)]
  rw [this];omega
theorem vec6 {v:List Int} (h:QK v=true):v.length≤6:=by
 simp only [QK,Bool.and_eq_true,QS] at h;omega
theorem J5 {v:List Int} {n:Int} (h:Qq v n=true):v.length≤6:=by
 simp only [Qq,Bool.and_eq_true] at h;exact vec6 h.1
theorem QlF (f:Int→Int→Int × Bool):∀ (a b:List Int),(vz f a b).1.length≤a.length
 | [],b=>by simp [vz]
 | a::aa,[]=>by simp [vz]
 | a::aa,b::bb=>by simp only [vz,List.length_cons];have:=QlF f aa bb;omega
theorem Quq (f:Int→Int × Bool):∀ (a:List Int),(v1 f a).1.length≤a.length
 | []=>by simp [v1]
 | a::aa=>by simp only [v1,List.length_cons];have:=Quq f aa;omega
theorem QDo {a b:List Int} (h:ZI a b=true):a.length≤6:=by
 simp only [ZI,Bool.and_eq_true] at h;exact vec6 h.1
theorem Qnf (a b:List Int):(Zm a b).1.length≤6:=by
 unfold Zm
 split
 ·rename_i h;have:=QlF Q4 a b;have:=QDo h;omega
 ·simp
theorem QwJ (c:Int) (a:List Int):(ZC c a).1.length≤6:=by
 unfold ZC
 split
 ·rename_i h
  simp only [Bool.and_eq_true] at h
  have:=Quq (Zp c) a;have:=vec6 h.2;omega
 ·simp
theorem QYl (a:List Int):(Yo a).length≤6:=by
 unfold Yo
 split
 ·rename_i h;simp;exact vec6 h
 ·simp
theorem QR5 (x d:List Int):(Yk x d).length≤6:=by
 unfold Yk
 split
 ·rename_i h;have:=QDo h;simp;omega
 ·simp
theorem QYj (m:TMat) (x:List Int):(Zn m x).1.length≤6:=by
 unfold Zn
 split
 ·rename_i h
  simp only [Bool.and_eq_true,Zx,QS] at h
  simp;omega
 ·simp
theorem QOs (m:TMat) (x:List Int):(Zt m x).1.length≤6:=by
 unfold Zt
 split
 ·rename_i h
  simp only [Bool.and_eq_true,Zx,QS] at h
  simp;omega
 ·simp
theorem fwd6 (o:TOp') (x:List Int):(Yz o x).1.length≤6:=by
 unfold Yz
 split
 ·split
  ·exact QYj _ _
  ·split
   ·exact Qnf _ _
   ·split
    ·exact QwJ _ _
    ·split
     ·exact Qnf _ _
     ·exact QYl _
 ·simp
theorem bwd6 (o:TOp') (x d:List Int):(Yl o x d).1.length≤6:=by
 unfold Yl
 split
 ·rename_i h
  simp only [Bool.and_eq_true] at h
  split
  ·exact QOs _ _
  ·split
   ·exact J5 h.2
   ·split
    ·exact QwJ _ _
    ·split
     ·exact Qnf _ _
     ·exact QR5 _ _
 ·simp
theorem QSf:∀ (ops:List TOp') (rows:List (List Int)) (d:List Int),(QP ops rows d).2.1.length≤6+d.length
 | [],rows,d=>by simp [QP]
 | o::os,[],d=>by simp [QP]
 | o::os,r::rs,d=>by simp only [QP];have:=bwd6 o r (QP os rs d).2.1;omega
theorem Qfd:∀ (ops:List TOp') (x:List Int),sz (QG ops x).1≤1+x.length+7*ops.length
 | [],x=>by simp only [QG,JJ,ZR,List.length_nil];have:sz ([]:List (List Int))=0:=rfl;omega
 | o::r,x=>by
  have h1:=Qfd r (Yz o x).1
  have h2:=fwd6 o x
  simp only [QG,JJ,ZR,List.length_cons];omega
theorem QEE:∀ (a b:List (List Int)),sz (ZB a b).1≤sz a
 | [],b=>by simp [ZB]
 | a::aa,[]=>by simp only [ZB];exact Nat.zero_le _
 | a::aa,b::bb=>by
  have h1:=QEE aa bb
  have h2:=QlF Q4 a b
  simp only [ZB,JJ,ZR];omega
theorem Js {s:Qc} (h:QQ s=true):QU (sOps s)=true:=by
 simp only [QQ,Bool.and_eq_true] at h;exact h.1.1.1.1
theorem QrR {s:Qc} (h:QQ s=true):(sOps s).length≤8:=(Yn (Js h)).2
theorem Ql0 {s:Qc} (h:QQ s=true):0≤sPc s∧sPc s≤(QA s).length:=by
 simp only [QQ,Bool.and_eq_true,QS] at h;exact h.1.1.1.2
theorem Qnm {s:Qc} (h:QQ s=true):∀ x,x∈Qf s→YO s x=true:=by
 simp only [QQ,Bool.and_eq_true,List.all_eq_true] at h;exact h.1.2
theorem Qrd {s:Qc} (h:QQ s=true):(QD s).length=(sOps s).length∧Z1 (sOps s) (QD s)=true:=by
 simp only [QQ,Bool.and_eq_true,Ji,beq_iff_eq] at h;exact h.1.1.2
theorem Qly {s:Qc} {x:ZF} (h:QQ s=true) (hx:YO s x=true):1≤x.2.length∧(x.2.length:Int)=Z7 s∧Qq (gtd [] x.2 0) (Q6 (sOps s))=true:=by
 simp only [YO,Bool.and_eq_true,beq_iff_eq] at hx
 obtain ⟨h1,h2⟩:=hx
 have h3:1≤x.2.length:=by unfold Z7 at h1;split at h1 <;> omega
 refine ⟨h3,h1,?_⟩
 unfold Yp at h2
 rw [← h1,Int.toNat_natCast,List.take_length] at h2
 cases hr:x.2 with
 | nil=>rw [hr] at h3;simp at h3
 | cons r rs =>
  rw [hr] at h2
  simp only [Yi,Bool.and_eq_true] at h2
  have hm:=Js h
  have hl:=Yn hm
  have:Jd (sOps s) 0=Q6 (sOps s):=by
   unfold Jd Q6
   rw [if_pos (by omega),if_pos hm]
  rw [QbE,← this]
  exact h2.1
theorem Qs6:∀ (l:List ZF) (m k:Int),0≤k→Jx l m k<k+l.length∧-1≤Jx l m k
 | [],m,k,hk=>by simp only [Jx,List.length_nil];omega
 | x::r,m,k,hk=>by
  have:=Qs6 r m (k+1) (by omega)
  simp only [Jx,List.length_cons]
  split <;> omega
theorem QeU (l:List ZF) (m:Int):QL l m<l.length∧-1≤QL l m:=by
 have:=Qs6 l m 0 (Int.le_refl _)
 unfold QL;omega
theorem QNM (s:Qc) (m:Int) (x t:List Int):sz (Yg s m x t)≤sz s+100:=by
 unfold Yg
 split
 ·rename_i h
  simp only [Jw,Bool.and_eq_true] at h
  have h1:=QrR h.1.1.1
  have h2:=J5 h.1.1.2
  have h3:=Qfd (sOps s) x
  have h4:=Qbl [] (QG (sOps s) x).1 (sOps s).length
  have h5:sz (if Qx s=true then List.take 1 (QG (sOps s) x).1 else (QG (sOps s) x).1)≤sz (QG (sOps s) x).1:=by
   split
   ·exact QlZ _ _
   ·exact Nat.le_refl _
  have h6:sz (if Qs s=true then sY s else gtd [] (QG (sOps s) x).1 (sOps s).length)≤sz (sY s)+sz (gtd [] (QG (sOps s) x).1 (sOps s).length):=by
   split <;> ((try simp only [sPc,QA,sOps,Qs,Qx,Qf,QF,sX,sY,sG,sD,QD,QB,sSat,QI,QH,Qy,Qz] at *);omega)
  have h7:(gtd [] (QG (sOps s) x).1 (sOps s).length).length≤6:=by
   have:gtd [] (QG (sOps s) x).1 (sOps s).length=Z8 (sOps s) x:=rfl
   rw [this]
   have hv:∀ (ops:List TOp') (x:List Int),x.length≤6→(Z8 ops x).length≤6:=by
    intro ops
    induction ops with
    | nil=>intro x hx;rw [Qhy];exact hx
    | cons o r ih=>intro x hx;rw [QfS];exact ih _ (fwd6 o x)
   exact hv _ _ h2
  have h8:=ZR (gtd [] (QG (sOps s) x).1 (sOps s).length)
  have e:sz ([]:List Int)=0:=rfl
  rw [Ye,Ye s]
  have e3:sz ([]:List ZF)=0:=rfl
  simp only [Qf,sX,Qf4,JJ,QaS,ZE,e,e3]
  have e2:sz ([]:List ZF)=0:=rfl
  ((try simp only [sPc,QA,sOps,Qs,Qx,Qf,QF,sX,sY,sG,sD,QD,QB,sSat,QI,QH,Qy,Qz] at *);omega)
 ·((try simp only [sPc,QA,sOps,Qs,Qx,Qf,QF,sX,sY,sG,sD,QD,QB,sSat,QI,QH,Qy,Qz] at *);omega)
theorem QOZ (s:Qc) (m:Int):sz (YQ s m)≤sz s+100:=by
 unfold YQ
 simp only
 split
 ·rename_i h
  simp only [Bool.and_eq_true,decide_eq_true_eq] at h
  have h1:=QrR h.1
  have hf:=QeU (Qf s) m
  have hk:(QL (Qf s) m).toNat<(Qf s).length:=by ((try simp only [sPc,QA,sOps,Qs,Qx,Qf,QF,sX,sY,sG,sD,QD,QB,sSat,QI,QH,Qy,Qz] at *);omega)
  have h2:=J5 (Qly h.1 (Qnm h.1 _ (Jc hk Zs))).2.2
  have h3:=Qfd (sOps s) (gtd [] (gtd Zs (Qf s) (QL (Qf s) m).toNat).2 0)
  rw [Ye,Ye s]
  ((try simp only [sPc,QA,sOps,Qs,Qx,Qf,QF,sX,sY,sG,sD,QD,QB,sSat,QI,QH,Qy,Qz] at *);omega)
 ·((try simp only [sPc,QA,sOps,Qs,Qx,Qf,QF,sX,sY,sG,sD,QD,QB,sSat,QI,QH,Qy,Qz] at *);omega)
theorem QOE (s:Qc) (m:Int) (t:List Int):sz (Zw s m t)≤sz s+100:=by
 unfold Zw
 simp only
 split
 ·rename_i h
  simp only [JT,Bool.and_eq_true] at h
  have h1:=J5 h.2
  have h2:=QSf (sOps s) (Z2 s (QL (Qf s) m)) (bwdD s (QL (Qf s) m) t).1
  have h3:=QEE (sSum s).1 (QP (sOps s) (Z2 s (QL (Qf s) m)) (bwdD s (QL (Qf s) m) t).1).1
  have h4:=Qnt (Qf s) (QL (Qf s) m).toNat
  have h5:sz (List.drop ((QL (Qf s) m).toNat+1) (Qf s))≤sz (List.drop (QL (Qf s) m).toNat (Qf s)):=by
   rw [← List.drop_drop];exact Qt5 _ _
  have h6:=ZR (QP (sOps s) (Z2 s (QL (Qf s) m)) (bwdD s (QL (Qf s) m) t).1).2.1
  have e:sz ([]:List Int)=0:=rfl
  have e2:sz ([]:List (List Int))=0:=rfl
  rw [Ye,Ye s]
  simp only [Qf,QF,sG,QD,Qf4,e,e2,Z6]
  ((try simp only [sPc,QA,sOps,Qs,Qx,Qf,QF,sX,sY,sG,sD,QD,QB,sSat,QI,QH,Qy,Qz] at *);omega)
 ·((try simp only [sPc,QA,sOps,Qs,Qx,Qf,QF,sX,sY,sG,sD,QD,QB,sSat,QI,QH,Qy,Qz] at *);omega)
theorem QEF (q:Qd):sz (Zv q).1+sz (Zv q).2.1.2≤sz q:=by
 unfold Zv
 split
 ·rename_i h
  simp only [Bool.and_eq_true,decide_eq_true_eq] at h
  obtain ⟨c,l⟩:=q
  cases l with
  | nil=>simp at h
  | cons x l=>simp only [List.tail_cons,QbE,QaS,ZE,JJ];rw [ZQ x,ZE];((try simp only [sPc,QA,sOps,Qs,Qx,Qf,QF,sX,sY,sG,sD,QD,QB,sSat,QI,QH,Qy,Qz] at *);omega)
 ·have:sz ([]:List Int)=0:=rfl
  simp only;((try simp only [sPc,QA,sOps,Qs,Qx,Qf,QF,sX,sY,sG,sD,QD,QB,sSat,QI,QH,Qy,Qz] at *);omega)
theorem QCQ (q:Qd) (x:Zc):sz (Yw q x).1≤sz q+1+sz x.2:=by
 unfold Yw
 split
 ·have:sz ([]:List Zc)=0:=rfl
  simp only [QaS,Qf4,JJ,ZE]
  rw [ZQ q,ZE,ZQ x,ZE];((try simp only [sPc,QA,sOps,Qs,Qx,Qf,QF,sX,sY,sG,sD,QD,QB,sSat,QI,QH,Qy,Qz] at *);omega)
 ·simp only;((try simp only [sPc,QA,sOps,Qs,Qx,Qf,QF,sX,sY,sG,sD,QD,QB,sSat,QI,QH,Qy,Qz] at *);omega)
theorem QZa (p:Qe) (k:Nat) (x:Qc) (i:TIns):sz (Ym p k x i).1+sz (Ym p k x i).2.1+sz (Ym p k x i).2.2≤sz x+sz (Qy p)+sz (Qz p)+100:=by
 have e:sz ([]:List Int)=0:=rfl
 have ed:sz Qv=0:=rfl
 unfold Ym
 simp only
 split
 ·have h1:=QEF (gtd Qv (Qy p) (k-1))
  have h2:=QdC Qv (Zv (gtd Qv (Qy p) (k-1))).1 (Qy p) (k-1)
  have h3:sz (setX x (Zv (gtd Qv (Qy p) (k-1))).2.1.2)≤sz x+sz (Zv (gtd Qv (Qy p) (k-1))).2.1.2:=by
   rw [Ye,Ye x];simp only [setX];((try simp only [sPc,QA,sOps,Qs,Qx,Qf,QF,sX,sY,sG,sD,QD,QB,sSat,QI,QH,Qy,Qz] at *);omega)
  simp only;((try simp only [sPc,QA,sOps,Qs,Qx,Qf,QF,sX,sY,sG,sD,QD,QB,sSat,QI,QH,Qy,Qz] at *);omega)
 split
 ·have h:=QNM x i.2 (if k=0 then (gtd QY (QI p) i.2.toNat).1 else sX x) (gtd QY (QI p) i.2.toNat).2
  simp only;((try simp only [sPc,QA,sOps,Qs,Qx,Qf,QF,sX,sY,sG,sD,QD,QB,sSat,QI,QH,Qy,Qz] at *);omega)
 split
 ·have h1:=QCQ (gtd Qv (Qy p) k) (i.2,sY x)
  have h2:=QdC Qv (Yw (gtd Qv (Qy p) k) (i.2,sY x)).1 (Qy p) k
  have h3:sz (setY x [])+sz (sY x)=sz x:=by rw [Ye,Ye x];simp only [setY,e];((try simp only [sPc,QA,sOps,Qs,Qx,Qf,QF,sX,sY,sG,sD,QD,QB,sSat,QI,QH,Qy,Qz] at *);omega)
  simp only at h1 ⊢;((try simp only [sPc,QA,sOps,Qs,Qx,Qf,QF,sX,sY,sG,sD,QD,QB,sSat,QI,QH,Qy,Qz] at *);omega)
 split
 ·have h1:=QEF (gtd Qv (Qz p) k)
  have h2:=QdC Qv (Zv (gtd Qv (Qz p) k)).1 (Qz p) k
  have h3:sz (setG x (Zv (gtd Qv (Qz p) k)).2.1.2)≤sz x+sz (Zv (gtd Qv (Qz p) k)).2.1.2:=by
   rw [Ye,Ye x];simp only [setG];((try simp only [sPc,QA,sOps,Qs,Qx,Qf,QF,sX,sY,sG,sD,QD,QB,sSat,QI,QH,Qy,Qz] at *);omega)
  simp only;((try simp only [sPc,QA,sOps,Qs,Qx,Qf,QF,sX,sY,sG,sD,QD,QB,sSat,QI,QH,Qy,Qz] at *);omega)
 split
 ·have h:=QOZ x i.2
  simp only;((try simp only [sPc,QA,sOps,Qs,Qx,Qf,QF,sX,sY,sG,sD,QD,QB,sSat,QI,QH,Qy,Qz] at *);omega)
 split
 ·have h:=QOE x i.2 (gtd QY (QI p) i.2.toNat).2
  have h3:∀ y:Qc,sz (setD y [])≤sz y:=by intro y;rw [Ye,Ye y];simp only [setD,e];((try simp only [sPc,QA,sOps,Qs,Qx,Qf,QF,sX,sY,sG,sD,QD,QB,sSat,QI,QH,Qy,Qz] at *);omega)
  have h4:=h3 (Zw x i.2 (gtd QY (QI p) i.2.toNat).2)
  simp only
  split <;> ((try simp only [sPc,QA,sOps,Qs,Qx,Qf,QF,sX,sY,sG,sD,QD,QB,sSat,QI,QH,Qy,Qz] at *);omega)
 split
 ·have h1:=QCQ (gtd Qv (Qz p) (k-1)) (i.2,sD x)
  have h2:=QdC Qv (Yw (gtd Qv (Qz p) (k-1)) (i.2,sD x)).1 (Qz p) (k-1)
  have h3:sz (setD x [])+sz (sD x)=sz x:=by rw [Ye,Ye x];simp only [setD,e];((try simp only [sPc,QA,sOps,Qs,Qx,Qf,QF,sX,sY,sG,sD,QD,QB,sSat,QI,QH,Qy,Qz] at *);omega)
  simp only at h1 ⊢;((try simp only [sPc,QA,sOps,Qs,Qx,Qf,QF,sX,sY,sG,sD,QD,QB,sSat,QI,QH,Qy,Qz] at *);omega)
 ·simp only;((try simp only [sPc,QA,sOps,Qs,Qx,Qf,QF,sX,sY,sG,sD,QD,QB,sSat,QI,QH,Qy,Qz] at *);omega)
theorem Qtc (p:Qe) (s:Int):sz (Zy p s)≤sz p+100:=by
 unfold Zy
 split
 ·have h1:=QZa p s.toNat (gtd QC (QH p) s.toNat) (Qn p s)
  have h2:=QdC QC (YI (Ym p s.toNat (gtd QC (QH p) s.toNat) (Qn p s)).1 (sPc (gtd QC (QH p) s.toNat)+1)) (QH p) s.toNat
  have h3:∀ (y:Qc) (v:Int),sz (YI y v)=sz y:=by intro y v;rw [Ye,Ye y];rfl
  rw [h3] at h2
  have ed:sz QC=0:=rfl
  rw [Qa2,Qa2 p]
  simp only
  ((try simp only [sPc,QA,sOps,Qs,Qx,Qf,QF,sX,sY,sG,sD,QD,QB,sSat,QI,QH,Qy,Qz] at *);omega)
 ·((try simp only [sPc,QA,sOps,Qs,Qx,Qf,QF,sX,sY,sG,sD,QD,QB,sSat,QI,QH,Qy,Qz] at *);omega)
theorem Qw5:∀ (l:List Int) (p:Qe),sz (Qcn l p)≤sz p+100*l.length
 | [],p=>by simp [Qcn]
 | s::r,p=>by
  have h1:=Qw5 r (Zy p s)
  have h2:=Qtc p s
  simp only [Qcn,List.length_cons];((try simp only [sPc,QA,sOps,Qs,Qx,Qf,QF,sX,sY,sG,sD,QD,QB,sSat,QI,QH,Qy,Qz] at *);omega)
theorem QXX (p:Qe) (l:List Int):sz (JO p l)≤sz p+200000:=by
 unfold JO
 have:=Qw5 (l.take 2000) p
 have:(l.take 2000).length≤2000:=by simp;((try simp only [sPc,QA,sOps,Qs,Qx,Qf,QF,sX,sY,sG,sD,QD,QB,sSat,QI,QH,Qy,Qz] at *);omega)
 ((try simp only [sPc,QA,sOps,Qs,Qx,Qf,QF,sX,sY,sG,sD,QD,QB,sSat,QI,QH,Qy,Qz] at *);omega)
end Go.Proofs.YtjbdljkhbglnhaaGreat.Am
namespace Go.Proofs.YtjbdljkhbglnhaaGreat.Am
open Go Sz
theorem QmK (a b:Int):decide (a≥b) = !decide (a<b):=by
 rw [Bool.eq_iff_iff];simp
theorem Qm6 {s:Qc} {m:Int} {x t:List Int} (h:¬ Jw s m x t=true):Yg s m x t=s:=by unfold Yg;rw [if_neg h]
theorem QEX {s:Qc} {m:Int} (h:¬ (QQ s&&decide (0≤QL (Qf s) m))=true):YQ s m=s:=by unfold YQ;simp only;rw [if_neg h]
theorem QBR {s:Qc} {m:Int} {t:List Int} (h:¬ JT s (QL (Qf s) m) t=true):Zw s m t=s:=by unfold Zw;simp only;rw [if_neg h]
theorem QIr {m:Zf} (h:QU m=true):Q6 m=(gtd dOp m 0).2.1:=by unfold Q6;rw [if_pos h]
theorem QwG {m:Zf} (h:QU m=true):Q5 m=(gtd dOp m (m.length-1)).2.2.1:=by unfold Q5;rw [if_pos h]
theorem QyT (s:Qc) (m:Int) (x t:List Int):Jw s m x t=(!(((!(QQ s))||(!(Qq x (Q6 (ZP s)))))||decide (QL s.2.2.2.2.2.1 m≥0))&&!(s.2.2.2.1&&(!(Qq t (Q5 (ZP s)))))):=by
 unfold Jw
 rw [QmK]
 show (QQ s&&Qq x (Q6 (ZP s))&&decide (QL s.2.2.2.2.2.1 m<0)&&(!s.2.2.2.1||Qq t (Q5 (ZP s))))=_
 cases QQ s <;> cases Qq x (Q6 (ZP s)) <;> cases decide (QL s.2.2.2.2.2.1 m<0) <;> cases s.2.2.2.1 <;> cases Qq t (Q5 (ZP s)) <;> rfl
theorem QX5 (s:Qc) (m:Int) (x t:List Int) (k:Nat) (hk:QQ s=true→k=s.2.2.1.length-1) :
  (((((!(QQ s))||(!(QK x)))||((x.length:Int) != ((gtd dOp s.2.2.1 0).2.1)))||decide (QL s.2.2.2.2.2.1 m≥0))||(s.2.2.2.1&&((!(QK t))||((t.length:Int) != ((gtd dOp s.2.2.1 k).2.2.1))))) = !Jw s m x t:=by
 rw [QyT,QmK]
 cases hs:QQ s
 ·rfl
 ·have hm:=Js hs
  rw [hk hs,show ZP s=s.2.2.1 from rfl,QIr hm,QwG hm]
  unfold Qq
  simp only [bne]
  cases QK x <;> cases ((x.length:Int)==(gtd dOp s.2.2.1 0).2.1) <;> cases decide (QL s.2.2.2.2.2.1 m<0) <;> cases s.2.2.2.1 <;> cases QK t <;> cases ((t.length:Int)==(gtd dOp s.2.2.1 (s.2.2.1.length-1)).2.2.1) <;> rfl
theorem QhC (s:Qc) (m:Int):((!(QQ s))||decide (QL s.2.2.2.2.2.1 m<0)) = !(QQ s&&decide (0≤QL s.2.2.2.2.2.1 m)):=by
 have:=QmK (QL s.2.2.2.2.2.1 m) 0
 rw [show decide (0≤QL s.2.2.2.2.2.1 m)=decide (QL s.2.2.2.2.2.1 m≥0) from rfl,this]
 cases QQ s <;> cases decide (QL s.2.2.2.2.2.1 m<0) <;> rfl
theorem QAe {s:Qc} {m:Int} {x t:List Int} (h:Jw s m x t=true):Yg s m x t =
  (sPc s,QA s,sOps s,Qs s,Qx s,Qf s++[(m,if Qx s then (QG (sOps s) x).1.take 1 else (QG (sOps s) x).1)],QF s,[],(if Qs s then sY s else gtd [] (QG (sOps s) x).1 (sOps s).length),sG s,sD s,QD s,
   (if Qs s then (Q4 (QB s) (Z4 (gtd [] (QG (sOps s) x).1 (sOps s).length) t).1).1 else QB s),
   (sSat s||(QG (sOps s) x).2||(Qs s&&((Z4 (gtd [] (QG (sOps s) x).1 (sOps s).length) t).2||(Q4 (QB s) (Z4 (gtd [] (QG (sOps s) x).1 (sOps s).length) t).1).2)))):=by
 unfold Yg;rw [if_pos h]
theorem QAb {s:Qc} {m:Int} {t:List Int} {rows:List (List Int)} {d:List Int} {b:Bool} (h:JT s (QL (Qf s) m) t=true) (hr:rows=Z2 s (QL (Qf s) m)) (hd:(d,b)=bwdD s (QL (Qf s) m) t):Zw s m t =
  (sPc s,QA s,sOps s,Qs s,Qx s,(Qf s).take (QL (Qf s) m).toNat++(Qf s).drop ((QL (Qf s) m).toNat+1),[],sX s,sY s,[],(QP (sOps s) rows d).2.1,
   (Z6 (sSum s) ((QP (sOps s) rows d).1,0,b||(QP (sOps s) rows d).2.2)).1,(Z6 (sSum s) ((QP (sOps s) rows d).1,0,b||(QP (sOps s) rows d).2.2)).2.1,(Z6 (sSum s) ((QP (sOps s) rows d).1,0,b||(QP (sOps s) rows d).2.2)).2.2):=by
 unfold Zw
 simp only
 rw [if_pos h,← hr,← hd]
theorem Qc6 (s:Qc) (k:Int) (t:List Int):JT s k t=(QQ s&&decide (0≤k)&&((Z2 s k).length==(sOps s).length+1)&&Yp (sOps s) (Z2 s k) (sOps s).length&&Qq (bwdD s k t).1 (Q5 (sOps s))):=rfl
theorem QuG {α:Type} {l:List α} {k:Nat} (hk:k<l.length):List.take (k+(List.take (l.length-(k+1)) (List.drop (k+1) l)).length) (List.take k l++List.take (l.length-(k+1)) (List.drop (k+1) l))=List.take k l++List.drop (k+1) l:=by
 have e:List.take (l.length-(k+1)) (List.drop (k+1) l)=List.drop (k+1) l:=List.take_of_length_le (by simp)
 rw [e]
 exact List.take_of_length_le (by simp;omega)
theorem QuJ (f:Int→Int→Int) (x:List Int):∀ d:List Int,(d.flatMap fun a=>x.map (f a)).length=d.length*x.length
 | []=>by simp
 | a::d=>by rw [List.flatMap_cons,List.length_append,QuJ f x d,List.length_map,List.length_cons,Nat.add_mul];omega
theorem QBj (d x:List Int):(Zl d x).1.2.2.length≤36:=by
 unfold Zl
 split
 ·rename_i h
  simp only [Bool.and_eq_true] at h
  have h1:=vec6 h.1
  have h2:=vec6 h.2
  simp only
  rw [QuJ (fun a b=>(Zp a b).1) x d]
  exact Nat.le_trans (Nat.mul_le_mul h1 h2) (by omega)
 ·simp
theorem QXy (o:TOp') (x d:List Int):(Yl o x d).2.1.length≤36:=by
 unfold Yl
 split
 ·rename_i h
  simp only [Bool.and_eq_true] at h
  split
  ·exact QBj _ _
  ·split
   ·exact Nat.le_trans (J5 h.2) (by omega)
   ·split
    ·simp
    ·split
     ·exact QBj _ _
     ·simp
 ·simp
theorem Qnp:∀ (ops:List TOp') (rows:List (List Int)) (d:List Int),sz (QP ops rows d).1≤37*ops.length
 | [],rows,d=>by simp [QP]
 | o::os,[],d=>by simp only [QP];exact Nat.zero_le _
 | o::os,r::rs,d=>by
  have h1:=QXy o r (QP os rs d).2.1
  have h2:=Qnp os rs d
  simp only [QP,JJ,ZR,List.length_cons];omega
theorem QT9 {ops:List TOp'} {rows:List (List Int)} {k:Nat} (hk:k<ops.length) (hr:k<rows.length) :
  Yi ops k ((rows.drop k).take (ops.length-k))=(Qq (gtd [] rows k) (gtd dOp ops k).2.1&&Yi ops (k+1) ((rows.drop (k+1)).take (ops.length-(k+1)))):=by
 rw [List.drop_eq_getElem_cons hr,show ops.length-k=(ops.length-(k+1))+1 by omega,List.take_succ_cons,Yi]
 have:gtd [] rows k=rows[k]:=Qec (List.getElem?_eq_getElem hr) _
 rw [← this]
 unfold Jd
 rw [if_pos hk]
end Go.Proofs.YtjbdljkhbglnhaaGreat.Am
namespace Go.Proofs.YtjbdljkhbglnhaaGreat.Am
open Go Sz
theorem Qp2 {nb:Int}:∀ {l:List Qc},Jv nb l=true→∀ x,x∈l→QQ x=true∧∀ i,i∈x.2.1→0≤i.2∧i.2<nb
 | [],_,x,hx=>by cases hx
 | s::r,h,x,hx=>by
  simp only [Jv,Bool.and_eq_true,List.all_eq_true,QS] at h
  rcases List.mem_cons.1 hx with rfl | hx
  ·exact ⟨h.1.1.1,fun i hi=>by have:=h.1.2 i hi;omega⟩
  ·exact Qp2 h.2 x hx
theorem Qsf {p:Qe} {s:Int} (he:Zu p s=true):∃ k:Nat,s=k∧k<p.2.1.length∧p.2.1.length≤4∧p.2.2.1.length+1=p.2.1.length∧p.2.2.2.length+1=p.2.1.length∧QQ (gtd QC p.2.1 k)=true ∧
  0≤(Qn p s).2∧(Qn p s).2<p.1.length∧((Qn p s).1=1→0<k)∧((Qn p s).1=3→k+1<p.2.1.length)∧((Qn p s).1=4→k+1<p.2.1.length)∧((Qn p s).1=7→0<k) ∧
  ((Qn p s).1=1∨(Qn p s).1=2∨(Qn p s).1=3∨(Qn p s).1=4∨(Qn p s).1=5∨(Qn p s).1=6∨(Qn p s).1=7∨(Qn p s).1=8):=by
 simp only [Zu,Bool.and_eq_true] at he
 obtain ⟨⟨h1,h2⟩,h3⟩:=he
 simp only [Zi,Bool.and_eq_true,QS,beq_iff_eq] at h1
 have h2':=QS.1 h2
 obtain ⟨k,rfl⟩:=Int.eq_ofNat_of_zero_le h2'.1
 have hk:k<p.2.1.length:=by omega
 have hg:=Qp2 h1.2.2 _ (Jc hk QC)
 have hkind:(Qn p (k:Int)).1=1∨(Qn p (k:Int)).1=2∨(Qn p (k:Int)).1=3∨(Qn p (k:Int)).1=4∨(Qn p (k:Int)).1=5∨(Qn p (k:Int)).1=6∨(Qn p (k:Int)).1=7∨(Qn p (k:Int)).1=8:=by
  generalize (Qn p (k:Int)).1=kd at h3
  unfold JE at h3
  simp only at h3
  split at h3
  ·omega
  split at h3
  ·omega
  split at h3
  ·omega
  split at h3
  ·omega
  split at h3
  ·omega
  split at h3
  ·omega
  ·cases h3
 have hM:0≤(Qn p (k:Int)).2∧(Qn p (k:Int)).2<p.1.length:=by
  have hn:Qn p (k:Int)=Qcl (gtd QC p.2.1 k):=by
   unfold Qn;rw [if_pos h2,Int.toNat_natCast]
  rw [hn] at hkind ⊢
  unfold Qcl at hkind ⊢
  split
  ·rename_i hpc
   have hpc:=QS.1 hpc
   exact hg.2 _ (Jc (by omega) dIns)
  ·rename_i hpc
   rw [if_neg hpc] at hkind
   simp at hkind
 refine ⟨k,rfl,hk,by omega,by omega,by omega,hg.1,hM.1,hM.2,?_,?_,?_,?_,hkind⟩
 all_goals
  intro hkd
  rw [hkd] at h3
  simp [JE] at h3
  omega
theorem QEk {p:Qe} {s:Int} (h:Zu p s=false):Zy p s=p:=by unfold Zy;rw [if_neg (by rw [h];simp)]
theorem QzN {p:Qe} {k:Nat} {x y:Qc} {a b:List Qd} (h:Zu p (k:Int)=true) (hx:x=gtd QC p.2.1 k) (hy:Ym p k x (Qn p (k:Int))=(y,a,b)) (hpc:y.1=x.1) :
  Zy p (k:Int)=(p.1,p.2.1.set k (y.1+1,y.2),a,b):=by
 unfold Zy
 rw [if_pos h]
 simp only [Int.toNat_natCast]
 rw [show gtd QC (QH p) k=x from hx.symm,hy]
 simp only
 rw [hpc]
 rfl
theorem Qwv (s:Qc) (m:Int) (x t:List Int):(Yg s m x t).1=s.1:=by unfold Yg;split <;> rfl
theorem Qsa (s:Qc) (m:Int):(YQ s m).1=s.1:=by unfold YQ;simp only;split <;> rfl
theorem QgT (s:Qc) (m:Int) (t:List Int):(Zw s m t).1=s.1:=by unfold Zw;simp only;split <;> rfl
theorem pi1 {p:Qe} {k:Nat} {x:Qc} {i:TIns} (h:i.1=1):Ym p k x i=(setX x (Zv (gtd Qv (Qy p) (k-1))).2.1.2,(Qy p).set (k-1) (Zv (gtd Qv (Qy p) (k-1))).1,Qz p):=by
 unfold Ym;simp only [h];simp
theorem pi2 {p:Qe} {k:Nat} {x:Qc} {i:TIns} (h:i.1=2):Ym p k x i=(Yg x i.2 (if k=0 then (gtd QY (QI p) i.2.toNat).1 else sX x) (gtd QY (QI p) i.2.toNat).2,Qy p,Qz p):=by
 unfold Ym;simp only [h];simp
theorem pi3 {p:Qe} {k:Nat} {x:Qc} {i:TIns} (h:i.1=3):Ym p k x i=(setY x [],(Qy p).set k (Yw (gtd Qv (Qy p) k) (i.2,sY x)).1,Qz p):=by
 unfold Ym;simp only [h];simp
theorem pi4 {p:Qe} {k:Nat} {x:Qc} {i:TIns} (h:i.1=4):Ym p k x i=(setG x (Zv (gtd Qv (Qz p) k)).2.1.2,Qy p,(Qz p).set k (Zv (gtd Qv (Qz p) k)).1):=by
 unfold Ym;simp only [h];simp
theorem pi5 {p:Qe} {k:Nat} {x:Qc} {i:TIns} (h:i.1=5):Ym p k x i=(YQ x i.2,Qy p,Qz p):=by
 unfold Ym;simp only [h];simp
theorem pi6 {p:Qe} {k:Nat} {x:Qc} {i:TIns} (h:i.1=6):Ym p k x i=((if k=0 then setD (Zw x i.2 (gtd QY (QI p) i.2.toNat).2) [] else Zw x i.2 (gtd QY (QI p) i.2.toNat).2),Qy p,Qz p):=by
 unfold Ym;simp only [h];simp
theorem pi7 {p:Qe} {k:Nat} {x:Qc} {i:TIns} (h:i.1=7):Ym p k x i=(setD x [],Qy p,(Qz p).set (k-1) (Yw (gtd Qv (Qz p) (k-1)) (i.2,sD x)).1):=by
 unfold Ym;simp only [h];simp
theorem pi8 {p:Qe} {k:Nat} {x:Qc} {i:TIns} (h:i.1=8):Ym p k x i=(x,Qy p,Qz p):=by
 unfold Ym;simp only [h];simp
theorem QDF {m:Zf} (h:QU m=true):sz m≤296:=by
 have hl:=Yn h
 have hm:=QsG h
 have:∀ l:List TOp',(∀ o,o∈l→Zd o=true)→sz l≤37*l.length:=by
  intro l
  induction l with
  | nil=>intro _;exact Nat.zero_le _
  | cons o l ih =>
   intro hh
   have h1:=Qng (hh o (List.mem_cons_self ..))
   have h2:=ih (fun y hy=>hh y (List.mem_cons_of_mem _ hy))
   have h3:=ZR o.2.2.2
   simp only [JJ,ZQ,ZE,List.length_cons]
   omega
 have:=this m hm
 omega
theorem QvQ {m:Zf} {b:List Qr} (h:YY m b=true):sz b≤65:=by
 simp only [YY,Bool.and_eq_true,QS,List.all_eq_true] at h
 have:∀ l:List Qr,(∀ o,o∈l→Qan m o=true)→sz l≤13*l.length:=by
  intro l
  induction l with
  | nil=>intro _;exact Nat.zero_le _
  | cons o l ih =>
   intro hh
   have h1:=hh o (List.mem_cons_self ..)
   simp only [Qan,Bool.and_eq_true] at h1
   have h4:=J5 h1.1.2
   have h5:=J5 h1.2
   have h2:=ih (fun y hy=>hh y (List.mem_cons_of_mem _ hy))
   have h3:=ZR o.1
   have h6:=ZR o.2
   simp only [JJ,ZQ,List.length_cons]
   omega
 have:=this b h.2
 omega
theorem QUz (l:List TIns):sz l=l.length:=QGQ l (fun _=>rfl)
theorem QNA (ops:Zf) (plan:List TIns) (a b:Bool):sz (QaI ops plan a b)≤plan.length+600:=by
 unfold QaI
 split
 ·rename_i h
  have h1:=QDF h
  have h2:=QkU h (QKs h)
  have h3:=QUz plan
  have h4:sz (Yy ops).1≤sz (Yy ops):=by simp only [ZQ];omega
  have e0:sz ([]:List Int)=0:=rfl
  have e1:sz ([]:List (List Int))=0:=rfl
  have e2:sz ([]:List ZF)=0:=rfl
  rw [Ye]
  simp only [QA,sOps,Qf,QF,sX,sY,sG,sD,QD,e0,e1,e2]
  omega
 ·exact Nat.zero_le _
theorem QqP (c:QM) (n micro:Int):∀ k:Nat,sz (QaA c n micro k)≤700*k
 | 0=>Nat.zero_le _
 | k+1=>by
  have h:=QqP c n micro k
  have e2:sz ([]:List Qc)=0:=rfl
  rw [QaA,Qf4,JJ,e2]
  have h1:=QNA (slice (Yc c) (QW (Yc c) (ZH c) k).1 (QW (Yc c) (ZH c) k).2) (Yr (cDs c) n k micro (gtd false (Qau c) k)) (decide ((k:Int)=n-1)) (gtd false (Qau c) k)
  have h2:=QDL (cDs c) n k micro (gtd false (Qau c) k)
  omega
theorem Qte:∀ l:List Int,sz (l.map fun n=>((n,[]):Qd))=l.length
 | []=>rfl
 | n::l=>by
  have e:sz ([]:List Zc)=0:=rfl
  simp only [List.map_cons,JJ,QaS,ZE,Qte l,e,List.length_cons];omega
theorem QZh (c:QM) (b:List Qr):sz (YJ c b)≤10000:=by
 unfold YJ
 split
 ·rename_i h
  have A:=Qo1 h
  have hn:=QoM A
  have h1:=QvQ A.batch
  have h2:=QqP c (Zh c) b.length (Zh c).toNat
  have h3:=QiF A
  have h4:=Qte (Qad c)
  have h5:=A.stages
  have h6:nSt c=(ZH c).length+1:=rfl
  rw [Qa2]
  simp only [QI,QH,Qy,Qz]
  omega
 ·exact Nat.zero_le _
end Go.Proofs.YtjbdljkhbglnhaaGreat.Am

