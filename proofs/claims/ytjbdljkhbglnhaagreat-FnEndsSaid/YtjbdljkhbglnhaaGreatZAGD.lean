/- -/
import Derived.Test.YtjbdljkhbglnhaaGreatZAGB
import Derived.Test.YtjbdljkhbglnhaaGreatZAGC
set_option linter.all false
namespace Go.Proofs.YtjbdljkhbglnhaaGreat.Am
open Go Sz
def QlI (ops:Q5) (plan:List TIns) (_ _:Bool):Prop:=sz ops≤2147483648∧plan.length≤2147483648
def Qhw (s:Qc) (_:Int) (_ _:List Int):Prop:=sz s≤2147483648
def QfH (s:Qc) (_:Int):Prop:=sz s≤2147483648
def QhN (s:Qc) (_:Int) (_:List Int):Prop:=sz s≤2147483648
def QiF (p:Qd) (_:Int):Prop:=sz p≤1073741824
def QgQ (p:Qd) (_:Int):Prop:=sz p≤536870912
theorem Yk (s:Qc):sz s=sz (QD s)+sz (sOps s)+sz (Qk s)+sz (QJ s)+sz (sX s)+sz (sY s)+sz (sG s)+sz (sD s)+sz (QF s):=by
 simp only [YC,Yc,QaY];((try simp only [sPc,QD,sOps,Qw,QB,Qk,QJ,sX,sY,sG,sD,QF,QH,sSat,QO,QG,Qz,QA] at *);omega)
theorem Qeu (p:Qd):sz p=sz (QO p)+sz (QG p)+sz (Qz p)+sz (QA p):=by
 simp only [YC];((try simp only [sPc,QD,sOps,Qw,QB,Qk,QJ,sX,sY,sG,sD,QF,QH,sSat,QO,QG,Qz,QA] at *);omega)
theorem QGR (m:Q5):(ZN m).2=(0,false):=by unfold ZN;split <;> rfl
theorem QdZ {α:Type} [Sz α] (d:α) (v:α):∀ (l:List α) (i:Nat),sz (l.set i v)+sz (gtd d l i)≤sz l+sz v+sz d
 | [],i=>by simp [gtd]
 | x::l,0=>by simp only [List.set_cons_zero,Jw,Qce];omega
 | x::l,i+1=>by
  have:=QdZ d v l i
  simp only [List.set_cons_succ,Jw,QD9];omega
theorem Qfh {α:Type} [Sz α] (d:α) (l:List α) (i:Nat):sz (gtd d l i)≤sz l+sz d:=by
 by_cases h:i<l.length
 ·have:=Qod (JB h d);omega
 ·have:gtd d l i=d:=by simp [gtd,List.getD_eq_getElem?_getD,List.getElem?_eq_none (Nat.le_of_not_lt h)]
  rw [this];omega
theorem vec6 {v:List Int} (h:Q2 v=true):v.length≤6:=by
 simp only [Q2,Bool.and_eq_true,QR] at h;omega
theorem Qa6 {v:List Int} {n:Int} (h:Qt v n=true):v.length≤6:=by
 simp only [Qt,Bool.and_eq_true] at h;exact vec6 h.1
theorem QmC (f:Int→Int→Int × Bool):∀ (a b:List Int),(vz f a b).1.length≤a.length
 | [],b=>by simp [vz]
 | a::aa,[]=>by simp [vz]
 | a::aa,b::bb=>by simp only [vz,List.length_cons];have:=QmC f aa bb;omega
theorem Qxe (f:Int→Int × Bool):∀ (a:List Int),(v1 f a).1.length≤a.length
 | []=>by simp [v1]
 | a::aa=>by simp only [v1,List.length_cons];have:=Qxe f aa;omega
theorem Qo8 {a b:List Int} (h:Z8 a b=true):a.length≤6:=by
 simp only [Z8,Bool.and_eq_true] at h;exact vec6 h.1
theorem Qjk (a b:List Int):(ZR a b).1.length≤6:=by
 unfold ZR
 split
 ·rename_i h;have:=QmC Zi a b;have:=Qo8 h;omega
 ·simp
theorem Qu6 (c:Int) (a:List Int):(Yu c a).1.length≤6:=by
 unfold Yu
 split
 ·rename_i h
  simp only [Bool.and_eq_true] at h
  have:=Qxe (ZS c) a;have:=vec6 h.2;omega
 ·simp
theorem QRy (a:List Int):(Jr a).length≤6:=by
 unfold Jr
 split
 ·rename_i h;simp;exact vec6 h
 ·simp
theorem QLK (x d:List Int):(Jg x d).length≤6:=by
 unfold Jg
 split
 ·rename_i h;have:=Qo8 h;simp;omega
 ·simp
theorem QD0 (m:TMat) (x:List Int):(ZH m x).1.length≤6:=by
 unfold ZH
 split
 ·rename_i h
  simp only [Bool.and_eq_true,ZL,QR] at h
  simp;omega
 ·simp
theorem QQp (m:TMat) (x:List Int):(Z2 m x).1.length≤6:=by
 unfold Z2
 split
 ·rename_i h
  simp only [Bool.and_eq_true,ZL,QR] at h
  simp;omega
 ·simp
theorem fwd6 (o:TOp') (x:List Int):(Y4 o x).1.length≤6:=by
 unfold Y4
 split
 ·split
  ·exact QD0 _ _
  ·split
   ·exact Qjk _ _
   ·split
    ·exact Qu6 _ _
    ·split
     ·exact Qjk _ _
     ·exact QRy _
 ·simp
theorem bwd6 (o:TOp') (x d:List Int):(YL o x d).1.length≤6:=by
 unfold YL
 split
 ·rename_i h
  simp only [Bool.and_eq_true] at h
  split
  ·exact QQp _ _
  ·split
   ·exact Qa6 h.2
   ·split
    ·exact Qu6 _ _
    ·split
     ·exact Qjk _ _
     ·exact QLK _ _
 ·simp
theorem QL8:∀ (ops:List TOp') (rows:List (List Int)) (d:List Int),(QI ops rows d).2.1.length≤6+d.length
 | [],rows,d=>by simp [QI]
 | o::os,[],d=>by simp [QI]
 | o::os,r::rs,d=>by simp only [QI];have:=bwd6 o r (QI os rs d).2.1;omega
theorem Qh2:∀ (ops:List TOp') (x:List Int),sz (Qy ops x).1≤1+x.length+7*ops.length
 | [],x=>by simp only [Qy,Jw,Ja,List.length_nil];have:sz ([]:List (List Int))=0:=rfl;omega
 | o::r,x=>by
  have h1:=Qh2 r (Y4 o x).1
  have h2:=fwd6 o x
  simp only [Qy,Jw,Ja,List.length_cons];omega
theorem QzR:∀ (a b:List (List Int)),sz (Zg a b).1≤sz a
 | [],b=>by simp [Zg]
 | a::aa,[]=>by simp only [Zg];exact Nat.zero_le _
 | a::aa,b::bb=>by
  have h1:=QzR aa bb
  have h2:=QmC Zi a b
  simp only [Zg,Jw,Ja];omega
theorem Qca {s:Qc} (h:Q9 s=true):QM (sOps s)=true:=by
 simp only [Q9,Bool.and_eq_true] at h;exact h.1.1.1.1
theorem QzE {s:Qc} (h:Q9 s=true):(sOps s).length≤8:=(YZ (Qca h)).2
theorem QvL {s:Qc} (h:Q9 s=true):0≤sPc s∧sPc s≤(QD s).length:=by
 simp only [Q9,Bool.and_eq_true,QR] at h;exact h.1.1.1.2
theorem Qrv {s:Qc} (h:Q9 s=true):∀ x,x∈Qk s→Qav s x=true:=by
 simp only [Q9,Bool.and_eq_true,List.all_eq_true] at h;exact h.1.2
theorem QDq {s:Qc} (h:Q9 s=true):(QF s).length=(sOps s).length∧Z6 (sOps s) (QF s)=true:=by
 simp only [Q9,Bool.and_eq_true,JI,beq_iff_eq] at h;exact h.1.1.2
theorem QAg {s:Qc} {x:Yg} (h:Q9 s=true) (hx:Qav s x=true):1≤x.2.length∧(x.2.length:Int)=Ji s∧Qt (gtd [] x.2 0) (QZ (sOps s))=true:=by
 simp only [Qav,Bool.and_eq_true,beq_iff_eq] at hx
 obtain ⟨h1,h2⟩:=hx
 have h3:1≤x.2.length:=by unfold Ji at h1;split at h1 <;> omega
 refine ⟨h3,h1,?_⟩
 unfold YE at h2
 rw [← h1,Int.toNat_natCast,List.take_length] at h2
 cases hr:x.2 with
 | nil=>rw [hr] at h3;simp at h3
 | cons r rs =>
  rw [hr] at h2
  simp only [Je,Bool.and_eq_true] at h2
  have hm:=Qca h
  have hl:=YZ hm
  have:Qbb (sOps s) 0=QZ (sOps s):=by
   unfold Qbb QZ
   rw [if_pos (by omega),if_pos hm]
  rw [Qce,← this]
  exact h2.1
theorem QuQ:∀ (l:List Yg) (m k:Int),0≤k→JY l m k<k+l.length∧-1≤JY l m k
 | [],m,k,hk=>by simp only [JY,List.length_nil];omega
 | x::r,m,k,hk=>by
  have:=QuQ r m (k+1) (by omega)
  simp only [JY,List.length_cons]
  split <;> omega
theorem QjE (l:List Yg) (m:Int):QS l m<l.length∧-1≤QS l m:=by
 have:=QuQ l m 0 (Int.le_refl _)
 unfold QS;omega
theorem QG9 (s:Qc) (m:Int) (x t:List Int):sz (YM s m x t)≤sz s+100:=by
 unfold YM
 split
 ·rename_i h
  simp only [Qaw,Bool.and_eq_true] at h
  have h1:=QzE h.1.1.1
  have h2:=Qa6 h.1.1.2
  have h3:=Qh2 (sOps s) x
  have h4:=Qfh [] (Qy (sOps s) x).1 (sOps s).length
  have h5:sz (if QB s=true then List.take 1 (Qy (sOps s) x).1 else (Qy (sOps s) x).1)≤sz (Qy (sOps s) x).1:=by
   split
   ·exact Qnd _ _
   ·exact Nat.le_refl _
  have h6:sz (if Qw s=true then sY s else gtd [] (Qy (sOps s) x).1 (sOps s).length)≤sz (sY s)+sz (gtd [] (Qy (sOps s) x).1 (sOps s).length):=by
   split <;> ((try simp only [sPc,QD,sOps,Qw,QB,Qk,QJ,sX,sY,sG,sD,QF,QH,sSat,QO,QG,Qz,QA] at *);omega)
  have h7:(gtd [] (Qy (sOps s) x).1 (sOps s).length).length≤6:=by
   have:gtd [] (Qy (sOps s) x).1 (sOps s).length=ZI (sOps s) x:=rfl
   rw [this]
   have hv:∀ (ops:List TOp') (x:List Int),x.length≤6→(ZI ops x).length≤6:=by
    intro ops
    induction ops with
    | nil=>intro x hx;rw [QhO];exact hx
    | cons o r ih=>intro x hx;rw [QeN];exact ih _ (fwd6 o x)
   exact hv _ _ h2
  have h8:=Ja (gtd [] (Qy (sOps s) x).1 (sOps s).length)
  have e:sz ([]:List Int)=0:=rfl
  rw [Yk,Yk s]
  have e3:sz ([]:List Yg)=0:=rfl
  simp only [Qk,sX,Qej,Jw,QcS,Yc,e,e3]
  have e2:sz ([]:List Yg)=0:=rfl
  ((try simp only [sPc,QD,sOps,Qw,QB,Qk,QJ,sX,sY,sG,sD,QF,QH,sSat,QO,QG,Qz,QA] at *);omega)
 ·((try simp only [sPc,QD,sOps,Qw,QB,Qk,QJ,sX,sY,sG,sD,QF,QH,sSat,QO,QG,Qz,QA] at *);omega)
theorem QM9 (s:Qc) (m:Int):sz (Jl s m)≤sz s+100:=by
 unfold Jl
 simp only
 split
 ·rename_i h
  simp only [Bool.and_eq_true,decide_eq_true_eq] at h
  have h1:=QzE h.1
  have hf:=QjE (Qk s) m
  have hk:(QS (Qk s) m).toNat<(Qk s).length:=by ((try simp only [sPc,QD,sOps,Qw,QB,Qk,QJ,sX,sY,sG,sD,QF,QH,sSat,QO,QG,Qz,QA] at *);omega)
  have h2:=Qa6 (QAg h.1 (Qrv h.1 _ (JB hk Ya))).2.2
  have h3:=Qh2 (sOps s) (gtd [] (gtd Ya (Qk s) (QS (Qk s) m).toNat).2 0)
  rw [Yk,Yk s]
  ((try simp only [sPc,QD,sOps,Qw,QB,Qk,QJ,sX,sY,sG,sD,QF,QH,sSat,QO,QG,Qz,QA] at *);omega)
 ·((try simp only [sPc,QD,sOps,Qw,QB,Qk,QJ,sX,sY,sG,sD,QF,QH,sSat,QO,QG,Qz,QA] at *);omega)
theorem QIE (s:Qc) (m:Int) (t:List Int):sz (Z0 s m t)≤sz s+100:=by
 unfold Z0
 simp only
 split
 ·rename_i h
  simp only [QaR,Bool.and_eq_true] at h
  have h1:=Qa6 h.2
  have h2:=QL8 (sOps s) (YF s (QS (Qk s) m)) (bwdD s (QS (Qk s) m) t).1
  have h3:=QzR (sSum s).1 (QI (sOps s) (YF s (QS (Qk s) m)) (bwdD s (QS (Qk s) m) t).1).1
  have h4:=Qj6 (Qk s) (QS (Qk s) m).toNat
  have h5:sz (List.drop ((QS (Qk s) m).toNat+1) (Qk s))≤sz (List.drop (QS (Qk s) m).toNat (Qk s)):=by
   rw [← List.drop_drop];exact Qx7 _ _
  have h6:=Ja (QI (sOps s) (YF s (QS (Qk s) m)) (bwdD s (QS (Qk s) m) t).1).2.1
  have e:sz ([]:List Int)=0:=rfl
  have e2:sz ([]:List (List Int))=0:=rfl
  rw [Yk,Yk s]
  simp only [Qk,QJ,sG,QF,Qej,e,e2,Yl]
  ((try simp only [sPc,QD,sOps,Qw,QB,Qk,QJ,sX,sY,sG,sD,QF,QH,sSat,QO,QG,Qz,QA] at *);omega)
 ·((try simp only [sPc,QD,sOps,Qw,QB,Qk,QJ,sX,sY,sG,sD,QF,QH,sSat,QO,QG,Qz,QA] at *);omega)
theorem Qrx (q:Qe):sz (ZB q).1+sz (ZB q).2.1.2≤sz q:=by
 unfold ZB
 split
 ·rename_i h
  simp only [Bool.and_eq_true,decide_eq_true_eq] at h
  obtain ⟨c,l⟩:=q
  cases l with
  | nil=>simp at h
  | cons x l=>simp only [List.tail_cons,Qce,QcS,Yc,Jw];rw [YC x,Yc];((try simp only [sPc,QD,sOps,Qw,QB,Qk,QJ,sX,sY,sG,sD,QF,QH,sSat,QO,QG,Qz,QA] at *);omega)
 ·have:sz ([]:List Int)=0:=rfl
  simp only;((try simp only [sPc,QD,sOps,Qw,QB,Qk,QJ,sX,sY,sG,sD,QF,QH,sSat,QO,QG,Qz,QA] at *);omega)
theorem Qp8 (q:Qe) (x:ZJ):sz (YV q x).1≤sz q+1+sz x.2:=by
 unfold YV
 split
 ·have:sz ([]:List ZJ)=0:=rfl
  simp only [QcS,Qej,Jw,Yc]
  rw [YC q,Yc,YC x,Yc];((try simp only [sPc,QD,sOps,Qw,QB,Qk,QJ,sX,sY,sG,sD,QF,QH,sSat,QO,QG,Qz,QA] at *);omega)
 ·simp only;((try simp only [sPc,QD,sOps,Qw,QB,Qk,QJ,sX,sY,sG,sD,QF,QH,sSat,QO,QG,Qz,QA] at *);omega)
theorem QHI (p:Qd) (k:Nat) (x:Qc) (i:TIns):sz (Z7 p k x i).1+sz (Z7 p k x i).2.1+sz (Z7 p k x i).2.2≤sz x+sz (Qz p)+sz (QA p)+100:=by
 have e:sz ([]:List Int)=0:=rfl
 have ed:sz QW=0:=rfl
 unfold Z7
 simp only
 split
 ·have h1:=Qrx (gtd QW (Qz p) (k-1))
  have h2:=QdZ QW (ZB (gtd QW (Qz p) (k-1))).1 (Qz p) (k-1)
  have h3:sz (setX x (ZB (gtd QW (Qz p) (k-1))).2.1.2)≤sz x+sz (ZB (gtd QW (Qz p) (k-1))).2.1.2:=by
   rw [Yk,Yk x];simp only [setX];((try simp only [sPc,QD,sOps,Qw,QB,Qk,QJ,sX,sY,sG,sD,QF,QH,sSat,QO,QG,Qz,QA] at *);omega)
  simp only;((try simp only [sPc,QD,sOps,Qw,QB,Qk,QJ,sX,sY,sG,sD,QF,QH,sSat,QO,QG,Qz,QA] at *);omega)
 split
 ·have h:=QG9 x i.2 (if k=0 then (gtd Zl (QO p) i.2.toNat).1 else sX x) (gtd Zl (QO p) i.2.toNat).2
  simp only;((try simp only [sPc,QD,sOps,Qw,QB,Qk,QJ,sX,sY,sG,sD,QF,QH,sSat,QO,QG,Qz,QA] at *);omega)
 split
 ·have h1:=Qp8 (gtd QW (Qz p) k) (i.2,sY x)
  have h2:=QdZ QW (YV (gtd QW (Qz p) k) (i.2,sY x)).1 (Qz p) k
  have h3:sz (setY x [])+sz (sY x)=sz x:=by rw [Yk,Yk x];simp only [setY,e];((try simp only [sPc,QD,sOps,Qw,QB,Qk,QJ,sX,sY,sG,sD,QF,QH,sSat,QO,QG,Qz,QA] at *);omega)
  simp only at h1 ⊢;((try simp only [sPc,QD,sOps,Qw,QB,Qk,QJ,sX,sY,sG,sD,QF,QH,sSat,QO,QG,Qz,QA] at *);omega)
 split
 ·have h1:=Qrx (gtd QW (QA p) k)
  have h2:=QdZ QW (ZB (gtd QW (QA p) k)).1 (QA p) k
  have h3:sz (setG x (ZB (gtd QW (QA p) k)).2.1.2)≤sz x+sz (ZB (gtd QW (QA p) k)).2.1.2:=by
   rw [Yk,Yk x];simp only [setG];((try simp only [sPc,QD,sOps,Qw,QB,Qk,QJ,sX,sY,sG,sD,QF,QH,sSat,QO,QG,Qz,QA] at *);omega)
  simp only;((try simp only [sPc,QD,sOps,Qw,QB,Qk,QJ,sX,sY,sG,sD,QF,QH,sSat,QO,QG,Qz,QA] at *);omega)
 split
 ·have h:=QM9 x i.2
  simp only;((try simp only [sPc,QD,sOps,Qw,QB,Qk,QJ,sX,sY,sG,sD,QF,QH,sSat,QO,QG,Qz,QA] at *);omega)
 split
 ·have h:=QIE x i.2 (gtd Zl (QO p) i.2.toNat).2
  have h3:∀ y:Qc,sz (setD y [])≤sz y:=by intro y;rw [Yk,Yk y];simp only [setD,e];((try simp only [sPc,QD,sOps,Qw,QB,Qk,QJ,sX,sY,sG,sD,QF,QH,sSat,QO,QG,Qz,QA] at *);omega)
  have h4:=h3 (Z0 x i.2 (gtd Zl (QO p) i.2.toNat).2)
  simp only
  split <;> ((try simp only [sPc,QD,sOps,Qw,QB,Qk,QJ,sX,sY,sG,sD,QF,QH,sSat,QO,QG,Qz,QA] at *);omega)
 split
 ·have h1:=Qp8 (gtd QW (QA p) (k-1)) (i.2,sD x)
  have h2:=QdZ QW (YV (gtd QW (QA p) (k-1)) (i.2,sD x)).1 (QA p) (k-1)
  have h3:sz (setD x [])+sz (sD x)=sz x:=by rw [Yk,Yk x];simp only [setD,e];((try simp only [sPc,QD,sOps,Qw,QB,Qk,QJ,sX,sY,sG,sD,QF,QH,sSat,QO,QG,Qz,QA] at *);omega)
  simp only at h1 ⊢;((try simp only [sPc,QD,sOps,Qw,QB,Qk,QJ,sX,sY,sG,sD,QF,QH,sSat,QO,QG,Qz,QA] at *);omega)
 ·simp only;((try simp only [sPc,QD,sOps,Qw,QB,Qk,QJ,sX,sY,sG,sD,QF,QH,sSat,QO,QG,Qz,QA] at *);omega)
theorem Qy0 (p:Qd) (s:Int):sz (Z3 p s)≤sz p+100:=by
 unfold Z3
 split
 ·have h1:=QHI p s.toNat (gtd QL (QG p) s.toNat) (Qu p s)
  have h2:=QdZ QL (Yp (Z7 p s.toNat (gtd QL (QG p) s.toNat) (Qu p s)).1 (sPc (gtd QL (QG p) s.toNat)+1)) (QG p) s.toNat
  have h3:∀ (y:Qc) (v:Int),sz (Yp y v)=sz y:=by intro y v;rw [Yk,Yk y];rfl
  rw [h3] at h2
  have ed:sz QL=0:=rfl
  rw [Qeu,Qeu p]
  simp only
  ((try simp only [sPc,QD,sOps,Qw,QB,Qk,QJ,sX,sY,sG,sD,QF,QH,sSat,QO,QG,Qz,QA] at *);omega)
 ·((try simp only [sPc,QD,sOps,Qw,QB,Qk,QJ,sX,sY,sG,sD,QF,QH,sSat,QO,QG,Qz,QA] at *);omega)
theorem Qr2:∀ (n k:Nat) (p:Qd),sz (YY k n p)≤sz p+100*n
 | 0,k,p=>by simp [YY]
 | n+1,k,p=>by
  have h1:=Qr2 n (k+1) (Z3 p (Int.tmod (k:Int) (QG p).length))
  have h2:=Qy0 p (Int.tmod (k:Int) (QG p).length)
  simp only [YY];((try simp only [sPc,QD,sOps,Qw,QB,Qk,QJ,sX,sY,sG,sD,QF,QH,sSat,QO,QG,Qz,QA] at *);omega)
theorem QK2 (p:Qd) (n:Int):sz (Y6 p n)≤sz p+200000:=by
 unfold Y6
 split
 ·have:=Qr2 (min n.toNat 2000) 0 p
  ((try simp only [sPc,QD,sOps,Qw,QB,Qk,QJ,sX,sY,sG,sD,QF,QH,sSat,QO,QG,Qz,QA] at *);omega)
 ·((try simp only [sPc,QD,sOps,Qw,QB,Qk,QJ,sX,sY,sG,sD,QF,QH,sSat,QO,QG,Qz,QA] at *);omega)
end Go.Proofs.YtjbdljkhbglnhaaGreat.Am
namespace Go.Proofs.YtjbdljkhbglnhaaGreat.Am
open Go Sz
theorem Qz0 (a b:Int):decide (a≥b) = !decide (a<b):=by
 rw [Bool.eq_iff_iff];simp
theorem QqY {s:Qc} {m:Int} {x t:List Int} (h:¬ Qaw s m x t=true):YM s m x t=s:=by unfold YM;rw [if_neg h]
theorem QBj {s:Qc} {m:Int} (h:¬ (Q9 s&&decide (0≤QS (Qk s) m))=true):Jl s m=s:=by unfold Jl;simp only;rw [if_neg h]
theorem QQf {s:Qc} {m:Int} {t:List Int} (h:¬ QaR s (QS (Qk s) m) t=true):Z0 s m t=s:=by unfold Z0;simp only;rw [if_neg h]
theorem QJb (s:Qc) (m:Int) (x t:List Int):Qaw s m x t=(!(((!(Q9 s))||(!(Qt x (QZ (ZU s)))))||decide (QS s.2.2.2.2.2.1 m≥0))&&!(s.2.2.2.1&&(!(Qt t (Q3 (ZU s)))))):=by
 unfold Qaw
 rw [Qz0]
 show (Q9 s&&Qt x (QZ (ZU s))&&decide (QS s.2.2.2.2.2.1 m<0)&&(!s.2.2.2.1||Qt t (Q3 (ZU s))))=_
 cases Q9 s <;> cases Qt x (QZ (ZU s)) <;> cases decide (QS s.2.2.2.2.2.1 m<0) <;> cases s.2.2.2.1 <;> cases Qt t (Q3 (ZU s)) <;> rfl
theorem QqM (s:Qc) (m:Int):((!(Q9 s))||decide (QS s.2.2.2.2.2.1 m<0)) = !(Q9 s&&decide (0≤QS s.2.2.2.2.2.1 m)):=by
 have:=Qz0 (QS s.2.2.2.2.2.1 m) 0
 rw [show decide (0≤QS s.2.2.2.2.2.1 m)=decide (QS s.2.2.2.2.2.1 m≥0) from rfl,this]
 cases Q9 s <;> cases decide (QS s.2.2.2.2.2.1 m<0) <;> rfl
theorem QKx {s:Qc} {m:Int} {x t:List Int} (h:Qaw s m x t=true):YM s m x t =
  (sPc s,QD s,sOps s,Qw s,QB s,Qk s++[(m,if QB s then (Qy (sOps s) x).1.take 1 else (Qy (sOps s) x).1)],QJ s,[],(if Qw s then sY s else gtd [] (Qy (sOps s) x).1 (sOps s).length),sG s,sD s,QF s,
   (if Qw s then (Zi (QH s) (Yh (gtd [] (Qy (sOps s) x).1 (sOps s).length) t).1).1 else QH s),
   (sSat s||(Qy (sOps s) x).2||(Qw s&&((Yh (gtd [] (Qy (sOps s) x).1 (sOps s).length) t).2||(Zi (QH s) (Yh (gtd [] (Qy (sOps s) x).1 (sOps s).length) t).1).2)))):=by
 unfold YM;rw [if_pos h]
theorem QRA {s:Qc} {m:Int} {t:List Int} {rows:List (List Int)} {d:List Int} {b:Bool} (h:QaR s (QS (Qk s) m) t=true) (hr:rows=YF s (QS (Qk s) m)) (hd:(d,b)=bwdD s (QS (Qk s) m) t):Z0 s m t =
  (sPc s,QD s,sOps s,Qw s,QB s,(Qk s).take (QS (Qk s) m).toNat++(Qk s).drop ((QS (Qk s) m).toNat+1),[],sX s,sY s,[],(QI (sOps s) rows d).2.1,
   (Yl (sSum s) ((QI (sOps s) rows d).1,0,b||(QI (sOps s) rows d).2.2)).1,(Yl (sSum s) ((QI (sOps s) rows d).1,0,b||(QI (sOps s) rows d).2.2)).2.1,(Yl (sSum s) ((QI (sOps s) rows d).1,0,b||(QI (sOps s) rows d).2.2)).2.2):=by
 unfold Z0
 simp only
 rw [if_pos h,← hr,← hd]
theorem QlO (s:Qc) (k:Int) (t:List Int):QaR s k t=(Q9 s&&decide (0≤k)&&((YF s k).length==(sOps s).length+1)&&YE (sOps s) (YF s k) (sOps s).length&&Qt (bwdD s k t).1 (Q3 (sOps s))):=rfl
theorem QMg {α:Type} {l:List α} {k:Nat} (hk:k<l.length):List.take (k+(List.take (l.length-(k+1)) (List.drop (k+1) l)).length) (List.take k l++List.take (l.length-(k+1)) (List.drop (k+1) l))=List.take k l++List.drop (k+1) l:=by
 have e:List.take (l.length-(k+1)) (List.drop (k+1) l)=List.drop (k+1) l:=List.take_of_length_le (by simp)
 rw [e]
 exact List.take_of_length_le (by simp;omega)
theorem Qqh (f:Int→Int→Int) (x:List Int):∀ d:List Int,(d.flatMap fun a=>x.map (f a)).length=d.length*x.length
 | []=>by simp
 | a::d=>by rw [List.flatMap_cons,List.length_append,Qqh f x d,List.length_map,List.length_cons,Nat.add_mul];omega
theorem QAf (d x:List Int):(ZM d x).1.2.2.length≤36:=by
 unfold ZM
 split
 ·rename_i h
  simp only [Bool.and_eq_true] at h
  have h1:=vec6 h.1
  have h2:=vec6 h.2
  simp only
  rw [Qqh (fun a b=>(ZS a b).1) x d]
  exact Nat.le_trans (Nat.mul_le_mul h1 h2) (by omega)
 ·simp
theorem QLS (o:TOp') (x d:List Int):(YL o x d).2.1.length≤36:=by
 unfold YL
 split
 ·rename_i h
  simp only [Bool.and_eq_true] at h
  split
  ·exact QAf _ _
  ·split
   ·exact Nat.le_trans (Qa6 h.2) (by omega)
   ·split
    ·simp
    ·split
     ·exact QAf _ _
     ·simp
 ·simp
theorem Qzc:∀ (ops:List TOp') (rows:List (List Int)) (d:List Int),sz (QI ops rows d).1≤37*ops.length
 | [],rows,d=>by simp [QI]
 | o::os,[],d=>by simp only [QI];exact Nat.zero_le _
 | o::os,r::rs,d=>by
  have h1:=QLS o r (QI os rs d).2.1
  have h2:=Qzc os rs d
  simp only [QI,Jw,Ja,List.length_cons];omega
end Go.Proofs.YtjbdljkhbglnhaaGreat.Am
namespace Go.Proofs.YtjbdljkhbglnhaaGreat.Am
open Go Sz
theorem QkU {nb:Int}:∀ {l:List Qc},QaK nb l=true→∀ x,x∈l→Q9 x=true∧∀ i,i∈x.2.1→0≤i.2∧i.2<nb
 | [],_,x,hx=>by cases hx
 | s::r,h,x,hx=>by
  simp only [QaK,Bool.and_eq_true,List.all_eq_true,QR] at h
  rcases List.mem_cons.1 hx with rfl | hx
  ·exact ⟨h.1.1.1,fun i hi=>by have:=h.1.2 i hi;omega⟩
  ·exact QkU h.2 x hx
theorem QEW {p:Qd} {s:Int} (he:YH p s=true):∃ k:Nat,s=k∧k<p.2.1.length∧p.2.1.length≤4∧p.2.2.1.length+1=p.2.1.length∧p.2.2.2.length+1=p.2.1.length∧Q9 (gtd QL p.2.1 k)=true ∧
  0≤(Qu p s).2∧(Qu p s).2<p.1.length∧((Qu p s).1=1→0<k)∧((Qu p s).1=3→k+1<p.2.1.length)∧((Qu p s).1=4→k+1<p.2.1.length)∧((Qu p s).1=7→0<k) ∧
  ((Qu p s).1=1∨(Qu p s).1=2∨(Qu p s).1=3∨(Qu p s).1=4∨(Qu p s).1=5∨(Qu p s).1=6∨(Qu p s).1=7∨(Qu p s).1=8):=by
 simp only [YH,Bool.and_eq_true] at he
 obtain ⟨⟨h1,h2⟩,h3⟩:=he
 simp only [ZZ,Bool.and_eq_true,QR,beq_iff_eq] at h1
 have h2':=QR.1 h2
 obtain ⟨k,rfl⟩:=Int.eq_ofNat_of_zero_le h2'.1
 have hk:k<p.2.1.length:=by omega
 have hg:=QkU h1.2.2 _ (JB hk QL)
 have hkind:(Qu p (k:Int)).1=1∨(Qu p (k:Int)).1=2∨(Qu p (k:Int)).1=3∨(Qu p (k:Int)).1=4∨(Qu p (k:Int)).1=5∨(Qu p (k:Int)).1=6∨(Qu p (k:Int)).1=7∨(Qu p (k:Int)).1=8:=by
  generalize (Qu p (k:Int)).1=kd at h3
  unfold QaW at h3
  simp only at h3
  split at h3
  ·omega
  split at h3
  ·omega
  split at h3
  ·omega
  split at h3
  ·omega
  split at h3
  ·omega
  split at h3
  ·omega
  ·cases h3
 have hM:0≤(Qu p (k:Int)).2∧(Qu p (k:Int)).2<p.1.length:=by
  have hn:Qu p (k:Int)=QdA (gtd QL p.2.1 k):=by
   unfold Qu;rw [if_pos h2,Int.toNat_natCast]
  rw [hn] at hkind ⊢
  unfold QdA at hkind ⊢
  split
  ·rename_i hpc
   have hpc:=QR.1 hpc
   exact hg.2 _ (JB (by omega) dIns)
  ·rename_i hpc
   rw [if_neg hpc] at hkind
   simp at hkind
 refine ⟨k,rfl,hk,by omega,by omega,by omega,hg.1,hM.1,hM.2,?_,?_,?_,?_,hkind⟩
 all_goals
  intro hkd
  rw [hkd] at h3
  simp [QaW] at h3
  omega
theorem QD1 {p:Qd} {s:Int} (h:YH p s=false):Z3 p s=p:=by unfold Z3;rw [if_neg (by rw [h];simp)]
theorem QIv {p:Qd} {k:Nat} {x y:Qc} {a b:List Qe} (h:YH p (k:Int)=true) (hx:x=gtd QL p.2.1 k) (hy:Z7 p k x (Qu p (k:Int))=(y,a,b)) (hpc:y.1=x.1) :
  Z3 p (k:Int)=(p.1,p.2.1.set k (y.1+1,y.2),a,b):=by
 unfold Z3
 rw [if_pos h]
 simp only [Int.toNat_natCast]
 rw [show gtd QL (QG p) k=x from hx.symm,hy]
 simp only
 rw [hpc]
 rfl
theorem QIq (p:Qd) (s:Int):(Z3 p s).2.1.length=p.2.1.length:=by
 unfold Z3;split
 ·simp
 ·rfl
theorem QPh (s:Qc) (m:Int) (x t:List Int):(YM s m x t).1=s.1:=by unfold YM;split <;> rfl
theorem QJX (s:Qc) (m:Int):(Jl s m).1=s.1:=by unfold Jl;simp only;split <;> rfl
theorem Qqo (s:Qc) (m:Int) (t:List Int):(Z0 s m t).1=s.1:=by unfold Z0;simp only;split <;> rfl
theorem pi1 {p:Qd} {k:Nat} {x:Qc} {i:TIns} (h:i.1=1):Z7 p k x i=(setX x (ZB (gtd QW (Qz p) (k-1))).2.1.2,(Qz p).set (k-1) (ZB (gtd QW (Qz p) (k-1))).1,QA p):=by
 unfold Z7;simp only [h];simp
theorem pi2 {p:Qd} {k:Nat} {x:Qc} {i:TIns} (h:i.1=2):Z7 p k x i=(YM x i.2 (if k=0 then (gtd Zl (QO p) i.2.toNat).1 else sX x) (gtd Zl (QO p) i.2.toNat).2,Qz p,QA p):=by
 unfold Z7;simp only [h];simp
theorem pi3 {p:Qd} {k:Nat} {x:Qc} {i:TIns} (h:i.1=3):Z7 p k x i=(setY x [],(Qz p).set k (YV (gtd QW (Qz p) k) (i.2,sY x)).1,QA p):=by
 unfold Z7;simp only [h];simp
theorem pi4 {p:Qd} {k:Nat} {x:Qc} {i:TIns} (h:i.1=4):Z7 p k x i=(setG x (ZB (gtd QW (QA p) k)).2.1.2,Qz p,(QA p).set k (ZB (gtd QW (QA p) k)).1):=by
 unfold Z7;simp only [h];simp
theorem pi5 {p:Qd} {k:Nat} {x:Qc} {i:TIns} (h:i.1=5):Z7 p k x i=(Jl x i.2,Qz p,QA p):=by
 unfold Z7;simp only [h];simp
theorem pi6 {p:Qd} {k:Nat} {x:Qc} {i:TIns} (h:i.1=6):Z7 p k x i=((if k=0 then setD (Z0 x i.2 (gtd Zl (QO p) i.2.toNat).2) [] else Z0 x i.2 (gtd Zl (QO p) i.2.toNat).2),Qz p,QA p):=by
 unfold Z7;simp only [h];simp
theorem pi7 {p:Qd} {k:Nat} {x:Qc} {i:TIns} (h:i.1=7):Z7 p k x i=(setD x [],Qz p,(QA p).set (k-1) (YV (gtd QW (QA p) (k-1)) (i.2,sD x)).1):=by
 unfold Z7;simp only [h];simp
theorem pi8 {p:Qd} {k:Nat} {x:Qc} {i:TIns} (h:i.1=8):Z7 p k x i=(x,Qz p,QA p):=by
 unfold Z7;simp only [h];simp
theorem Qxk {m:Q5} (h:QM m=true):sz m≤296:=by
 have hl:=YZ h
 have hm:=Qyl h
 have:∀ l:List TOp',(∀ o,o∈l→Za o=true)→sz l≤37*l.length:=by
  intro l
  induction l with
  | nil=>intro _;exact Nat.zero_le _
  | cons o l ih =>
   intro hh
   have h1:=Qkr (hh o (List.mem_cons_self ..))
   have h2:=ih (fun y hy=>hh y (List.mem_cons_of_mem _ hy))
   have h3:=Ja o.2.2.2
   simp only [Jw,YC,Yc,List.length_cons]
   omega
 have:=this m hm
 omega
theorem QsQ {m:Q5} {b:List Qh} (h:ZP m b=true):sz b≤65:=by
 simp only [ZP,Bool.and_eq_true,QR,List.all_eq_true] at h
 have:∀ l:List Qh,(∀ o,o∈l→Y5 m o=true)→sz l≤13*l.length:=by
  intro l
  induction l with
  | nil=>intro _;exact Nat.zero_le _
  | cons o l ih =>
   intro hh
   have h1:=hh o (List.mem_cons_self ..)
   simp only [Y5,Bool.and_eq_true] at h1
   have h4:=Qa6 h1.1.2
   have h5:=Qa6 h1.2
   have h2:=ih (fun y hy=>hh y (List.mem_cons_of_mem _ hy))
   have h3:=Ja o.1
   have h6:=Ja o.2
   simp only [Jw,YC,List.length_cons]
   omega
 have:=this b h.2
 omega
theorem QO5 (l:List TIns):sz l=l.length:=QNg l (fun _=>rfl)
theorem QCw (ops:Q5) (plan:List TIns) (a b:Bool):sz (QaD ops plan a b)≤plan.length+600:=by
 unfold QaD
 split
 ·rename_i h
  have h1:=Qxk h
  have h2:=QoD h (QHE h)
  have h3:=QO5 plan
  have h4:sz (ZN ops).1≤sz (ZN ops):=by simp only [YC];omega
  have e0:sz ([]:List Int)=0:=rfl
  have e1:sz ([]:List (List Int))=0:=rfl
  have e2:sz ([]:List Yg)=0:=rfl
  rw [Yk]
  simp only [QD,sOps,Qk,QJ,sX,sY,sG,sD,QF,e0,e1,e2]
  omega
 ·exact Nat.zero_le _
theorem Qjz (c:Qo) (n micro:Int):∀ k:Nat,sz (Qaa c n micro k)≤700*k
 | 0=>Nat.zero_le _
 | k+1=>by
  have h:=Qjz c n micro k
  have e2:sz ([]:List Qc)=0:=rfl
  rw [Qaa,Qej,Jw,e2]
  have h1:=QCw (slice (Q0 c) (Qr (Q0 c) (Q8 c) k).1 (Qr (Q0 c) (Q8 c) k).2) (ZW (cDs c) n k micro (gtd false (J0 c) k)) (decide ((k:Int)=n-1)) (gtd false (J0 c) k)
  have h2:=QiP (cDs c) n k micro (gtd false (J0 c) k)
  omega
theorem Qtw:∀ l:List Int,sz (l.map fun n=>((n,[]):Qe))=l.length
 | []=>rfl
 | n::l=>by
  have e:sz ([]:List ZJ)=0:=rfl
  simp only [List.map_cons,Jw,QcS,Yc,Qtw l,e,List.length_cons];omega
theorem QRd (c:Qo) (b:List Qh):sz (Ys c b)≤10000:=by
 unfold Ys
 split
 ·rename_i h
  have A:=QkF h
  have hn:=QgE A
  have h1:=QsQ A.batch
  have h2:=Qjz c (QK c) b.length (QK c).toNat
  have h3:=Qh7 A
  have h4:=Qtw (JX c)
  have h5:=A.stages
  have h6:nSt c=(Q8 c).length+1:=rfl
  rw [Qeu]
  simp only [QO,QG,Qz,QA]
  omega
 ·exact Nat.zero_le _
end Go.Proofs.YtjbdljkhbglnhaaGreat.Am

