/- -/
import Derived.Test.YtdplaepmjogjjaaGreatVAGB
import Derived.Test.YtdplaepmjogjjaaGreatVAGC
set_option linter.all false
namespace Go.Proofs.YtdplaepmjogjjaaGreat.Am
open Go Sz
def Qaf (s:Qc) (_:Int):Prop:=sz s≤2147483648
theorem QdE (s:Qc):sz s=sz (QZ s)+sz (sOps s)+sz (QD s)+sz (Zb s)+sz (sX s)+sz (sY s)+sz (sG s)+sz (sD s)+sz (Q4 s):=by
 simp only [QL,QI,QS];((try simp only [sPc,QZ,sOps,Za,Q8,QD,Zb,sX,sY,sG,sD,Q4,Zc,sSat,Ze,Zh,Zg,Zk] at *);omega)
theorem vec6 {v:List Int} (h:QE v=true):v.length≤6:=by
 simp only [QE,Bool.and_eq_true,Zf] at h;omega
theorem Qot {v:List Int} {n:Int} (h:Qx v n=true):v.length≤6:=by
 simp only [Qx,Bool.and_eq_true] at h;exact vec6 h.1
theorem Qkw (f:Int→Int→Int × Bool):∀ (a b:List Int),(vz f a b).1.length≤a.length
 | [],b=>by simp [vz]
 | a::aa,[]=>by simp [vz]
 | a::aa,b::bb=>by simp only [vz,List.length_cons];have:=Qkw f aa bb;omega
theorem Qqg (f:Int→Int × Bool):∀ (a:List Int),(v1 f a).1.length≤a.length
 | []=>by simp [v1]
 | a::aa=>by simp only [v1,List.length_cons];have:=Qqg f aa;omega
theorem QDo {a b:List Int} (h:Zp a b=true):a.length≤6:=by
 simp only [Zp,Bool.and_eq_true] at h;exact vec6 h.1
theorem QmL (a b:List Int):(QH a b).1.length≤6:=by
 unfold QH
 split
 ·rename_i h;have:=Qkw Q7 a b;have:=QDo h;omega
 ·simp
theorem QF3 (c:Int) (a:List Int):(QV c a).1.length≤6:=by
 unfold QV
 split
 ·rename_i h
  simp only [Bool.and_eq_true] at h
  have:=Qqg (Q2 c) a;have:=vec6 h.2;omega
 ·simp
theorem QuU (a:List Int):(Q6 a).length≤6:=by
 unfold Q6
 split
 ·rename_i h;simp;exact vec6 h
 ·simp
theorem Qzz (m:TMat) (x:List Int):(Qz m x).1.length≤6:=by
 unfold Qz
 split
 ·rename_i h
  simp only [Bool.and_eq_true,Zn,Zf] at h
  simp;omega
 ·simp
theorem fwd6 (o:TOp') (x:List Int):(Zo o x).1.length≤6:=by
 unfold Zo
 split
 ·split
  ·exact Qzz _ _
  ·split
   ·exact QmL _ _
   ·split
    ·exact QF3 _ _
    ·split
     ·exact QmL _ _
     ·exact QuU _
 ·simp
theorem QrM:∀ (ops:List TOp') (x:List Int),sz (QW ops x).1≤1+x.length+7*ops.length
 | [],x=>by simp only [QW,QcP,YA,List.length_nil];have:sz ([]:List (List Int))=0:=rfl;omega
 | o::r,x=>by
  have h1:=QrM r (Zo o x).1
  have h2:=fwd6 o x
  simp only [QW,QcP,YA,List.length_cons];omega
theorem QeA {s:Qc} (h:QB s=true):QF (sOps s)=true:=by
 simp only [QB,Bool.and_eq_true] at h;exact h.1.1.1.1
theorem Qz2 {s:Qc} (h:QB s=true):(sOps s).length≤8:=(Ja (QeA h)).2
theorem QiJ {s:Qc} (h:QB s=true):∀ x,x∈QD s→Zu s x=true:=by
 simp only [QB,Bool.and_eq_true,List.all_eq_true] at h;exact h.1.2
theorem QhT {s:Qc} {x:Qd} (h:QB s=true) (hx:Zu s x=true):1≤x.2.length∧(x.2.length:Int)=Q0 s∧Qx (gtd [] x.2 0) (Zw (sOps s))=true:=by
 simp only [Zu,Bool.and_eq_true,beq_iff_eq] at hx
 obtain ⟨h1,h2⟩:=hx
 have h3:1≤x.2.length:=by unfold Q0 at h1;split at h1 <;> omega
 refine ⟨h3,h1,?_⟩
 unfold Z2 at h2
 rw [← h1,Int.toNat_natCast,List.take_length] at h2
 cases hr:x.2 with
 | nil=>rw [hr] at h3;simp at h3
 | cons r rs =>
  rw [hr] at h2
  simp only [Yo,Bool.and_eq_true] at h2
  have hm:=QeA h
  have hl:=Ja hm
  have:Z0 (sOps s) 0=Zw (sOps s):=by
   unfold Z0 Zw
   rw [if_pos (by omega),if_pos hm]
  rw [Qn4,← this]
  exact h2.1
theorem Qln:∀ (l:List Qd) (m k:Int),0≤k→Yk l m k<k+l.length∧-1≤Yk l m k
 | [],m,k,hk=>by simp only [Yk,List.length_nil];omega
 | x::r,m,k,hk=>by
  have:=Qln r m (k+1) (by omega)
  simp only [Yk,List.length_cons]
  split <;> omega
theorem Qjt (l:List Qd) (m:Int):QR l m<l.length∧-1≤QR l m:=by
 have:=Qln l m 0 (Int.le_refl _)
 unfold QR;omega
theorem Qzr (s:Qc) (m:Int):sz (Qs s m)≤sz s+100:=by
 unfold Qs
 simp only
 split
 ·rename_i h
  simp only [Bool.and_eq_true,decide_eq_true_eq] at h
  have h1:=Qz2 h.1
  have hf:=Qjt (QD s) m
  have hk:(QR (QD s) m).toNat<(QD s).length:=by ((try simp only [sPc,QZ,sOps,Za,Q8,QD,Zb,sX,sY,sG,sD,Q4,Zc,sSat,Ze,Zh,Zg,Zk] at *);omega)
  have h2:=Qot (QhT h.1 (QiJ h.1 _ (Qji hk Qu))).2.2
  have h3:=QrM (sOps s) (gtd [] (gtd Qu (QD s) (QR (QD s) m).toNat).2 0)
  rw [QdE,QdE s]
  ((try simp only [sPc,QZ,sOps,Za,Q8,QD,Zb,sX,sY,sG,sD,Q4,Zc,sSat,Ze,Zh,Zg,Zk] at *);omega)
 ·((try simp only [sPc,QZ,sOps,Za,Q8,QD,Zb,sX,sY,sG,sD,Q4,Zc,sSat,Ze,Zh,Zg,Zk] at *);omega)
end Go.Proofs.YtdplaepmjogjjaaGreat.Am
namespace Go.Proofs.YtdplaepmjogjjaaGreat.Am
open Go Sz
theorem QE4 (a b:Int):decide (a≥b) = !decide (a<b):=by
 rw [Bool.eq_iff_iff];simp
theorem QlG {s:Qc} {m:Int} (h:¬ (QB s&&decide (0≤QR (QD s) m))=true):Qs s m=s:=by unfold Qs;simp only;rw [if_neg h]
theorem QmR (s:Qc) (m:Int):((!(QB s))||decide (QR s.2.2.2.2.2.1 m<0)) = !(QB s&&decide (0≤QR s.2.2.2.2.2.1 m)):=by
 have:=QE4 (QR s.2.2.2.2.2.1 m) 0
 rw [show decide (0≤QR s.2.2.2.2.2.1 m)=decide (QR s.2.2.2.2.2.1 m≥0) from rfl,this]
 cases QB s <;> cases decide (QR s.2.2.2.2.2.1 m<0) <;> rfl
end Go.Proofs.YtdplaepmjogjjaaGreat.Am
namespace Go.Proofs.YtdplaepmjogjjaaGreat.Am
open Go Sz
end Go.Proofs.YtdplaepmjogjjaaGreat.Am

