/- -/
import Derived.Test.YtdplaepmjogjjaaGreatVDGB
import Derived.Test.YtdplaepmjogjjaaGreatVDGC
set_option linter.all false
namespace Go.Proofs.YtdplaepmjogjjaaGreat.Am
open Go Sz
def QaP (s:Qc) (_:Int) (_:List Int):Prop:=sz s≤2147483648
theorem Qbh (s:Qc):sz s=sz (QG s)+sz (sOps s)+sz (Qn s)+sz (QI s)+sz (sX s)+sz (sY s)+sz (sG s)+sz (sD s)+sz (QF s):=by
 simp only [QZ,QK,Q0];((try simp only [sPc,QG,sOps,QC,QB,Qn,QI,sX,sY,sG,sD,QF,QJ,sSat,QN,QO,QM,QP] at *);omega)
theorem vec6 {v:List Int} (h:QA v=true):v.length≤6:=by
 simp only [QA,Bool.and_eq_true,Zw] at h;omega
theorem JO {v:List Int} {n:Int} (h:Qq v n=true):v.length≤6:=by
 simp only [Qq,Bool.and_eq_true] at h;exact vec6 h.1
theorem Qjn (f:Int→Int→Int × Bool):∀ (a b:List Int),(vz f a b).1.length≤a.length
 | [],b=>by simp [vz]
 | a::aa,[]=>by simp [vz]
 | a::aa,b::bb=>by simp only [vz,List.length_cons];have:=Qjn f aa bb;omega
theorem QpS (f:Int→Int × Bool):∀ (a:List Int),(v1 f a).1.length≤a.length
 | []=>by simp [v1]
 | a::aa=>by simp only [v1,List.length_cons];have:=QpS f aa;omega
theorem Qsv {a b:List Int} (h:Zd a b=true):a.length≤6:=by
 simp only [Zd,Bool.and_eq_true] at h;exact vec6 h.1
theorem QKb (a b:List Int):(Zb a b).1.length≤6:=by
 unfold Zb
 split
 ·rename_i h;have:=Qjn QV a b;have:=Qsv h;omega
 ·simp
theorem QEr (c:Int) (a:List Int):(Zc c a).1.length≤6:=by
 unfold Zc
 split
 ·rename_i h
  simp only [Bool.and_eq_true] at h
  have:=QpS (QW c) a;have:=vec6 h.2;omega
 ·simp
theorem QEN (x d:List Int):(Zu x d).length≤6:=by
 unfold Zu
 split
 ·rename_i h;have:=Qsv h;simp;omega
 ·simp
theorem QF2 (m:TMat) (x:List Int):(Q2 m x).1.length≤6:=by
 unfold Q2
 split
 ·rename_i h
  simp only [Bool.and_eq_true,Q9,Zw] at h
  simp;omega
 ·simp
theorem bwd6 (o:TOp') (x d:List Int):(ZA o x d).1.length≤6:=by
 unfold ZA
 split
 ·rename_i h
  simp only [Bool.and_eq_true] at h
  split
  ·exact QF2 _ _
  ·split
   ·exact JO h.2
   ·split
    ·exact QEr _ _
    ·split
     ·exact QKb _ _
     ·exact QEN _ _
 ·simp
theorem QKc:∀ (ops:List TOp') (rows:List (List Int)) (d:List Int),(Qy ops rows d).2.1.length≤6+d.length
 | [],rows,d=>by simp [Qy]
 | o::os,[],d=>by simp [Qy]
 | o::os,r::rs,d=>by simp only [Qy];have:=bwd6 o r (Qy os rs d).2.1;omega
theorem Qsx:∀ (a b:List (List Int)),sz (Zk a b).1≤sz a
 | [],b=>by simp [Zk]
 | a::aa,[]=>by simp only [Zk];exact Nat.zero_le _
 | a::aa,b::bb=>by
  have h1:=Qsx aa bb
  have h2:=Qjn QV a b
  simp only [Zk,QcJ,Z2];omega
theorem QbN {s:Qc} (h:QU s=true):QX (sOps s)=true:=by
 simp only [QU,Bool.and_eq_true] at h;exact h.1.1.1.1
theorem Qr7 {s:Qc} (h:QU s=true):(QF s).length=(sOps s).length∧Ya (sOps s) (QF s)=true:=by
 simp only [QU,Bool.and_eq_true,Z3,beq_iff_eq] at h;exact h.1.1.2
theorem Qti:∀ (l:List Qe) (m k:Int),0≤k→Yw l m k<k+l.length∧-1≤Yw l m k
 | [],m,k,hk=>by simp only [Yw,List.length_nil];omega
 | x::r,m,k,hk=>by
  have:=Qti r m (k+1) (by omega)
  simp only [Yw,List.length_cons]
  split <;> omega
theorem Qqu (l:List Qe) (m:Int):Qr l m<l.length∧-1≤Qr l m:=by
 have:=Qti l m 0 (Int.le_refl _)
 unfold Qr;omega
theorem QJ9 (s:Qc) (m:Int) (t:List Int):sz (Qu s m t)≤sz s+100:=by
 unfold Qu
 simp only
 split
 ·rename_i h
  simp only [ZT,Bool.and_eq_true] at h
  have h1:=JO h.2
  have h2:=QKc (sOps s) (Q4 s (Qr (Qn s) m)) (bwdD s (Qr (Qn s) m) t).1
  have h3:=Qsx (sSum s).1 (Qy (sOps s) (Q4 s (Qr (Qn s) m)) (bwdD s (Qr (Qn s) m) t).1).1
  have h4:=Qul (Qn s) (Qr (Qn s) m).toNat
  have h5:sz (List.drop ((Qr (Qn s) m).toNat+1) (Qn s))≤sz (List.drop (Qr (Qn s) m).toNat (Qn s)):=by
   rw [← List.drop_drop];exact QAv _ _
  have h6:=Z2 (Qy (sOps s) (Q4 s (Qr (Qn s) m)) (bwdD s (Qr (Qn s) m) t).1).2.1
  have e:sz ([]:List Int)=0:=rfl
  have e2:sz ([]:List (List Int))=0:=rfl
  rw [Qbh,Qbh s]
  simp only [Qn,QI,sG,QF,Qpb,e,e2,Ze]
  ((try simp only [sPc,QG,sOps,QC,QB,Qn,QI,sX,sY,sG,sD,QF,QJ,sSat,QN,QO,QM,QP] at *);omega)
 ·((try simp only [sPc,QG,sOps,QC,QB,Qn,QI,sX,sY,sG,sD,QF,QJ,sSat,QN,QO,QM,QP] at *);omega)
end Go.Proofs.YtdplaepmjogjjaaGreat.Am
namespace Go.Proofs.YtdplaepmjogjjaaGreat.Am
open Go Sz
theorem QFv (a b:Int):decide (a≥b) = !decide (a<b):=by
 rw [Bool.eq_iff_iff];simp
theorem Qpl {s:Qc} {m:Int} {t:List Int} (h:¬ ZT s (Qr (Qn s) m) t=true):Qu s m t=s:=by unfold Qu;simp only;rw [if_neg h]
theorem QJ1 {m:Zg} (h:QX m=true):Zi m=(gtd dOp m (m.length-1)).2.2.1:=by unfold Zi;rw [if_pos h]
theorem Qp3 (s:Qc) (m:Int):((!(QU s))||decide (Qr s.2.2.2.2.2.1 m<0)) = !(QU s&&decide (0≤Qr s.2.2.2.2.2.1 m)):=by
 have:=QFv (Qr s.2.2.2.2.2.1 m) 0
 rw [show decide (0≤Qr s.2.2.2.2.2.1 m)=decide (Qr s.2.2.2.2.2.1 m≥0) from rfl,this]
 cases QU s <;> cases decide (Qr s.2.2.2.2.2.1 m<0) <;> rfl
theorem QcM {s:Qc} {m:Int} {t:List Int} {rows:List (List Int)} {d:List Int} {b:Bool} (h:ZT s (Qr (Qn s) m) t=true) (hr:rows=Q4 s (Qr (Qn s) m)) (hd:(d,b)=bwdD s (Qr (Qn s) m) t):Qu s m t =
  (sPc s,QG s,sOps s,QC s,QB s,(Qn s).take (Qr (Qn s) m).toNat++(Qn s).drop ((Qr (Qn s) m).toNat+1),[],sX s,sY s,[],(Qy (sOps s) rows d).2.1,
   (Ze (sSum s) ((Qy (sOps s) rows d).1,0,b||(Qy (sOps s) rows d).2.2)).1,(Ze (sSum s) ((Qy (sOps s) rows d).1,0,b||(Qy (sOps s) rows d).2.2)).2.1,(Ze (sSum s) ((Qy (sOps s) rows d).1,0,b||(Qy (sOps s) rows d).2.2)).2.2):=by
 unfold Qu
 simp only
 rw [if_pos h,← hr,← hd]
theorem YL (s:Qc) (k:Int) (t:List Int):ZT s k t=(QU s&&decide (0≤k)&&((Q4 s k).length==(sOps s).length+1)&&Zs (sOps s) (Q4 s k) (sOps s).length&&Qq (bwdD s k t).1 (Zi (sOps s))):=rfl
theorem Qdi {α:Type} {l:List α} {k:Nat} (hk:k<l.length):List.take (k+(List.take (l.length-(k+1)) (List.drop (k+1) l)).length) (List.take k l++List.take (l.length-(k+1)) (List.drop (k+1) l))=List.take k l++List.drop (k+1) l:=by
 have e:List.take (l.length-(k+1)) (List.drop (k+1) l)=List.drop (k+1) l:=List.take_of_length_le (by simp)
 rw [e]
 exact List.take_of_length_le (by simp;omega)
theorem QuO (f:Int→Int→Int) (x:List Int):∀ d:List Int,(d.flatMap fun a=>x.map (f a)).length=d.length*x.length
 | []=>by simp
 | a::d=>by rw [List.flatMap_cons,List.length_append,QuO f x d,List.length_map,List.length_cons,Nat.add_mul];omega
theorem Qqt (d x:List Int):(QS d x).1.2.2.length≤36:=by
 unfold QS
 split
 ·rename_i h
  simp only [Bool.and_eq_true] at h
  have h1:=vec6 h.1
  have h2:=vec6 h.2
  simp only
  rw [QuO (fun a b=>(QW a b).1) x d]
  exact Nat.le_trans (Nat.mul_le_mul h1 h2) (by omega)
 ·simp
theorem QAQ (o:TOp') (x d:List Int):(ZA o x d).2.1.length≤36:=by
 unfold ZA
 split
 ·rename_i h
  simp only [Bool.and_eq_true] at h
  split
  ·exact Qqt _ _
  ·split
   ·exact Nat.le_trans (JO h.2) (by omega)
   ·split
    ·simp
    ·split
     ·exact Qqt _ _
     ·simp
 ·simp
theorem Qbx:∀ (ops:List TOp') (rows:List (List Int)) (d:List Int),sz (Qy ops rows d).1≤37*ops.length
 | [],rows,d=>by simp [Qy]
 | o::os,[],d=>by simp only [Qy];exact Nat.zero_le _
 | o::os,r::rs,d=>by
  have h1:=QAQ o r (Qy os rs d).2.1
  have h2:=Qbx os rs d
  simp only [Qy,QcJ,Z2,List.length_cons];omega
theorem QDb {ops:List TOp'} {rows:List (List Int)} {k:Nat} (hk:k<ops.length) (hr:k<rows.length) :
  Z7 ops k ((rows.drop k).take (ops.length-k))=(Qq (gtd [] rows k) (gtd dOp ops k).2.1&&Z7 ops (k+1) ((rows.drop (k+1)).take (ops.length-(k+1)))):=by
 rw [List.drop_eq_getElem_cons hr,show ops.length-k=(ops.length-(k+1))+1 by omega,List.take_succ_cons,Z7]
 have:gtd [] rows k=rows[k]:=QBC (List.getElem?_eq_getElem hr) _
 rw [← this]
 unfold Yx
 rw [if_pos hk]
end Go.Proofs.YtdplaepmjogjjaaGreat.Am
namespace Go.Proofs.YtdplaepmjogjjaaGreat.Am
open Go Sz
end Go.Proofs.YtdplaepmjogjjaaGreat.Am

