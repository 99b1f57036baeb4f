/- -/
import Derived.Test.YtjbdljkhbglnhaaGreatZJGB
import Derived.Test.YtjbdljkhbglnhaaGreatZJGC
set_option linter.all false
namespace Go.Proofs.YtjbdljkhbglnhaaGreat.Am
open Go Sz
def Qfq (ops:Q6) (plan:List TIns) (_ _:Bool):Prop:=sz ops≤2147483648∧plan.length≤2147483648
def JH (s:Qb) (_:Int) (_ _:List Int):Prop:=sz s≤2147483648
def Qa6 (s:Qb) (_:Int):Prop:=sz s≤2147483648
def JR (s:Qb) (_:Int) (_:List Int):Prop:=sz s≤2147483648
theorem ZB (s:Qb):sz s=sz (Qx s)+sz (sOps s)+sz (Qd s)+sz (QB s)+sz (sX s)+sz (sY s)+sz (sG s)+sz (sD s)+sz (Qr s):=by
 simp only [Yz,Ym,YY];((try simp only [sPc,Qx,sOps,Qq,Qt,Qd,QB,sX,sY,sG,sD,Qr,Qw,sSat,QG,QJ,QH,QI] at *);omega)
theorem QyX (m:Q6):(Z0 m).2=(0,false):=by unfold Z0;split <;> rfl
theorem Qil {α:Type} [Sz α] (d:α) (l:List α) (i:Nat):sz (gtd d l i)≤sz l+sz d:=by
 by_cases h:i<l.length
 ·have:=Qq4 (JZ h d);omega
 ·have:gtd d l i=d:=by simp [gtd,List.getD_eq_getElem?_getD,List.getElem?_eq_none (Nat.le_of_not_lt h)]
  rw [this];omega
theorem vec6 {v:List Int} (h:Qu v=true):v.length≤6:=by
 simp only [Qu,Bool.and_eq_true,Zh] at h;omega
theorem YO {v:List Int} {n:Int} (h:Qf v n=true):v.length≤6:=by
 simp only [Qf,Bool.and_eq_true] at h;exact vec6 h.1
theorem QgD (f:Int→Int→Int × Bool):∀ (a b:List Int),(vz f a b).1.length≤a.length
 | [],b=>by simp [vz]
 | a::aa,[]=>by simp [vz]
 | a::aa,b::bb=>by simp only [vz,List.length_cons];have:=QgD f aa bb;omega
theorem Qqj (f:Int→Int × Bool):∀ (a:List Int),(v1 f a).1.length≤a.length
 | []=>by simp [v1]
 | a::aa=>by simp only [v1,List.length_cons];have:=Qqj f aa;omega
theorem Qqs {a b:List Int} (h:Ze a b=true):a.length≤6:=by
 simp only [Ze,Bool.and_eq_true] at h;exact vec6 h.1
theorem Qhd (a b:List Int):(QZ a b).1.length≤6:=by
 unfold QZ
 split
 ·rename_i h;have:=QgD QT a b;have:=Qqs h;omega
 ·simp
theorem Qux (c:Int) (a:List Int):(Za c a).1.length≤6:=by
 unfold Za
 split
 ·rename_i h
  simp only [Bool.and_eq_true] at h
  have:=Qqj (Q2 c) a;have:=vec6 h.2;omega
 ·simp
theorem QEL (a:List Int):(ZH a).length≤6:=by
 unfold ZH
 split
 ·rename_i h;simp;exact vec6 h
 ·simp
theorem QAv (x d:List Int):(ZJ x d).length≤6:=by
 unfold ZJ
 split
 ·rename_i h;have:=Qqs h;simp;omega
 ·simp
theorem QD3 (m:TMat) (x:List Int):(Q0 m x).1.length≤6:=by
 unfold Q0
 split
 ·rename_i h
  simp only [Bool.and_eq_true,Q7,Zh] at h
  simp;omega
 ·simp
theorem QIK (m:TMat) (x:List Int):(Q4 m x).1.length≤6:=by
 unfold Q4
 split
 ·rename_i h
  simp only [Bool.and_eq_true,Q7,Zh] at h
  simp;omega
 ·simp
theorem fwd6 (o:TOp') (x:List Int):(ZP o x).1.length≤6:=by
 unfold ZP
 split
 ·split
  ·exact QD3 _ _
  ·split
   ·exact Qhd _ _
   ·split
    ·exact Qux _ _
    ·split
     ·exact Qhd _ _
     ·exact QEL _
 ·simp
theorem bwd6 (o:TOp') (x d:List Int):(ZG o x d).1.length≤6:=by
 unfold ZG
 split
 ·rename_i h
  simp only [Bool.and_eq_true] at h
  split
  ·exact QIK _ _
  ·split
   ·exact YO h.2
   ·split
    ·exact Qux _ _
    ·split
     ·exact Qhd _ _
     ·exact QAv _ _
 ·simp
theorem QxU:∀ (ops:List TOp') (rows:List (List Int)) (d:List Int),(QD ops rows d).2.1.length≤6+d.length
 | [],rows,d=>by simp [QD]
 | o::os,[],d=>by simp [QD]
 | o::os,r::rs,d=>by simp only [QD];have:=bwd6 o r (QD os rs d).2.1;omega
theorem Qck:∀ (ops:List TOp') (x:List Int),sz (Qp ops x).1≤1+x.length+7*ops.length
 | [],x=>by simp only [Qp,QaH,ZF,List.length_nil];have:sz ([]:List (List Int))=0:=rfl;omega
 | o::r,x=>by
  have h1:=Qck r (ZP o x).1
  have h2:=fwd6 o x
  simp only [Qp,QaH,ZF,List.length_cons];omega
theorem Qu4:∀ (a b:List (List Int)),sz (Zl a b).1≤sz a
 | [],b=>by simp [Zl]
 | a::aa,[]=>by simp only [Zl];exact Nat.zero_le _
 | a::aa,b::bb=>by
  have h1:=Qu4 aa bb
  have h2:=QgD QT a b
  simp only [Zl,QaH,ZF];omega
theorem Yg {s:Qb} (h:Qv s=true):QC (sOps s)=true:=by
 simp only [Qv,Bool.and_eq_true] at h;exact h.1.1.1.1
theorem QpT {s:Qb} (h:Qv s=true):(sOps s).length≤8:=(Zw (Yg h)).2
theorem Qjv {s:Qb} (h:Qv s=true):∀ x,x∈Qd s→Z3 s x=true:=by
 simp only [Qv,Bool.and_eq_true,List.all_eq_true] at h;exact h.1.2
theorem QtQ {s:Qb} (h:Qv s=true):(Qr s).length=(sOps s).length∧Z8 (sOps s) (Qr s)=true:=by
 simp only [Qv,Bool.and_eq_true,Yl,beq_iff_eq] at h;exact h.1.1.2
theorem Qkz {s:Qb} {x:Q5} (h:Qv s=true) (hx:Z3 s x=true):1≤x.2.length∧(x.2.length:Int)=Zz s∧Qf (gtd [] x.2 0) (QV (sOps s))=true:=by
 simp only [Z3,Bool.and_eq_true,beq_iff_eq] at hx
 obtain ⟨h1,h2⟩:=hx
 have h3:1≤x.2.length:=by unfold Zz at h1;split at h1 <;> omega
 refine ⟨h3,h1,?_⟩
 unfold ZK at h2
 rw [← h1,Int.toNat_natCast,List.take_length] at h2
 cases hr:x.2 with
 | nil=>rw [hr] at h3;simp at h3
 | cons r rs =>
  rw [hr] at h2
  simp only [Zp,Bool.and_eq_true] at h2
  have hm:=Yg h
  have hl:=Zw hm
  have:Ye (sOps s) 0=QV (sOps s):=by
   unfold Ye QV
   rw [if_pos (by omega),if_pos hm]
  rw [Qly,← this]
  exact h2.1
theorem QsN:∀ (l:List Q5) (m k:Int),0≤k→YH l m k<k+l.length∧-1≤YH l m k
 | [],m,k,hk=>by simp only [YH,List.length_nil];omega
 | x::r,m,k,hk=>by
  have:=QsN r m (k+1) (by omega)
  simp only [YH,List.length_cons]
  split <;> omega
theorem Qcy (l:List Q5) (m:Int):Qo l m<l.length∧-1≤Qo l m:=by
 have:=QsN l m 0 (Int.le_refl _)
 unfold Qo;omega
theorem Qjh (s:Qb) (m:Int) (x t:List Int):sz (ZM s m x t)≤sz s+100:=by
 unfold ZM
 split
 ·rename_i h
  simp only [Yr,Bool.and_eq_true] at h
  have h1:=QpT h.1.1.1
  have h2:=YO h.1.1.2
  have h3:=Qck (sOps s) x
  have h4:=Qil [] (Qp (sOps s) x).1 (sOps s).length
  have h5:sz (if Qt s=true then List.take 1 (Qp (sOps s) x).1 else (Qp (sOps s) x).1)≤sz (Qp (sOps s) x).1:=by
   split
   ·exact Qi6 _ _
   ·exact Nat.le_refl _
  have h6:sz (if Qq s=true then sY s else gtd [] (Qp (sOps s) x).1 (sOps s).length)≤sz (sY s)+sz (gtd [] (Qp (sOps s) x).1 (sOps s).length):=by
   split <;> ((try simp only [sPc,Qx,sOps,Qq,Qt,Qd,QB,sX,sY,sG,sD,Qr,Qw,sSat,QG,QJ,QH,QI] at *);omega)
  have h7:(gtd [] (Qp (sOps s) x).1 (sOps s).length).length≤6:=by
   have:gtd [] (Qp (sOps s) x).1 (sOps s).length=YD (sOps s) x:=rfl
   rw [this]
   have hv:∀ (ops:List TOp') (x:List Int),x.length≤6→(YD ops x).length≤6:=by
    intro ops
    induction ops with
    | nil=>intro x hx;rw [QpW];exact hx
    | cons o r ih=>intro x hx;rw [Qm9];exact ih _ (fwd6 o x)
   exact hv _ _ h2
  have h8:=ZF (gtd [] (Qp (sOps s) x).1 (sOps s).length)
  have e:sz ([]:List Int)=0:=rfl
  rw [ZB,ZB s]
  have e3:sz ([]:List Q5)=0:=rfl
  simp only [Qd,sX,QiF,QaH,QkD,Ym,e,e3]
  have e2:sz ([]:List Q5)=0:=rfl
  ((try simp only [sPc,Qx,sOps,Qq,Qt,Qd,QB,sX,sY,sG,sD,Qr,Qw,sSat,QG,QJ,QH,QI] at *);omega)
 ·((try simp only [sPc,Qx,sOps,Qq,Qt,Qd,QB,sX,sY,sG,sD,Qr,Qw,sSat,QG,QJ,QH,QI] at *);omega)
theorem Qsc (s:Qb) (m:Int):sz (Z1 s m)≤sz s+100:=by
 unfold Z1
 simp only
 split
 ·rename_i h
  simp only [Bool.and_eq_true,decide_eq_true_eq] at h
  have h1:=QpT h.1
  have hf:=Qcy (Qd s) m
  have hk:(Qo (Qd s) m).toNat<(Qd s).length:=by ((try simp only [sPc,Qx,sOps,Qq,Qt,Qd,QB,sX,sY,sG,sD,Qr,Qw,sSat,QG,QJ,QH,QI] at *);omega)
  have h2:=YO (Qkz h.1 (Qjv h.1 _ (JZ hk Zb))).2.2
  have h3:=Qck (sOps s) (gtd [] (gtd Zb (Qd s) (Qo (Qd s) m).toNat).2 0)
  rw [ZB,ZB s]
  ((try simp only [sPc,Qx,sOps,Qq,Qt,Qd,QB,sX,sY,sG,sD,Qr,Qw,sSat,QG,QJ,QH,QI] at *);omega)
 ·((try simp only [sPc,Qx,sOps,Qq,Qt,Qd,QB,sX,sY,sG,sD,Qr,Qw,sSat,QG,QJ,QH,QI] at *);omega)
theorem Qyb (s:Qb) (m:Int) (t:List Int):sz (Zg s m t)≤sz s+100:=by
 unfold Zg
 simp only
 split
 ·rename_i h
  simp only [YR,Bool.and_eq_true] at h
  have h1:=YO h.2
  have h2:=QxU (sOps s) (Zt s (Qo (Qd s) m)) (bwdD s (Qo (Qd s) m) t).1
  have h3:=Qu4 (sSum s).1 (QD (sOps s) (Zt s (Qo (Qd s) m)) (bwdD s (Qo (Qd s) m) t).1).1
  have h4:=Qja (Qd s) (Qo (Qd s) m).toNat
  have h5:sz (List.drop ((Qo (Qd s) m).toNat+1) (Qd s))≤sz (List.drop (Qo (Qd s) m).toNat (Qd s)):=by
   rw [← List.drop_drop];exact QqO _ _
  have h6:=ZF (QD (sOps s) (Zt s (Qo (Qd s) m)) (bwdD s (Qo (Qd s) m) t).1).2.1
  have e:sz ([]:List Int)=0:=rfl
  have e2:sz ([]:List (List Int))=0:=rfl
  rw [ZB,ZB s]
  simp only [Qd,QB,sG,Qr,QiF,e,e2,Zo]
  ((try simp only [sPc,Qx,sOps,Qq,Qt,Qd,QB,sX,sY,sG,sD,Qr,Qw,sSat,QG,QJ,QH,QI] at *);omega)
 ·((try simp only [sPc,Qx,sOps,Qq,Qt,Qd,QB,sX,sY,sG,sD,Qr,Qw,sSat,QG,QJ,QH,QI] at *);omega)
end Go.Proofs.YtjbdljkhbglnhaaGreat.Am
namespace Go.Proofs.YtjbdljkhbglnhaaGreat.Am
open Go Sz
theorem Qjf (a b:Int):decide (a≥b) = !decide (a<b):=by
 rw [Bool.eq_iff_iff];simp
theorem Qh8 {s:Qb} {m:Int} {x t:List Int} (h:¬ Yr s m x t=true):ZM s m x t=s:=by unfold ZM;rw [if_neg h]
theorem QsR {s:Qb} {m:Int} (h:¬ (Qv s&&decide (0≤Qo (Qd s) m))=true):Z1 s m=s:=by unfold Z1;simp only;rw [if_neg h]
theorem Qql {s:Qb} {m:Int} {t:List Int} (h:¬ YR s (Qo (Qd s) m) t=true):Zg s m t=s:=by unfold Zg;simp only;rw [if_neg h]
theorem Qhe {m:Q6} (h:QC m=true):QV m=(gtd dOp m 0).2.1:=by unfold QV;rw [if_pos h]
theorem Qk3 {m:Q6} (h:QC m=true):QP m=(gtd dOp m (m.length-1)).2.2.1:=by unfold QP;rw [if_pos h]
theorem Qre (s:Qb) (m:Int) (x t:List Int):Yr s m x t=(!(((!(Qv s))||(!(Qf x (QV (Zk s)))))||decide (Qo s.2.2.2.2.2.1 m≥0))&&!(s.2.2.2.1&&(!(Qf t (QP (Zk s)))))):=by
 unfold Yr
 rw [Qjf]
 show (Qv s&&Qf x (QV (Zk s))&&decide (Qo s.2.2.2.2.2.1 m<0)&&(!s.2.2.2.1||Qf t (QP (Zk s))))=_
 cases Qv s <;> cases Qf x (QV (Zk s)) <;> cases decide (Qo s.2.2.2.2.2.1 m<0) <;> cases s.2.2.2.1 <;> cases Qf t (QP (Zk s)) <;> rfl
theorem QBj (s:Qb) (m:Int) (x t:List Int) (k:Nat) (hk:Qv s=true→k=s.2.2.1.length-1) :
  (((((!(Qv s))||(!(Qu x)))||((x.length:Int) != ((gtd dOp s.2.2.1 0).2.1)))||decide (Qo s.2.2.2.2.2.1 m≥0))||(s.2.2.2.1&&((!(Qu t))||((t.length:Int) != ((gtd dOp s.2.2.1 k).2.2.1))))) = !Yr s m x t:=by
 rw [Qre,Qjf]
 cases hs:Qv s
 ·rfl
 ·have hm:=Yg hs
  rw [hk hs,show Zk s=s.2.2.1 from rfl,Qhe hm,Qk3 hm]
  unfold Qf
  simp only [bne]
  cases Qu x <;> cases ((x.length:Int)==(gtd dOp s.2.2.1 0).2.1) <;> cases decide (Qo s.2.2.2.2.2.1 m<0) <;> cases s.2.2.2.1 <;> cases Qu t <;> cases ((t.length:Int)==(gtd dOp s.2.2.1 (s.2.2.1.length-1)).2.2.1) <;> rfl
theorem Qec (s:Qb) (m:Int):((!(Qv s))||decide (Qo s.2.2.2.2.2.1 m<0)) = !(Qv s&&decide (0≤Qo s.2.2.2.2.2.1 m)):=by
 have:=Qjf (Qo s.2.2.2.2.2.1 m) 0
 rw [show decide (0≤Qo s.2.2.2.2.2.1 m)=decide (Qo s.2.2.2.2.2.1 m≥0) from rfl,this]
 cases Qv s <;> cases decide (Qo s.2.2.2.2.2.1 m<0) <;> rfl
theorem Qef {s:Qb} {m:Int} {x t:List Int} (h:Yr s m x t=true):ZM s m x t =
  (sPc s,Qx s,sOps s,Qq s,Qt s,Qd s++[(m,if Qt s then (Qp (sOps s) x).1.take 1 else (Qp (sOps s) x).1)],QB s,[],(if Qq s then sY s else gtd [] (Qp (sOps s) x).1 (sOps s).length),sG s,sD s,Qr s,
   (if Qq s then (QT (Qw s) (ZS (gtd [] (Qp (sOps s) x).1 (sOps s).length) t).1).1 else Qw s),
   (sSat s||(Qp (sOps s) x).2||(Qq s&&((ZS (gtd [] (Qp (sOps s) x).1 (sOps s).length) t).2||(QT (Qw s) (ZS (gtd [] (Qp (sOps s) x).1 (sOps s).length) t).1).2)))):=by
 unfold ZM;rw [if_pos h]
theorem QgF {s:Qb} {m:Int} {t:List Int} {rows:List (List Int)} {d:List Int} {b:Bool} (h:YR s (Qo (Qd s) m) t=true) (hr:rows=Zt s (Qo (Qd s) m)) (hd:(d,b)=bwdD s (Qo (Qd s) m) t):Zg s m t =
  (sPc s,Qx s,sOps s,Qq s,Qt s,(Qd s).take (Qo (Qd s) m).toNat++(Qd s).drop ((Qo (Qd s) m).toNat+1),[],sX s,sY s,[],(QD (sOps s) rows d).2.1,
   (Zo (sSum s) ((QD (sOps s) rows d).1,0,b||(QD (sOps s) rows d).2.2)).1,(Zo (sSum s) ((QD (sOps s) rows d).1,0,b||(QD (sOps s) rows d).2.2)).2.1,(Zo (sSum s) ((QD (sOps s) rows d).1,0,b||(QD (sOps s) rows d).2.2)).2.2):=by
 unfold Zg
 simp only
 rw [if_pos h,← hr,← hd]
theorem JP (s:Qb) (k:Int) (t:List Int):YR s k t=(Qv s&&decide (0≤k)&&((Zt s k).length==(sOps s).length+1)&&ZK (sOps s) (Zt s k) (sOps s).length&&Qf (bwdD s k t).1 (QP (sOps s))):=rfl
theorem QnD {α:Type} {l:List α} {k:Nat} (hk:k<l.length):List.take (k+(List.take (l.length-(k+1)) (List.drop (k+1) l)).length) (List.take k l++List.take (l.length-(k+1)) (List.drop (k+1) l))=List.take k l++List.drop (k+1) l:=by
 have e:List.take (l.length-(k+1)) (List.drop (k+1) l)=List.drop (k+1) l:=List.take_of_length_le (by simp)
 rw [e]
 exact List.take_of_length_le (by simp;omega)
theorem QrI (f:Int→Int→Int) (x:List Int):∀ d:List Int,(d.flatMap fun a=>x.map (f a)).length=d.length*x.length
 | []=>by simp
 | a::d=>by rw [List.flatMap_cons,List.length_append,QrI f x d,List.length_map,List.length_cons,Nat.add_mul];omega
theorem Qpf (d x:List Int):(QX d x).1.2.2.length≤36:=by
 unfold QX
 split
 ·rename_i h
  simp only [Bool.and_eq_true] at h
  have h1:=vec6 h.1
  have h2:=vec6 h.2
  simp only
  rw [QrI (fun a b=>(Q2 a b).1) x d]
  exact Nat.le_trans (Nat.mul_le_mul h1 h2) (by omega)
 ·simp
theorem QBJ (o:TOp') (x d:List Int):(ZG o x d).2.1.length≤36:=by
 unfold ZG
 split
 ·rename_i h
  simp only [Bool.and_eq_true] at h
  split
  ·exact Qpf _ _
  ·split
   ·exact Nat.le_trans (YO h.2) (by omega)
   ·split
    ·simp
    ·split
     ·exact Qpf _ _
     ·simp
 ·simp
theorem Qlf:∀ (ops:List TOp') (rows:List (List Int)) (d:List Int),sz (QD ops rows d).1≤37*ops.length
 | [],rows,d=>by simp [QD]
 | o::os,[],d=>by simp only [QD];exact Nat.zero_le _
 | o::os,r::rs,d=>by
  have h1:=QBJ o r (QD os rs d).2.1
  have h2:=Qlf os rs d
  simp only [QD,QaH,ZF,List.length_cons];omega
theorem Qyu {ops:List TOp'} {rows:List (List Int)} {k:Nat} (hk:k<ops.length) (hr:k<rows.length) :
  Zp ops k ((rows.drop k).take (ops.length-k))=(Qf (gtd [] rows k) (gtd dOp ops k).2.1&&Zp ops (k+1) ((rows.drop (k+1)).take (ops.length-(k+1)))):=by
 rw [List.drop_eq_getElem_cons hr,show ops.length-k=(ops.length-(k+1))+1 by omega,List.take_succ_cons,Zp]
 have:gtd [] rows k=rows[k]:=Qj9 (List.getElem?_eq_getElem hr) _
 rw [← this]
 unfold Ye
 rw [if_pos hk]
end Go.Proofs.YtjbdljkhbglnhaaGreat.Am
namespace Go.Proofs.YtjbdljkhbglnhaaGreat.Am
open Go Sz
theorem Qu5 {m:Q6} (h:QC m=true):sz m≤296:=by
 have hl:=Zw h
 have hm:=Qqu h
 have:∀ l:List TOp',(∀ o,o∈l→QS o=true)→sz l≤37*l.length:=by
  intro l
  induction l with
  | nil=>intro _;exact Nat.zero_le _
  | cons o l ih =>
   intro hh
   have h1:=QgZ (hh o (List.mem_cons_self ..))
   have h2:=ih (fun y hy=>hh y (List.mem_cons_of_mem _ hy))
   have h3:=ZF o.2.2.2
   simp only [QaH,Yz,Ym,List.length_cons]
   omega
 have:=this m hm
 omega
theorem QzR (l:List TIns):sz l=l.length:=QDi l (fun _=>rfl)
theorem QGO (ops:Q6) (plan:List TIns) (a b:Bool):sz (Ja ops plan a b)≤plan.length+600:=by
 unfold Ja
 split
 ·rename_i h
  have h1:=Qu5 h
  have h2:=Qh0 h (Qms h)
  have h3:=QzR plan
  have h4:sz (Z0 ops).1≤sz (Z0 ops):=by simp only [Yz];omega
  have e0:sz ([]:List Int)=0:=rfl
  have e1:sz ([]:List (List Int))=0:=rfl
  have e2:sz ([]:List Q5)=0:=rfl
  rw [ZB]
  simp only [Qx,sOps,Qd,QB,sX,sY,sG,sD,Qr,e0,e1,e2]
  omega
 ·exact Nat.zero_le _
end Go.Proofs.YtjbdljkhbglnhaaGreat.Am

