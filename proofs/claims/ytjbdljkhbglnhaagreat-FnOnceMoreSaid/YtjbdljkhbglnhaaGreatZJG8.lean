/- -/
import Derived.Test.YtjbdljkhbglnhaaGreatZJG7
set_option linter.all false
namespace Go.Proofs.YtjbdljkhbglnhaaGreat.Am
open Go Sz
def tm (ds n M s:Int) (i:TIns):Int :=
 let F:=s+2*i.2
 let B:=(if ds=2 then 2*n-1 else 2*n-1+2*M)-s+2*i.2
 if i.1=1 then 8*F else if i.1=2 then 8*F+1 else if i.1=3 then 8*F+2
 else if i.1=4 then 8*B else if i.1=5 then 8*B+1 else if i.1=6 then 8*B+2 else if i.1=7 then 8*B+3 else 1000000
def rcOf (f:Nat) (k1:Int):Nat:=if k1=1 then f+1 else f
def scOf (f:Nat) (k1:Int):Nat:=if k1=2 then f-1 else f
def rgOf (n s:Int) (g:Nat) (k1:Int):Nat:=if k1=4∨(k1=5∧s<n-1) then g+1 else g
def sgQ (g:Nat) (k1:Int):Nat:=if k1=6 then g-1 else g
def kf (i:TIns):Nat:=if i.1=2 then 1 else 0
def kg (i:TIns):Nat:=if i.1=6 then 1 else 0
def cf (l:List TIns):Nat:=(l.map kf).sum
def cg (l:List TIns):Nat:=(l.map kg).sum
def QAb (l:List TIns) (k:Nat):Int:=if k=0 then 0 else (gtd dIns l (k-1)).1
end Go.Proofs.YtjbdljkhbglnhaaGreat.Am
namespace Go.Proofs.YtjbdljkhbglnhaaGreat.Am
open Go Sz
theorem YU (x:Int):-2147483647≤Qy x∧Qy x≤2147483647:=by unfold Qy iMin iMax;split <;> split <;> omega
theorem QjB {x:Int}:QU x=true↔-2147483647≤x∧x≤2147483647:=by simp [QU]
theorem QAz (x:Int):QU (Qy x)=true:=QjB.2 (YU x)
theorem Qjl (x:Int):QU (ZU x).1=true:=QAz x
theorem QlH (a b:Int):QU (QT a b).1=true:=Qjl _
theorem Qye (a b:Int):QU (Yx a b).1=true:=Qjl _
theorem Qv1 (a b:Int):QU (Q2 a b).1=true:=Qjl _
theorem QHA (a:Int):QU (Y8 a)=true:=by
 have:=YU a
 rw [QjB];unfold Y8 iMax;split <;> omega
theorem QlM {x:Int} {l:List Int}:Q8 (x::l)=(QU x&&Q8 l):=rfl
theorem Zu {v:List Int}:Qu v=true↔(1≤v.length∧v.length≤6)∧Q8 v=true:=by
 simp only [Qu,Bool.and_eq_true,Zh]
 constructor
 ·rintro ⟨h1,h2⟩;exact ⟨by omega,h2⟩
 ·rintro ⟨h1,h2⟩;exact ⟨by omega,h2⟩
theorem Yd {v:List Int} {n:Int}:Qf v n=true↔Qu v=true∧(v.length:Int)=n:=by simp [Qf]
theorem QsZ (f:Int→Int→Int × Bool):∀ a b:List Int,(vz f a b).1.length=min a.length b.length
 | [],b=>by simp [vz]
 | a::aa,[]=>by simp [vz]
 | a::aa,b::bb=>by simp [vz,QsZ f aa bb]
theorem Qnm {f:Int→Int→Int × Bool} (hf:∀ a b,QU (f a b).1=true):∀ a b:List Int,Q8 (vz f a b).1=true
 | [],b=>by simp [vz,Q8]
 | a::aa,[]=>by simp [vz,Q8]
 | a::aa,b::bb=>by simp only [vz,QlM,hf,Qnm hf aa bb,Bool.and_self]
theorem QpU (f:Int→Int × Bool):∀ a:List Int,(v1 f a).1.length=a.length
 | []=>rfl
 | a::aa=>by simp [v1,QpU f aa]
theorem QrX {f:Int→Int × Bool} (hf:∀ a,QU (f a).1=true):∀ a:List Int,Q8 (v1 f a).1=true
 | []=>rfl
 | a::aa=>by simp only [v1,QlM,hf,QrX hf aa,Bool.and_self]
theorem QlC:∀ (a b:List Int) (z:Int),QU z=true→QU (Z9 a b z).1=true
 | [],b,z,h=>by simpa [Z9] using h
 | a::aa,[],z,h=>by simpa [Z9] using h
 | a::aa,b::bb,z,h=>by rw [Z9];exact QlC aa bb _ (QlH _ _)
theorem Qiz (a b:List Int):QU (QM a b).1=true:=by
 unfold QM;split
 ·exact QlC _ _ _ rfl
 ·rfl
theorem YE {a b:List Int}:Ze a b=true↔Qu a=true∧Qu b=true∧b.length=a.length:=by
 unfold Ze;rw [Bool.and_eq_true,Yd]
 constructor <;> (intro h;exact ⟨h.1,h.2.1,by omega⟩)
theorem QoH {f:Int→Int→Int × Bool} (hf:∀ a b,QU (f a b).1=true) {a b:List Int} (h:Ze a b=true):Qf (vz f a b).1 a.length=true:=by
 obtain ⟨h1,h2,h3⟩:=YE.1 h
 have:=(Zu.1 h1).1
 have hl:=QsZ f a b
 exact Yd.2 ⟨Zu.2 ⟨by omega,Qnm hf a b⟩,by omega⟩
theorem QjE {a b:List Int} (h:Ze a b=true):Qf (QZ a b).1 a.length=true:=by unfold QZ;rw [if_pos h];exact QoH QlH h
theorem QB3 {a b:List Int} (h:Ze a b=true):Qf (QY a b).1 a.length=true:=by unfold QY;rw [if_pos h];exact QoH Qye h
theorem QkC {a b:List Int} {n:Int} (h1:Qf a n=true) (h2:Qf b n=true):Ze a b=true:=by
 obtain ⟨h3,h4⟩:=Yd.1 h1
 obtain ⟨h5,h6⟩:=Yd.1 h2
 exact YE.2 ⟨h3,h5,by omega⟩
theorem Qss {c:Int} {a:List Int} (hc:QU c=true) (h:Qu a=true):Qf (Za c a).1 a.length=true:=by
 unfold Za
 rw [hc,h,Bool.and_self,if_pos rfl]
 have:=(Zu.1 h).1
 have hl:=QpU (Q2 c) a
 exact Yd.2 ⟨Zu.2 ⟨by omega,QrX (Qv1 c) a⟩,by omega⟩
theorem Qvk {α:Type} {f:α→Int} (hf:∀ a,QU (f a)=true) (l:List α):Q8 (l.map f)=true:=by
 unfold Q8;rw [List.all_eq_true];intro x hx
 obtain ⟨a,_,rfl⟩:=List.mem_map.1 hx
 exact hf a
theorem Qig {α:Type} {f:α→Int} (hf:∀ a,QU (f a)=true) {l:List α} (h1:1≤l.length) (h2:l.length≤6):Qf (l.map f) l.length=true :=
 Yd.2 ⟨Zu.2 ⟨by simp;omega,Qvk hf l⟩,by simp⟩
theorem QE3 {a:List Int} (h:Qu a=true):Qf (ZH a) a.length=true:=by
 unfold ZH;rw [if_pos h]
 have:=(Zu.1 h).1
 exact Qig QHA (by omega) (by omega)
theorem QnQ {m:TMat} {x:List Int} (h:(Q7 m&&Qf x m.2.1)=true):Qf (Q0 m x).1 m.1=true:=by
 unfold Q0;rw [if_pos h]
 have h1:1≤m.1∧m.1≤6:=by simp only [Q7,Bool.and_eq_true,Zh] at h;omega
 have:=Qig (f:=fun i:Nat=>(QM (Ya m i) x).1) (fun i=>Qiz _ _) (l:=List.range m.1.toNat) (by simp;omega) (by simp;omega)
 rw [List.length_range,show ((m.1.toNat:Nat):Int)=m.1 by omega] at this
 exact this
theorem QtB {m:TMat} {x:List Int} (h:(Q7 m&&Qf x m.1)=true):Qf (Q4 m x).1 m.2.1=true:=by
 unfold Q4;rw [if_pos h]
 have h1:1≤m.2.1∧m.2.1≤6:=by simp only [Q7,Bool.and_eq_true,Zh] at h;omega
 have:=Qig (f:=fun i:Nat=>(QM (Zv m i) x).1) (fun i=>Qiz _ _) (l:=List.range m.2.1.toNat) (by simp;omega) (by simp;omega)
 rw [List.length_range,show ((m.2.1.toNat:Nat):Int)=m.2.1 by omega] at this
 exact this
theorem QIH {x d:List Int} (h:Ze x d=true):Qf (ZJ x d) x.length=true:=by
 unfold ZJ;rw [if_pos h]
 obtain ⟨h1,h2,h3⟩:=YE.1 h
 have hl:=(Zu.1 h1).1
 have hf:=(Zu.1 h2).2
 refine Yd.2 ⟨Zu.2 ⟨by simp;omega,?_⟩,by simp;omega⟩
 unfold Q8 at hf ⊢
 rw [List.all_eq_true] at hf ⊢
 intro y hy
 rw [List.mem_iff_getElem?] at hy
 obtain ⟨i,hi⟩:=hy
 rw [List.getElem?_zipWith] at hi
 split at hi
 ·rename_i a b ha hb
  cases hi
  split
  ·exact hf b (List.mem_of_getElem? hb)
  ·rfl
 ·cases hi
theorem Qne {d x:List Int} (hd:Qu d=true) (hx:Qu x=true):(QX d x).1.2.2.length=d.length*x.length:=by
 unfold QX;rw [hd,hx,Bool.and_self,if_pos rfl]
 simp only
 generalize d=l
 clear hd
 induction l with
 | nil=>simp
 | cons a l ih=>rw [List.flatMap_cons,List.length_append,ih];simp [Nat.add_mul];omega
theorem QbF {o:TOp'} (h:QS o=true):(o.2.2.2.length:Int)=(if o.1=1∨o.1=5 then o.2.1*o.2.2.1 else if o.1=2 then o.2.1 else if o.1=4 then 1 else 0):=by
 have h1:=JT h
 simp only [QS,Bool.and_eq_true,beq_iff_eq] at h
 rw [h.1.2]
 unfold ZE
 rw [show m_in o.2.1 1 6=true from Zh.2 ⟨h1.1,h1.2.1⟩,show m_in o.2.2.1 1 6=true from Zh.2 ⟨h1.2.2.1,h1.2.2.2⟩]
 rfl
theorem QfB {o:TOp'} (h:QS o=true):Q8 o.2.2.2=true:=by simp only [QS,Bool.and_eq_true] at h;exact h.2
theorem opEq {o:TOp'} (h:QS o=true) (h1:o.1≠1):o.2.1=o.2.2.1:=by
 simp only [QS,Bool.and_eq_true,Bool.or_eq_true,beq_iff_eq] at h
 rcases h.1.1.2 with h | h
 ·exact absurd h h1
 ·exact h
theorem QdJ {o:TOp'} (h:QS o=true) (h1:o.1=1∨o.1=5):Q7 (QN o)=true:=by
 have h2:=JT h
 have h3:=QbF h
 rw [if_pos h1] at h3
 simp only [Q7,QN,Bool.and_eq_true,Zh,beq_iff_eq]
 refine ⟨⟨⟨⟨by omega,by omega⟩,by omega,by omega⟩,?_⟩,QfB h⟩
 rw [h3,Int.mul_comm]
theorem Qd7 {o:TOp'} {x:List Int} (ho:QS o=true) (hx:Qf x o.2.1=true):Qf (ZP o x).1 o.2.2.1=true:=by
 have hx':=Yd.1 hx
 unfold ZP
 rw [ho,hx,Bool.and_self,if_pos rfl]
 split
 ·rename_i h1
  exact QnQ (m:=QN o) (by rw [QdJ ho (.inl h1)];simpa [QN] using hx)
 ·rename_i h1
  have he:=opEq ho h1
  rw [← he]
  split
  ·rename_i h2
   have h3:=QbF ho
   rw [if_neg (by omega),if_pos h2] at h3
   have h4:=JT ho
   have hp:Ze x o.2.2.2=true:=YE.2 ⟨hx'.1,Zu.2 ⟨by omega,QfB ho⟩,by omega⟩
   rw [← hx'.2]
   exact QjE hp
  ·split
   ·rename_i h2 h3
    have h4:=QbF ho
    rw [if_neg (by omega),if_neg h2,if_pos h3] at h4
    have hf:QU (gtd 0 o.2.2.2 0)=true:=by
     have:=QfB ho
     unfold Q8 at this
     exact List.all_eq_true.1 this _ (JZ (by omega) 0)
    rw [← hx'.2]
    exact Qss hf hx'.1
   ·split
    ·rename_i h5
     have hm:=QdJ ho (.inr h5)
     have hy:Qf (Q0 (QN o) x).1 o.2.2.1=true:=QnQ (m:=QN o) (by rw [hm];simpa [QN] using hx)
     rw [← he] at hy
     have:=QjE (QkC hx hy)
     rwa [hx'.2] at this
    ·have:=QE3 hx'.1
     rwa [hx'.2] at this
theorem QxA {o:TOp'} {x d:List Int} (ho:QS o=true) (hx:Qf x o.2.1=true) (hd:Qf d o.2.2.1=true) :
  Qf (ZG o x d).1 o.2.1=true∧(ZG o x d).2.1.length=o.2.2.2.length:=by
 have hx':=Yd.1 hx
 have hd':=Yd.1 hd
 have hs:=QbF ho
 unfold ZG
 rw [ho,hx,hd,Bool.and_self,Bool.and_self,if_pos rfl]
 split
 ·rename_i h1
  rw [if_pos (.inl h1)] at hs
  refine ⟨QtB (m:=QN o) (by rw [QdJ ho (.inl h1)];simpa [QN] using hd),?_⟩
  have:=Qne hd'.1 hx'.1
  show (QX d x).1.2.2.length=_
  rw [this]
  have:((d.length*x.length:Nat):Int)=o.2.1*o.2.2.1:=by rw [Int.natCast_mul,hd'.2,hx'.2,Int.mul_comm]
  omega
 ·rename_i h1
  have he:=opEq ho h1
  split
  ·rename_i h2
   rw [if_neg (by omega),if_pos h2] at hs
   refine ⟨by rw [he];exact hd,?_⟩
   show d.length=_
   omega
  ·split
   ·rename_i h2 h3
    rw [if_neg (by omega),if_neg h2,if_pos h3] at hs
    have hf:QU (gtd 0 o.2.2.2 0)=true:=by
     have:=QfB ho
     unfold Q8 at this
     exact List.all_eq_true.1 this _ (JZ (by omega) 0)
    refine ⟨?_,?_⟩
    ·have:=Qss hf hd'.1
     rw [hd'.2,← he] at this
     exact this
    ·show [(QM d x).1].length=_
     simp;omega
   ·split
    ·rename_i h2 h3 h5
     rw [if_pos (.inr h5)] at hs
     have hm:=QdJ ho (.inr h5)
     have hy:Qf (Q4 (QN o) d).1 o.2.1=true:=QtB (m:=QN o) (by rw [hm];simpa [QN] using hd)
     refine ⟨?_,?_⟩
     ·rw [he] at hy
      have:=QjE (QkC hd hy)
      rw [hd'.2,← he] at this
      exact this
     ·have:=Qne hd'.1 hx'.1
      show (QX d x).1.2.2.length=_
      rw [this]
      have:((d.length*x.length:Nat):Int)=o.2.1*o.2.2.1:=by rw [Int.natCast_mul,hd'.2,hx'.2,Int.mul_comm]
      omega
    ·rename_i h2 h3 h5
     rw [if_neg (by omega),if_neg h2,if_neg h3] at hs
     have hp:Ze x d=true:=YE.2 ⟨hx'.1,hd'.1,by omega⟩
     refine ⟨?_,by simp;omega⟩
     have:=QIH hp
     rw [hx'.2] at this
     exact this
theorem Qe5:∀ (ops:List TOp') (x:List Int),(Qp ops x).1.length=ops.length+1
 | [],x=>rfl
 | o::r,x=>by simp [Qp,Qe5 r]
def YD (ops:List TOp') (x:List Int):List Int:=gtd [] (Qp ops x).1 ops.length
theorem QpW (x:List Int):YD [] x=x:=rfl
theorem Qm9 (o:TOp') (r:List TOp') (x:List Int):YD (o::r) x=YD r (ZP o x).1:=by
 unfold YD;rw [Qp];simp [gtd]
theorem Qya (ops:List TOp') (x:List Int):gtd [] (Qp ops x).1 0=x:=by cases ops <;> simp [Qp,gtd]
theorem Qgn:∀ (ops:List TOp') (rows:List (List Int)) (d:List Int),ops.length≤rows.length→(QD ops rows d).1.length=ops.length
 | [],rows,d,_=>by simp [QD]
 | o::os,[],d,h=>by simp at h
 | o::os,r::rs,d,h=>by simp [QD,Qgn os rs d (by simpa using h)]
end Go.Proofs.YtjbdljkhbglnhaaGreat.Am
namespace Go.Proofs.YtjbdljkhbglnhaaGreat.Am
open Go Sz
def ZX:Int→List TOp'→Int→Prop
 | i,[],o=>i=o
 | i,a::r,o=>QS a=true∧a.2.1=i∧ZX a.2.2.1 r o
theorem ZX.append:∀ {a b:List TOp'} {i o:Int},ZX i (a++b) o↔∃ k,ZX i a k∧ZX k b o
 | [],b,i,o=>by simp [ZX]
 | x::a,b,i,o=>by
  rw [List.cons_append,ZX,ZX.append]
  constructor
  ·rintro ⟨h1,h2,k,h3,h4⟩;exact ⟨k,⟨h1,h2,h3⟩,h4⟩
  ·rintro ⟨k,⟨h1,h2,h3⟩,h4⟩;exact ⟨h1,h2,k,h3,h4⟩
theorem Qr0:∀ {l:List TOp'} {p:Option Int},ZO p l=true→∃ i o,ZX i l o∧(∀ q,p=some q→l≠[]→q=i)
 | [],p,h=>⟨0,0,rfl,fun q _ h=>absurd rfl h⟩
 | a::r,p,h=>by
  simp only [ZO,Bool.and_eq_true] at h
  obtain ⟨i,o,h1,h2⟩:=Qr0 h.2
  have hp:∀ q,p=some q→a::r≠[]→q=a.2.1:=fun q hq _=>by
   have:=h.1.2
   rw [hq] at this
   simpa using this
  cases r with
  | nil=>exact ⟨a.2.1,a.2.2.1,⟨h.1.1,rfl,rfl⟩,hp⟩
  | cons b r =>
   have:=h2 _ rfl (by simp)
   rw [← this] at h1
   exact ⟨a.2.1,o,⟨h.1.1,rfl,h1⟩,hp⟩
theorem QlA:∀ {l:List TOp'} {i o:Int} {p:Option Int},ZX i l o→(∀ q,p=some q→q=i)→ZO p l=true
 | [],i,o,p,h,hp=>rfl
 | a::r,i,o,p,h,hp=>by
  obtain ⟨h1,h2,h3⟩:=h
  simp only [ZO,Bool.and_eq_true]
  refine ⟨⟨h1,?_⟩,QlA h3 (fun q hq=>by cases hq;rfl)⟩
  cases p with
  | none=>rfl
  | some q=>simp [hp q rfl,h2]
theorem ZX.out_eq:∀ {l:List TOp'} {i o:Int},ZX i l o→l≠[]→(gtd dOp l (l.length-1)).2.2.1=o
 | [],i,o,h,hn=>absurd rfl hn
 | [a],i,o,h,hn=>h.2.2
 | a::b::r,i,o,h,hn=>by
  have:=ZX.out_eq h.2.2 (by simp)
  simpa [gtd] using this
theorem Qvt {l:List TOp'} {i o:Int} (h:ZX i l o) (h1:1≤l.length) (h2:l.length≤8):QC l=true∧QV l=i∧QP l=o:=by
 have hm:QC l=true:=by
  simp only [QC,Bool.and_eq_true,Zh]
  exact ⟨by omega,QlA h (by simp)⟩
 refine ⟨hm,?_,?_⟩
 ·unfold QV;rw [if_pos hm]
  cases l with
  | nil=>simp at h1
  | cons a r=>exact h.2.1
 ·unfold QP;rw [if_pos hm]
  exact h.out_eq (by intro e;rw [e] at h1;simp at h1)
theorem QJq {l:List TOp'} (h:QC l=true):1≤l.length∧l.length≤8∧ZX (QV l) l (QP l):=by
 have hl:=Zw h
 refine ⟨hl.1,hl.2,?_⟩
 have h':=h
 simp only [QC,Bool.and_eq_true] at h'
 obtain ⟨i,o,h1,_⟩:=Qr0 h'.2
 have:=Qvt h1 hl.1 hl.2
 rw [this.2.1,this.2.2]
 exact h1
theorem Qut:∀ {l:List TOp'} {i o:Int} {x:List Int},ZX i l o→Qf x i=true→Qf (YD l x) o=true
 | [],i,o,x,h,hx=>by rw [QpW,← show i=o from h];exact hx
 | a::r,i,o,x,h,hx=>by
  obtain ⟨h1,h2,h3⟩:=h
  rw [Qm9]
  exact Qut h3 (Qd7 h1 (by rw [h2];exact hx))
theorem QmH:∀ {l:List TOp'} {i o:Int} {x d:List Int},ZX i l o→Qf x i=true→Qf d o=true →
  Qf (QD l (Qp l x).1 d).2.1 i=true∧Z8 l (QD l (Qp l x).1 d).1=true
 | [],i,o,x,d,h,hx,hd=>by
  refine ⟨?_,rfl⟩
  show Qf d i=true
  rw [show i=o from h];exact hd
 | a::r,i,o,x,d,h,hx,hd=>by
  obtain ⟨h1,h2,h3⟩:=h
  rw [Qp]
  have hx':Qf x a.2.1=true:=by rw [h2];exact hx
  have ih:=QmH h3 (Qd7 h1 hx') hd
  have:=QxA h1 hx' ih.1
  rw [QD]
  refine ⟨by rw [← h2];exact this.1,?_⟩
  simp only [Z8,Bool.and_eq_true,beq_iff_eq]
  exact ⟨this.2,ih.2⟩
theorem Qst (all:List TOp') {o:Int}:∀ {l:List TOp'} {i:Int} {x:List Int} {k:Nat},ZX i l o→all.drop k=l→k≤all.length→(l=[]→Ye all k=i)→Qf x i=true→Zp all k (Qp l x).1=true
 | [],i,x,k,h,hk,hle,hs,hx=>by
  simp only [Qp,Zp,Bool.and_true]
  rw [hs rfl];exact hx
 | a::r,i,x,k,h,hk,hle,hs,hx=>by
  obtain ⟨h1,h2,h3⟩:=h
  have hlt:=QgL hk
  have hx':Qf x a.2.1=true:=by rw [h2];exact hx
  simp only [Qp,Zp,Bool.and_eq_true]
  refine ⟨?_,Qst all h3 (Zx hk) hlt (fun hr=>?_) (Qd7 h1 hx')⟩
  ·unfold Ye;rw [if_pos hlt,ZN hk];exact hx'
  ·have:all.length=k+1:=by have:=QAN hk;rw [hr] at this;simp at this;omega
   unfold Ye
   rw [if_neg (by omega),show all.length-1=k by omega,ZN hk]
theorem QEu {l:List TOp'} {i o:Int} {x:List Int} (h:ZX i l o) (hl:l≠[]) (hx:Qf x i=true):Zp l 0 (Qp l x).1=true :=
 Qst l h (by simp) (by simp) (fun h0=>absurd h0 hl) hx
theorem QkV:∀ (ops:List TOp') (rows:List (List Int)) (k n:Nat),Zp ops k rows=true→Zp ops k (rows.take n)=true
 | ops,[],k,n,h=>by simp [Zp]
 | ops,r::rs,k,0,h=>by simp [Zp]
 | ops,r::rs,k,n+1,h=>by
  simp only [Zp,List.take_succ_cons,Bool.and_eq_true] at h ⊢
  exact ⟨h.1,QkV ops rs (k+1) n h.2⟩
theorem Qng:∀ (a b:List (List Int)),(Zl a b).1.length=min a.length b.length
 | [],b=>by simp [Zl]
 | x::a,[]=>by simp [Zl]
 | x::a,y::b=>by simp [Zl,Qng a b]
end Go.Proofs.YtjbdljkhbglnhaaGreat.Am
namespace Go.Proofs.YtjbdljkhbglnhaaGreat.Am
open Go Sz
def QO {α:Type} [Sz α] (x:α):Prop:=sz x≤2147483648
def Yq {α β:Type} [Sz α] [Sz β] (x:α) (y:β):Prop:=sz x+sz y≤2147483648
def p_st (st s m:Int):Prop:=-1000≤st∧st≤1000
def QaG (l:List TIns) (st s m:Int):List TIns:=l++Je st s m
def Qce (l:List TIns) (st s m:Int) (redo:Bool):List TIns:=l++Qcg st s m redo
def p_l9 (l:List TIns) (st s m:Int):Prop:=p_st st s m∧l.length≤1000000
def Qie (l:List TIns) (st s m:Int) (_:Bool):Prop:=p_l9 l st s m
def Qez (ops:List TOp') (x:List Int):Prop:=ops.length≤1000000∧x.length≤1000000
def QiM (m:TMat) (i:Int):Prop:=0≤m.2.1∧m.2.1≤6∧0≤i∧i<m.1∧m.1≤6∧(m.2.2.length:Int)=m.1*m.2.1
def Qiv (m:TMat) (k:Int):Prop:=m.2.1≤6∧0≤k∧k<m.2.1∧0≤m.1∧m.1≤6∧(m.2.2.length:Int)=m.1*m.2.1
@[simp] theorem Q9 {α:Type} (v:List α) (e:α):List.take (v.length+1) (List.take v.length v++[e])=v++[e]:=by
 rw [List.take_length,List.take_of_length_le (by simp)]
@[simp] theorem QJY {α:Type} (v xs:List α):List.take (v.length+xs.length) (List.take v.length v++xs)=v++xs:=by
 rw [List.take_length,List.take_of_length_le (by simp)]
theorem Yj {α:Type} {l:List α} {k:Nat} (h:k<l.length):∃ y q,l.drop k=y::q:=by
 cases hq:l.drop k with
 | nil=>have:=congrArg List.length hq;simp at this;omega
 | cons y q=>exact ⟨y,q,rfl⟩
theorem ZZ {α:Type} {v:List α} {k:Nat} {x:α} (h:v.length=k):(v++[x]).length=k+1:=by simp [h]
theorem room {n:Nat} (h:n+1≤2147483648):(n=n∨n+1≤n)∧n+1≤big:=⟨.inl rfl,by rw [ZC];omega⟩
theorem sc1 {k:Nat} (h:k<9223372036854775807):w64 ((k:Int)+1)=((k+1:Nat):Int):=by rw [Qs (by omega) (by omega)];omega
theorem Qq1 (a b:Int):-4611686018427387904≤Qy a*Qy b∧Qy a*Qy b≤4611686018427387904:=by
 obtain ⟨h1,h2⟩:=YU a
 obtain ⟨h3,h4⟩:=YU b
 generalize Qy a=x at *
 generalize Qy b=y at *
 have hx:x.natAbs≤2147483647:=by omega
 have hy:y.natAbs≤2147483647:=by omega
 have h:=Nat.mul_le_mul hx hy
 rw [← Int.natAbs_mul] at h
 omega
theorem QFS (x:Int):(if 2147483647<(if x < -2147483647 then -2147483647 else x) then 2147483647 else (if x < -2147483647 then -2147483647 else x))=Qy x:=by
 unfold Qy iMin iMax;repeat' split
 all_goals omega
theorem QA6 (a:Int):(if ((Int.tmod a 65536 != 0)&&(!(decide (a<0)==decide ((65536:Int)<0))))=true then Int.tdiv a 65536-1 else Int.tdiv a 65536)=Int.fdiv a 65536:=by
 rw [Int.fdiv_eq_ediv_of_nonneg _ (by omega),Int.tmod_eq_emod,Int.tdiv_eq_ediv]
 have hs:Int.sign 65536=1:=rfl
 rw [hs]
 by_cases h:0≤a
 ·have:decide (a<0)=false:=by simp;omega
  simp [h,this]
 ·have:decide (a<0)=true:=by simp;omega
  by_cases h2:(65536:Int) ∣ a
  ·have:a % 65536=0:=Int.emod_eq_zero_of_dvd h2
   simp [h,h2,this]
  ·have:a % 65536≠0:=fun e=>h2 (Int.dvd_of_emod_eq_zero e)
   simp [h,h2,this]
   omega
theorem idx {r R C:Int} (h1:0≤r) (h2:r<R) (h3:0≤C):0≤r*C∧r*C+C≤R*C∧(r+1)*C=r*C+C:=by
 have h4:(r+1)*C=r*C+C:=by rw [Int.add_mul,Int.one_mul]
 have h5:=Int.mul_le_mul_of_nonneg_right (show r+1≤R by omega) h3
 exact ⟨Int.mul_nonneg h1 h3,by omega,h4⟩
theorem Qax {m:TMat} (h:Q7 m=true):1≤m.1∧m.1≤6∧1≤m.2.1∧m.2.1≤6∧(m.2.2.length:Int)=m.1*m.2.1∧m.1*m.2.1≤36∧Q8 m.2.2=true:=by
 simp only [Q7,Bool.and_eq_true,Zh,beq_iff_eq] at h
 have:=QaV h.1.1.1.1 h.1.1.1.2 h.1.1.2.1 h.1.1.2.2
 exact ⟨h.1.1.1.1,h.1.1.1.2,h.1.1.2.1,h.1.1.2.2,h.1.2,this.2,h.2⟩
theorem Qk2 {f:Nat→Bool} {k:Nat}:(List.range (k+1)).any f=((List.range k).any f||f k):=by rw [List.range_succ,List.any_append];simp
theorem Qcn {α:Type} {f:Nat→α} {k:Nat}:(List.range (k+1)).map f=(List.range k).map f++[f k]:=by rw [List.range_succ,List.map_append];rfl
theorem Qb8 {α:Type} {f:Nat→List α} {k:Nat}:(List.range (k+1)).flatMap f=(List.range k).flatMap f++f k:=by rw [List.range_succ,List.flatMap_append];simp
theorem QiB {α:Type} {f:Nat→List α} {R:Nat} (n:Nat) (h:∀ k,k<n→(f k).length=R):((List.range n).flatMap f).length=n*R:=by
 induction n with
 | zero=>simp
 | succ n ih=>rw [Qb8,List.length_append,ih (fun k hk=>h k (by omega)),h n (by omega),Nat.add_mul];omega
theorem QtY {α:Type} {f:Nat→List α} {R:Nat} {k:Nat}:∀ (n:Nat),k<n→(∀ k,k<n→(f k).length=R)→(((List.range n).flatMap f).drop (k*R)).take R=f k
 | 0,hk,_=>by omega
 | n+1,hk,h=>by
  have hl:=QiB n (fun k hk=>h k (by omega))
  rw [Qb8]
  by_cases e:k=n
  ·subst e
   rw [List.drop_append,List.drop_eq_nil_of_le (by omega),hl,Nat.sub_self,List.drop_zero,List.nil_append,List.take_of_length_le (by rw [h k (by omega)];exact Nat.le_refl _)]
  ·have ih:=QtY (k:=k) n (by omega) (fun k hk=>h k (by omega))
   have:(k+1)*R≤n*R:=Nat.mul_le_mul_right R (show k+1≤n by omega)
   rw [Nat.add_mul,Nat.one_mul] at this
   rw [List.drop_append_of_le_length (by omega),List.take_append_of_le_length (by rw [List.length_drop,hl];omega),ih]
theorem Qlh (m:TMat) (k:Int):(Zv m k).length=m.1.toNat:=by simp [Zv]
theorem QJK {m:TMat} (h:Q7 m=true) {k:Nat} (hk:(k:Int)<m.2.1):Q8 (Zv m k)=true:=by
 obtain ⟨h1,h2,h3,h4,h5,h6,h7⟩:=Qax h
 unfold Q8 Zv
 rw [List.all_eq_true]
 intro x hx
 obtain ⟨i,hi,rfl⟩:=List.mem_map.1 hx
 have hi:=List.mem_range.1 hi
 have hd:=idx (r:=i) (R:=m.1) (C:=m.2.1) (by omega) (by omega) (by omega)
 unfold Q8 at h7
 generalize (i:Int)*m.2.1=z at *
 generalize m.1*m.2.1=y at *
 exact List.all_eq_true.1 h7 _ (JZ (show Int.toNat (z+k)<m.2.2.length by omega) 0)
theorem QJO {m:TMat} (h:Q7 m=true):Q7 (Z2 m)=true∧(Z2 m).1=m.2.1∧(Z2 m).2.1=m.1∧∀ k:Nat,(k:Int)<m.2.1→Ya (Z2 m) k=Zv m k:=by
 obtain ⟨h1,h2,h3,h4,h5,h6,h7⟩:=Qax h
 have ht:Z2 m=(m.2.1,m.1,(List.range m.2.1.toNat).flatMap fun k:Nat=>Zv m k):=by unfold Z2;rw [if_pos h]
 have hl:=QiB (f:=fun k:Nat=>Zv m k) m.2.1.toNat (fun k hk=>Qlh m k)
 have hn:((m.2.1.toNat*m.1.toNat:Nat):Int)=m.2.1*m.1:=by rw [Int.natCast_mul,Int.toNat_of_nonneg (by omega),Int.toNat_of_nonneg (by omega)]
 rw [ht]
 refine ⟨?_,rfl,rfl,fun k hk=>?_⟩
 ·simp only [Q7,Bool.and_eq_true,Zh,beq_iff_eq]
  refine ⟨⟨⟨⟨h3,h4⟩,h1,h2⟩,by rw [hl,hn]⟩,?_⟩
  unfold Q8
  rw [List.all_eq_true]
  intro x hx
  obtain ⟨k,hk,hx⟩:=List.mem_flatMap.1 hx
  have:=QJK h (k:=k) (by have:=List.mem_range.1 hk;omega)
  unfold Q8 at this
  exact List.all_eq_true.1 this x hx
 ·have hs:=QtY (f:=fun k:Nat=>Zv m k) (k:=k) m.2.1.toNat (by omega) (fun k hk=>Qlh m k)
  have hd:=idx (r:=k) (R:=m.2.1) (C:=m.1) (by omega) hk (by omega)
  have e1:Int.toNat ((k:Int)*m.1)=k*m.1.toNat:=by
   have:((k*m.1.toNat:Nat):Int)=(k:Int)*m.1:=by rw [Int.natCast_mul,Int.toNat_of_nonneg (by omega)]
   omega
  unfold Ya slice
  simp only
  rw [show Int.toNat (((k:Int)+1)*m.1)-Int.toNat ((k:Int)*m.1)=m.1.toNat by omega,e1]
  exact hs
theorem QFo {m:TMat} {d:List Int} (h:Q7 m=true) (hd:Qf d m.1=true):Q0 (Z2 m) d=Q4 m d:=by
 obtain ⟨h1,h2,h3,h4⟩:=QJO h
 unfold Q0 Q4
 rw [if_pos (by rw [h1,h3,hd];rfl),if_pos (by rw [h,hd];rfl),h2]
 have e:∀ i,i∈List.range m.2.1.toNat→Ya (Z2 m) (i:Nat)=Zv m (i:Nat):=fun i hi=>h4 i (by have:=List.mem_range.1 hi;omega)
 refine Prod.ext (List.map_congr_left fun i hi=>by rw [e i hi]) ?_
 show (List.range m.2.1.toNat).any _=(List.range m.2.1.toNat).any _
 rw [Bool.eq_iff_iff,List.any_eq_true,List.any_eq_true]
 constructor
 ·rintro ⟨i,hi,h⟩;exact ⟨i,hi,by rw [← e i hi];exact h⟩
 ·rintro ⟨i,hi,h⟩;exact ⟨i,hi,by rw [e i hi];exact h⟩
theorem Qrv {m:TMat} {d:List Int} (h:¬ (Q7 m=true∧Qf d m.1=true)):Q4 m d=([],false):=by unfold Q4;rw [if_neg (by simpa using h)]
theorem Qrw {m:TMat} {d:List Int} (h:¬ (Q7 m=true∧Qf d m.2.1=true)):Q0 m d=([],false):=by unfold Q0;rw [if_neg (by simpa using h)]
theorem QdH {x:Int} (h:0≤x):0≤Qy x:=by
 unfold Qy iMin iMax
 repeat' split
 all_goals omega
theorem QoX:∀ (a:List Int) (z:Int),0≤z→0≤(Z9 a a z).1
 | [],z,h=>by simpa [Z9] using h
 | x::r,z,h=>by
  rw [Z9]
  refine QoX r _ ?_
  have h1:0≤Qy x*Qy x:=by
   rcases Int.le_total 0 (Qy x) with h2 | h2
   ·exact Int.mul_nonneg h2 h2
   ·exact Int.mul_nonneg_of_nonpos_of_nonpos h2 h2
  have h3:0≤Int.fdiv (Qy x*Qy x) 65536:=by rw [Int.fdiv_eq_ediv_of_nonneg _ (by omega)];omega
  have h4:0≤(Q2 x x).1:=QdH h3
  have h5:=QdH h
  have h6:=QdH h4
  exact QdH (by omega)
theorem Qwr (a:List Int):0≤(QM a a).1:=by
 unfold QM;split
 ·exact QoX a 0 (by omega)
 ·show (0:Int)≤0;omega
theorem Qk4 (x:List Int) (n:Int):(!(Qu x)||((x.length:Int) != n)) = !(Qf x n):=by unfold Qf;simp [bne]
theorem QeV {o:TOp'} (h:QS o=true) (h4:o.1=4):0<o.2.2.2.length:=by
 have:=QbF h
 rw [if_neg (by omega),if_neg (by omega),if_pos h4] at this
 omega
theorem Qmy {o:TOp'} {x:List Int} (h:¬ (QS o=true∧Qf x o.2.1=true)):ZP o x=([],false):=by unfold ZP;rw [if_neg (by simpa using h)]
theorem Qok {o:TOp'} {x d:List Int} (h:¬ ((QS o=true∧Qf x o.2.1=true)∧Qf d o.2.2.1=true)):ZG o x d=([],[],false):=by unfold ZG;rw [if_neg (by simpa using h)]
theorem Qe9 {o:TOp'} (h:QS o=true):1≤o.1∧o.1≤5:=by simp only [QS,Bool.and_eq_true,Zh] at h;exact h.1.1.1.1.1
theorem Qgx {α:Type} (v:List α):List.take (id v).length (List.drop 0 (id v))=v:=by simp
theorem Qg9 {α:Type} (v:List α):List.take (0+v.length) (List.drop 0 v)=v:=by simp
theorem QaU {α:Type} (v:List α):List.take v.length (List.drop 0 v)=v:=by simp
theorem Qdu {α:Type} {l:List α} {k:Nat} (h:l.length≤k):l.drop k=[]:=List.drop_eq_nil_of_le h
theorem Qxr (n:Nat) (x:Int):List.take n (List.drop 0 (List.replicate n x))=List.replicate n x:=by rw [List.drop_zero,List.take_of_length_le (by simp)]
theorem Qbr {α:Type} [Sz α] {l:List α} {A:Int→List α→Prop} {Q:List α→Prop} (hs:sz l≤2147483648)
  (hA:∀ (k:Nat) (x:α) (v:List α),k<l.length→l.length≤2147483648→(∀ d,gtd d l k=x)→v.length=k→sz x≤2147483648→A ((k+1:Nat):Int) (v++[x])→A (k:Nat) v)
  (hE:Q l→A (l.length:Nat) l) (hq:Q l):A 0 []:=by
 have hl:=JJ l
 refine Zc l (fun r k=>∀ v,v.length=k→v++r=l→A k v) ?_ ?_ [] rfl rfl
 ·intro v hv he
  rw [List.append_nil] at he
  subst he
  exact hE hq
 ·intro k x r hk hlt hg ih v hv he
  have hx:=QdZ hk
  exact hA k x v hlt (by omega) hg hv (by omega) (ih _ (ZZ hv) (by rw [← he];simp))
theorem QgZ {o:TOp'} (h:QS o=true):o.2.2.2.length≤36:=by
 have h1:=QbF h
 have h2:=JT h
 have h3:=QaV h2.1 h2.2.1 h2.2.2.1 h2.2.2.2
 split at h1
 ·omega
 ·split at h1
  ·omega
  ·split at h1 <;> omega
theorem Qeu {m:Q6} (h:QC m=true) {k:Nat} (hk:k<m.length):QS (gtd dOp m k)=true:=by
 simp only [QC,Bool.and_eq_true] at h
 exact (Qgm h.2 k _ (QeQ hk dOp)).1
theorem Qek {α:Type} (d:α) {v:List α} {k:Nat} (h:v.length=k+1):v.take k++[gtd d v k]=v:=by
 have h1:gtd d v k=v[k]'(by omega):=Qj9 (List.getElem?_eq_getElem (by omega)) d
 rw [h1,List.take_append_getElem (by omega),List.take_of_length_le (by omega)]
theorem QmO {α:Type} (d:α) {v:List α} {n:Nat} (y:α) (h:v.length=n):gtd d (v++[y]) n=y:=by
 refine Qj9 ?_ d
 rw [List.getElem?_append_right (by omega)];simp [h]
theorem Qti {α:Type} {v:List α} {n:Nat} (y:α) (h:v.length=n):(v++[y]).take n=v:=by
 rw [List.take_append_of_le_length (by omega),List.take_of_length_le (by omega)]
theorem Qp7 {α:Type} (n:Nat) (e g:α) (l:List α):(List.replicate (n+1) e++l).set n g=List.replicate n e++g::l:=by
 rw [List.replicate_succ',List.append_assoc,List.set_append_right _ _ (by simp)]
 simp
theorem Qhl {m:Q6} {x:List Int} (h1:QC m=true) (h2:Qf x (QV m)=true):Yt m x=Qp m x:=by unfold Yt;rw [if_pos (by rw [h1,h2];rfl)]
theorem QsH:∀ {ops:List TOp'} {rows:List (List Int)},rows.length=ops.length→(∀ o,o∈ops→QS o=true)→Z8 ops rows=true→sz rows≤37*ops.length
 | [],[],_,_,_=>by simp
 | [],r::rs,h,_,_=>by simp at h
 | o::os,[],h,_,_=>by simp at h
 | o::os,r::rs,h,ho,hg=>by
  simp only [Z8,Bool.and_eq_true,beq_iff_eq] at hg
  have h1:=QgZ (ho o List.mem_cons_self)
  have h2:=QsH (by simpa using h) (fun p hp=>ho p (List.mem_cons_of_mem _ hp)) hg.2
  have h3:=ZF r
  rw [QaH,List.length_cons];omega
theorem Qqu {m:Q6} (h:QC m=true):∀ o,o∈m→QS o=true:=by
 intro o ho
 obtain ⟨i,hi⟩:=List.getElem?_of_mem ho
 simp only [QC,Bool.and_eq_true] at h
 exact (Qgm h.2 i o hi).1
theorem Qms {m:Q6} (h:QC m=true):(Z0 m).1.length=m.length∧Z8 m (Z0 m).1=true:=by
 unfold Z0
 rw [if_pos h]
 simp only [List.length_map,true_and]
 clear h
 induction m with
 | nil=>rfl
 | cons o l ih=>simp [Z8,ih]
theorem Qh0 {m:Q6} (h:QC m=true) {a:QK} (h1:a.1.length=m.length∧Z8 m a.1=true):sz a≤296:=by
 have:=QsH h1.1 (Qqu h) h1.2
 have:=Zw h
 simp only [Yz,Ym,YY];omega
end Go.Proofs.YtjbdljkhbglnhaaGreat.Am

