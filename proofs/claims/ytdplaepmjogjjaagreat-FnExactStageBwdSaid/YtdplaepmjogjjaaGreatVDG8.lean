/- -/
import Derived.Test.YtdplaepmjogjjaaGreatVDG7
set_option linter.all false
namespace Go.Proofs.YtdplaepmjogjjaaGreat.Am
open Go Sz
def tm (ds n M s:Int) (i:TIns):Int :=
 let F:=s+2*i.2
 let B:=(if ds=2 then 2*n-1 else 2*n-1+2*M)-s+2*i.2
 if i.1=1 then 8*F else if i.1=2 then 8*F+1 else if i.1=3 then 8*F+2
 else if i.1=4 then 8*B else if i.1=5 then 8*B+1 else if i.1=6 then 8*B+2 else if i.1=7 then 8*B+3 else 1000000
def rcOf (f:Nat) (k1:Int):Nat:=if k1=1 then f+1 else f
def scOf (f:Nat) (k1:Int):Nat:=if k1=2 then f-1 else f
def rgOf (n s:Int) (g:Nat) (k1:Int):Nat:=if k1=4∨(k1=5∧s<n-1) then g+1 else g
def sgQ (g:Nat) (k1:Int):Nat:=if k1=6 then g-1 else g
def kf (i:TIns):Nat:=if i.1=2 then 1 else 0
def kg (i:TIns):Nat:=if i.1=6 then 1 else 0
def cf (l:List TIns):Nat:=(l.map kf).sum
def cg (l:List TIns):Nat:=(l.map kg).sum
def QwN (l:List TIns) (k:Nat):Int:=if k=0 then 0 else (gtd dIns l (k-1)).1
end Go.Proofs.YtdplaepmjogjjaaGreat.Am
namespace Go.Proofs.YtdplaepmjogjjaaGreat.Am
open Go Sz
theorem Ja (x:Int):-2147483647≤Qv x∧Qv x≤2147483647:=by unfold Qv iMin iMax;split <;> split <;> omega
theorem ZV {v:List Int}:QA v=true↔(1≤v.length∧v.length≤6)∧ZH v=true:=by
 simp only [QA,Bool.and_eq_true,Zw]
 constructor
 ·rintro ⟨h1,h2⟩;exact ⟨by omega,h2⟩
 ·rintro ⟨h1,h2⟩;exact ⟨by omega,h2⟩
theorem Qjg {v:List Int} {n:Int}:Qq v n=true↔QA v=true∧(v.length:Int)=n:=by simp [Qq]
theorem JF {a b:List Int}:Zd a b=true↔QA a=true∧QA b=true∧b.length=a.length:=by
 unfold Zd;rw [Bool.and_eq_true,Qjg]
 constructor <;> (intro h;exact ⟨h.1,h.2.1,by omega⟩)
theorem Qvb {o:TOp'} (h:Q3 o=true):(o.2.2.2.length:Int)=(if o.1=1∨o.1=5 then o.2.1*o.2.2.1 else if o.1=2 then o.2.1 else if o.1=4 then 1 else 0):=by
 have h1:=Qvw h
 simp only [Q3,Bool.and_eq_true,beq_iff_eq] at h
 rw [h.1.2]
 unfold Z0
 rw [show m_in o.2.1 1 6=true from Zw.2 ⟨h1.1,h1.2.1⟩,show m_in o.2.2.1 1 6=true from Zw.2 ⟨h1.2.2.1,h1.2.2.2⟩]
 rfl
def Qla (ops:List TOp') (x:List Int):List Int:=gtd [] (QbL ops x).1 ops.length
theorem Qjr:∀ (ops:List TOp') (rows:List (List Int)) (d:List Int),ops.length≤rows.length→(Qy ops rows d).1.length=ops.length
 | [],rows,d,_=>by simp [Qy]
 | o::os,[],d,h=>by simp at h
 | o::os,r::rs,d,h=>by simp [Qy,Qjr os rs d (by simpa using h)]
end Go.Proofs.YtdplaepmjogjjaaGreat.Am
namespace Go.Proofs.YtdplaepmjogjjaaGreat.Am
open Go Sz
def J6:Int→List TOp'→Int→Prop
 | i,[],o=>i=o
 | i,a::r,o=>Q3 a=true∧a.2.1=i∧J6 a.2.2.1 r o
theorem J6.append:∀ {a b:List TOp'} {i o:Int},J6 i (a++b) o↔∃ k,J6 i a k∧J6 k b o
 | [],b,i,o=>by simp [J6]
 | x::a,b,i,o=>by
  rw [List.cons_append,J6,J6.append]
  constructor
  ·rintro ⟨h1,h2,k,h3,h4⟩;exact ⟨k,⟨h1,h2,h3⟩,h4⟩
  ·rintro ⟨k,⟨h1,h2,h3⟩,h4⟩;exact ⟨h1,h2,k,h3,h4⟩
end Go.Proofs.YtdplaepmjogjjaaGreat.Am
namespace Go.Proofs.YtdplaepmjogjjaaGreat.Am
open Go Sz
def QH {α:Type} [Sz α] (x:α):Prop:=sz x≤2147483648
def ZB {α β:Type} [Sz α] [Sz β] (x:α) (y:β):Prop:=sz x+sz y≤2147483648
def QjP (m:TMat) (k:Int):Prop:=m.2.1≤6∧0≤k∧k<m.2.1∧0≤m.1∧m.1≤6∧(m.2.2.length:Int)=m.1*m.2.1
@[simp] theorem Zm {α:Type} (v:List α) (e:α):List.take (v.length+1) (List.take v.length v++[e])=v++[e]:=by
 rw [List.take_length,List.take_of_length_le (by simp)]
@[simp] theorem QKH {α:Type} (v xs:List α):List.take (v.length+xs.length) (List.take v.length v++xs)=v++xs:=by
 rw [List.take_length,List.take_of_length_le (by simp)]
theorem ZQ {α:Type} {l:List α} {k:Nat} (h:k<l.length):∃ y q,l.drop k=y::q:=by
 cases hq:l.drop k with
 | nil=>have:=congrArg List.length hq;simp at this;omega
 | cons y q=>exact ⟨y,q,rfl⟩
theorem ZZ {α:Type} {v:List α} {k:Nat} {x:α} (h:v.length=k):(v++[x]).length=k+1:=by simp [h]
theorem room {n:Nat} (h:n+1≤2147483648):(n=n∨n+1≤n)∧n+1≤big:=⟨.inl rfl,by rw [Zz];omega⟩
theorem sc1 {k:Nat} (h:k<9223372036854775807):w64 ((k:Int)+1)=((k+1:Nat):Int):=by rw [Qx (by omega) (by omega)];omega
theorem Qmq (a b:Int):-4611686018427387904≤Qv a*Qv b∧Qv a*Qv b≤4611686018427387904:=by
 obtain ⟨h1,h2⟩:=Ja a
 obtain ⟨h3,h4⟩:=Ja b
 generalize Qv a=x at *
 generalize Qv b=y at *
 have hx:x.natAbs≤2147483647:=by omega
 have hy:y.natAbs≤2147483647:=by omega
 have h:=Nat.mul_le_mul hx hy
 rw [← Int.natAbs_mul] at h
 omega
theorem QDi (x:Int):(if 2147483647<(if x < -2147483647 then -2147483647 else x) then 2147483647 else (if x < -2147483647 then -2147483647 else x))=Qv x:=by
 unfold Qv iMin iMax;repeat' split
 all_goals omega
theorem QxH (a:Int):(if ((Int.tmod a 65536 != 0)&&(!(decide (a<0)==decide ((65536:Int)<0))))=true then Int.tdiv a 65536-1 else Int.tdiv a 65536)=Int.fdiv a 65536:=by
 rw [Int.fdiv_eq_ediv_of_nonneg _ (by omega),Int.tmod_eq_emod,Int.tdiv_eq_ediv]
 have hs:Int.sign 65536=1:=rfl
 rw [hs]
 by_cases h:0≤a
 ·have:decide (a<0)=false:=by simp;omega
  simp [h,this]
 ·have:decide (a<0)=true:=by simp;omega
  by_cases h2:(65536:Int) ∣ a
  ·have:a % 65536=0:=Int.emod_eq_zero_of_dvd h2
   simp [h,h2,this]
  ·have:a % 65536≠0:=fun e=>h2 (Int.dvd_of_emod_eq_zero e)
   simp [h,h2,this]
   omega
theorem idx {r R C:Int} (h1:0≤r) (h2:r<R) (h3:0≤C):0≤r*C∧r*C+C≤R*C∧(r+1)*C=r*C+C:=by
 have h4:(r+1)*C=r*C+C:=by rw [Int.add_mul,Int.one_mul]
 have h5:=Int.mul_le_mul_of_nonneg_right (show r+1≤R by omega) h3
 exact ⟨Int.mul_nonneg h1 h3,by omega,h4⟩
theorem QbI {m:TMat} (h:Q9 m=true):1≤m.1∧m.1≤6∧1≤m.2.1∧m.2.1≤6∧(m.2.2.length:Int)=m.1*m.2.1∧m.1*m.2.1≤36∧ZH m.2.2=true:=by
 simp only [Q9,Bool.and_eq_true,Zw,beq_iff_eq] at h
 have:=QaN h.1.1.1.1 h.1.1.1.2 h.1.1.2.1 h.1.1.2.2
 exact ⟨h.1.1.1.1,h.1.1.1.2,h.1.1.2.1,h.1.1.2.2,h.1.2,this.2,h.2⟩
theorem QsK {f:Nat→Bool} {k:Nat}:(List.range (k+1)).any f=((List.range k).any f||f k):=by rw [List.range_succ,List.any_append];simp
theorem QeL {α:Type} {f:Nat→α} {k:Nat}:(List.range (k+1)).map f=(List.range k).map f++[f k]:=by rw [List.range_succ,List.map_append];rfl
theorem Qhl {α:Type} {f:Nat→List α} {k:Nat}:(List.range (k+1)).flatMap f=(List.range k).flatMap f++f k:=by rw [List.range_succ,List.flatMap_append];simp
theorem Qjw {α:Type} {f:Nat→List α} {R:Nat} (n:Nat) (h:∀ k,k<n→(f k).length=R):((List.range n).flatMap f).length=n*R:=by
 induction n with
 | zero=>simp
 | succ n ih=>rw [Qhl,List.length_append,ih (fun k hk=>h k (by omega)),h n (by omega),Nat.add_mul];omega
theorem Qlx {α:Type} {f:Nat→List α} {R:Nat} {k:Nat}:∀ (n:Nat),k<n→(∀ k,k<n→(f k).length=R)→(((List.range n).flatMap f).drop (k*R)).take R=f k
 | 0,hk,_=>by omega
 | n+1,hk,h=>by
  have hl:=Qjw n (fun k hk=>h k (by omega))
  rw [Qhl]
  by_cases e:k=n
  ·subst e
   rw [List.drop_append,List.drop_eq_nil_of_le (by omega),hl,Nat.sub_self,List.drop_zero,List.nil_append,List.take_of_length_le (by rw [h k (by omega)];exact Nat.le_refl _)]
  ·have ih:=Qlx (k:=k) n (by omega) (fun k hk=>h k (by omega))
   have:(k+1)*R≤n*R:=Nat.mul_le_mul_right R (show k+1≤n by omega)
   rw [Nat.add_mul,Nat.one_mul] at this
   rw [List.drop_append_of_le_length (by omega),List.take_append_of_le_length (by rw [List.length_drop,hl];omega),ih]
theorem QiG (m:TMat) (k:Int):(Zl m k).length=m.1.toNat:=by simp [Zl]
theorem QC5 {m:TMat} (h:Q9 m=true) {k:Nat} (hk:(k:Int)<m.2.1):ZH (Zl m k)=true:=by
 obtain ⟨h1,h2,h3,h4,h5,h6,h7⟩:=QbI h
 unfold ZH Zl
 rw [List.all_eq_true]
 intro x hx
 obtain ⟨i,hi,rfl⟩:=List.mem_map.1 hx
 have hi:=List.mem_range.1 hi
 have hd:=idx (r:=i) (R:=m.1) (C:=m.2.1) (by omega) (by omega) (by omega)
 unfold ZH at h7
 generalize (i:Int)*m.2.1=z at *
 generalize m.1*m.2.1=y at *
 exact List.all_eq_true.1 h7 _ (QEn (show Int.toNat (z+k)<m.2.2.length by omega) 0)
theorem QH2 {m:TMat} (h:Q9 m=true):Q9 (ZF m)=true∧(ZF m).1=m.2.1∧(ZF m).2.1=m.1∧∀ k:Nat,(k:Int)<m.2.1→Jt (ZF m) k=Zl m k:=by
 obtain ⟨h1,h2,h3,h4,h5,h6,h7⟩:=QbI h
 have ht:ZF m=(m.2.1,m.1,(List.range m.2.1.toNat).flatMap fun k:Nat=>Zl m k):=by unfold ZF;rw [if_pos h]
 have hl:=Qjw (f:=fun k:Nat=>Zl m k) m.2.1.toNat (fun k hk=>QiG m k)
 have hn:((m.2.1.toNat*m.1.toNat:Nat):Int)=m.2.1*m.1:=by rw [Int.natCast_mul,Int.toNat_of_nonneg (by omega),Int.toNat_of_nonneg (by omega)]
 rw [ht]
 refine ⟨?_,rfl,rfl,fun k hk=>?_⟩
 ·simp only [Q9,Bool.and_eq_true,Zw,beq_iff_eq]
  refine ⟨⟨⟨⟨h3,h4⟩,h1,h2⟩,by rw [hl,hn]⟩,?_⟩
  unfold ZH
  rw [List.all_eq_true]
  intro x hx
  obtain ⟨k,hk,hx⟩:=List.mem_flatMap.1 hx
  have:=QC5 h (k:=k) (by have:=List.mem_range.1 hk;omega)
  unfold ZH at this
  exact List.all_eq_true.1 this x hx
 ·have hs:=Qlx (f:=fun k:Nat=>Zl m k) (k:=k) m.2.1.toNat (by omega) (fun k hk=>QiG m k)
  have hd:=idx (r:=k) (R:=m.2.1) (C:=m.1) (by omega) hk (by omega)
  have e1:Int.toNat ((k:Int)*m.1)=k*m.1.toNat:=by
   have:((k*m.1.toNat:Nat):Int)=(k:Int)*m.1:=by rw [Int.natCast_mul,Int.toNat_of_nonneg (by omega)]
   omega
  unfold Jt slice
  simp only
  rw [show Int.toNat (((k:Int)+1)*m.1)-Int.toNat ((k:Int)*m.1)=m.1.toNat by omega,e1]
  exact hs
theorem Qv7 {m:TMat} {d:List Int} (h:Q9 m=true) (hd:Qq d m.1=true):ZP (ZF m) d=Q2 m d:=by
 obtain ⟨h1,h2,h3,h4⟩:=QH2 h
 unfold ZP Q2
 rw [if_pos (by rw [h1,h3,hd];rfl),if_pos (by rw [h,hd];rfl),h2]
 have e:∀ i,i∈List.range m.2.1.toNat→Jt (ZF m) (i:Nat)=Zl m (i:Nat):=fun i hi=>h4 i (by have:=List.mem_range.1 hi;omega)
 refine Prod.ext (List.map_congr_left fun i hi=>by rw [e i hi]) ?_
 show (List.range m.2.1.toNat).any _=(List.range m.2.1.toNat).any _
 rw [Bool.eq_iff_iff,List.any_eq_true,List.any_eq_true]
 constructor
 ·rintro ⟨i,hi,h⟩;exact ⟨i,hi,by rw [← e i hi];exact h⟩
 ·rintro ⟨i,hi,h⟩;exact ⟨i,hi,by rw [e i hi];exact h⟩
theorem QqT {m:TMat} {d:List Int} (h:¬ (Q9 m=true∧Qq d m.1=true)):Q2 m d=([],false):=by unfold Q2;rw [if_neg (by simpa using h)]
theorem QEF {m:TMat} {d:List Int} (h:¬ (Q9 m=true∧Qq d m.2.1=true)):ZP m d=([],false):=by unfold ZP;rw [if_neg (by simpa using h)]
theorem Qo2 (x:List Int) (n:Int):(!(QA x)||((x.length:Int) != n)) = !(Qq x n):=by unfold Qq;simp [bne]
theorem Qr0 {o:TOp'} (h:Q3 o=true) (h4:o.1=4):0<o.2.2.2.length:=by
 have:=Qvb h
 rw [if_neg (by omega),if_neg (by omega),if_pos h4] at this
 omega
theorem Qpf {o:TOp'} {x d:List Int} (h:¬ ((Q3 o=true∧Qq x o.2.1=true)∧Qq d o.2.2.1=true)):ZA o x d=([],[],false):=by unfold ZA;rw [if_neg (by simpa using h)]
theorem QpF {o:TOp'} (h:Q3 o=true):1≤o.1∧o.1≤5:=by simp only [Q3,Bool.and_eq_true,Zw] at h;exact h.1.1.1.1.1
theorem Qif {α:Type} (v:List α):List.take (id v).length (List.drop 0 (id v))=v:=by simp
theorem QpB {α:Type} (v:List α):List.take (0+v.length) (List.drop 0 v)=v:=by simp
theorem QmQ {α:Type} (v:List α):List.take v.length (List.drop 0 v)=v:=by simp
theorem drop_nil {α:Type} {l:List α} {k:Nat} (h:l.length≤k):l.drop k=[]:=List.drop_eq_nil_of_le h
theorem Qbm {α:Type} [Sz α] {l:List α} {A:Int→List α→Prop} {Q:List α→Prop} (hs:sz l≤2147483648)
  (hA:∀ (k:Nat) (x:α) (v:List α),k<l.length→l.length≤2147483648→(∀ d,gtd d l k=x)→v.length=k→sz x≤2147483648→A ((k+1:Nat):Int) (v++[x])→A (k:Nat) v)
  (hE:Q l→A (l.length:Nat) l) (hq:Q l):A 0 []:=by
 have hl:=Jc l
 refine Za l (fun r k=>∀ v,v.length=k→v++r=l→A k v) ?_ ?_ [] rfl rfl
 ·intro v hv he
  rw [List.append_nil] at he
  subst he
  exact hE hq
 ·intro k x r hk hlt hg ih v hv he
  have hx:=Qc6 hk
  exact hA k x v hlt (by omega) hg hv (by omega) (ih _ (ZZ hv) (by rw [← he];simp))
theorem QFt {o:TOp'} (h:Q3 o=true):o.2.2.2.length≤36:=by
 have h1:=Qvb h
 have h2:=Qvw h
 have h3:=QaN h2.1 h2.2.1 h2.2.2.1 h2.2.2.2
 split at h1
 ·omega
 ·split at h1
  ·omega
  ·split at h1 <;> omega
theorem QiN {α:Type} (n:Nat) (e g:α) (l:List α):(List.replicate (n+1) e++l).set n g=List.replicate n e++g::l:=by
 rw [List.replicate_succ',List.append_assoc,List.set_append_right _ _ (by simp)]
 simp
theorem Qmr:∀ {ops:List TOp'} {rows:List (List Int)},rows.length=ops.length→(∀ o,o∈ops→Q3 o=true)→Ya ops rows=true→sz rows≤37*ops.length
 | [],[],_,_,_=>by simp
 | [],r::rs,h,_,_=>by simp at h
 | o::os,[],h,_,_=>by simp at h
 | o::os,r::rs,h,ho,hg=>by
  simp only [Ya,Bool.and_eq_true,beq_iff_eq] at hg
  have h1:=QFt (ho o List.mem_cons_self)
  have h2:=Qmr (by simpa using h) (fun p hp=>ho p (List.mem_cons_of_mem _ hp)) hg.2
  have h3:=Z2 r
  rw [QcJ,List.length_cons];omega
theorem Qxi {m:Zg} (h:QX m=true):∀ o,o∈m→Q3 o=true:=by
 intro o ho
 obtain ⟨i,hi⟩:=List.getElem?_of_mem ho
 simp only [QX,Bool.and_eq_true] at h
 exact (Qiu h.2 i o hi).1
theorem QuB {m:Zg} (h:QX m=true) {a:Qm} (h1:a.1.length=m.length∧Ya m a.1=true):sz a≤296:=by
 have:=Qmr h1.1 (Qxi h) h1.2
 have:=YX h
 simp only [QZ,QK,Q0];omega
end Go.Proofs.YtdplaepmjogjjaaGreat.Am

