/- -/
import Derived.Test.YtdplaepmjogjjaaGreatVCG7
set_option linter.all false
namespace Go.Proofs.YtdplaepmjogjjaaGreat.Am
open Go Sz
def tm (ds n M s:Int) (i:TIns):Int :=
 let F:=s+2*i.2
 let B:=(if ds=2 then 2*n-1 else 2*n-1+2*M)-s+2*i.2
 if i.1=1 then 8*F else if i.1=2 then 8*F+1 else if i.1=3 then 8*F+2
 else if i.1=4 then 8*B else if i.1=5 then 8*B+1 else if i.1=6 then 8*B+2 else if i.1=7 then 8*B+3 else 1000000
def rcOf (f:Nat) (k1:Int):Nat:=if k1=1 then f+1 else f
def scOf (f:Nat) (k1:Int):Nat:=if k1=2 then f-1 else f
def rgOf (n s:Int) (g:Nat) (k1:Int):Nat:=if k1=4∨(k1=5∧s<n-1) then g+1 else g
def sgQ (g:Nat) (k1:Int):Nat:=if k1=6 then g-1 else g
def kf (i:TIns):Nat:=if i.1=2 then 1 else 0
def kg (i:TIns):Nat:=if i.1=6 then 1 else 0
def cf (l:List TIns):Nat:=(l.map kf).sum
def cg (l:List TIns):Nat:=(l.map kg).sum
def QB0 (l:List TIns) (k:Nat):Int:=if k=0 then 0 else (gtd dIns l (k-1)).1
end Go.Proofs.YtdplaepmjogjjaaGreat.Am
namespace Go.Proofs.YtdplaepmjogjjaaGreat.Am
open Go Sz
theorem Yu (x:Int):-2147483647≤Qo x∧Qo x≤2147483647:=by unfold Qo iMin iMax;split <;> split <;> omega
theorem QpZ {x:Int}:Q2 x=true↔-2147483647≤x∧x≤2147483647:=by simp [Q2]
theorem QxA (x:Int):Q2 (Qo x)=true:=QpZ.2 (Yu x)
theorem Qv8 (x:Int):Q2 (Zo x).1=true:=QxA x
theorem QyB (a b:Int):Q2 (Q3 a b).1=true:=Qv8 _
theorem Yw {v:List Int}:QD v=true↔(1≤v.length∧v.length≤6)∧ZS v=true:=by
 simp only [QD,Bool.and_eq_true,Zk]
 constructor
 ·rintro ⟨h1,h2⟩;exact ⟨by omega,h2⟩
 ·rintro ⟨h1,h2⟩;exact ⟨by omega,h2⟩
theorem Qmj {v:List Int} {n:Int}:Qw v n=true↔QD v=true∧(v.length:Int)=n:=by simp [Qw]
theorem QmA:∀ (a b:List Int) (z:Int),Q2 z=true→Q2 (ZD a b z).1=true
 | [],b,z,h=>by simpa [ZD] using h
 | a::aa,[],z,h=>by simpa [ZD] using h
 | a::aa,b::bb,z,h=>by rw [ZD];exact QmA aa bb _ (QyB _ _)
theorem QuF (a b:List Int):Q2 (QJ a b).1=true:=by
 unfold QJ;split
 ·exact QmA _ _ _ rfl
 ·rfl
theorem Qbz {a b:List Int}:Zg a b=true↔QD a=true∧QD b=true∧b.length=a.length:=by
 unfold Zg;rw [Bool.and_eq_true,Qmj]
 constructor <;> (intro h;exact ⟨h.1,h.2.1,by omega⟩)
theorem Qvw {o:TOp'} (h:Q7 o=true):(o.2.2.2.length:Int)=(if o.1=1∨o.1=5 then o.2.1*o.2.2.1 else if o.1=2 then o.2.1 else if o.1=4 then 1 else 0):=by
 have h1:=Qx7 h
 simp only [Q7,Bool.and_eq_true,beq_iff_eq] at h
 rw [h.1.2]
 unfold ZK
 rw [show m_in o.2.1 1 6=true from Zk.2 ⟨h1.1,h1.2.1⟩,show m_in o.2.2.1 1 6=true from Zk.2 ⟨h1.2.2.1,h1.2.2.2⟩]
 rfl
theorem QjI:∀ (ops:List TOp') (x:List Int),(Qq ops x).1.length=ops.length+1
 | [],x=>rfl
 | o::r,x=>by simp [Qq,QjI r]
def Jl (ops:List TOp') (x:List Int):List Int:=gtd [] (Qq ops x).1 ops.length
theorem QFN (x:List Int):Jl [] x=x:=rfl
theorem QCD (o:TOp') (r:List TOp') (x:List Int):Jl (o::r) x=Jl r (Zm o x).1:=by
 unfold Jl;rw [Qq];simp [gtd]
end Go.Proofs.YtdplaepmjogjjaaGreat.Am
namespace Go.Proofs.YtdplaepmjogjjaaGreat.Am
open Go Sz
def JC:Int→List TOp'→Int→Prop
 | i,[],o=>i=o
 | i,a::r,o=>Q7 a=true∧a.2.1=i∧JC a.2.2.1 r o
theorem JC.append:∀ {a b:List TOp'} {i o:Int},JC i (a++b) o↔∃ k,JC i a k∧JC k b o
 | [],b,i,o=>by simp [JC]
 | x::a,b,i,o=>by
  rw [List.cons_append,JC,JC.append]
  constructor
  ·rintro ⟨h1,h2,k,h3,h4⟩;exact ⟨k,⟨h1,h2,h3⟩,h4⟩
  ·rintro ⟨k,⟨h1,h2,h3⟩,h4⟩;exact ⟨h1,h2,k,h3,h4⟩
end Go.Proofs.YtdplaepmjogjjaaGreat.Am
namespace Go.Proofs.YtdplaepmjogjjaaGreat.Am
open Go Sz
def Qx {α:Type} [Sz α] (x:α):Prop:=sz x≤2147483648
def QgE (ops:List TOp') (x:List Int):Prop:=ops.length≤1000000∧x.length≤1000000
def Qhv (m:TMat) (i:Int):Prop:=0≤m.2.1∧m.2.1≤6∧0≤i∧i<m.1∧m.1≤6∧(m.2.2.length:Int)=m.1*m.2.1
@[simp] theorem Zu {α:Type} (v:List α) (e:α):List.take (v.length+1) (List.take v.length v++[e])=v++[e]:=by
 rw [List.take_length,List.take_of_length_le (by simp)]
@[simp] theorem QIs {α:Type} (v xs:List α):List.take (v.length+xs.length) (List.take v.length v++xs)=v++xs:=by
 rw [List.take_length,List.take_of_length_le (by simp)]
theorem Qbc {α:Type} {l:List α} {k:Nat} (h:k<l.length):∃ y q,l.drop k=y::q:=by
 cases hq:l.drop k with
 | nil=>have:=congrArg List.length hq;simp at this;omega
 | cons y q=>exact ⟨y,q,rfl⟩
theorem Yv {α:Type} {v:List α} {k:Nat} {x:α} (h:v.length=k):(v++[x]).length=k+1:=by simp [h]
theorem room {n:Nat} (h:n+1≤2147483648):(n=n∨n+1≤n)∧n+1≤big:=⟨.inl rfl,by rw [ZT];omega⟩
theorem sc1 {k:Nat} (h:k<9223372036854775807):w64 ((k:Int)+1)=((k+1:Nat):Int):=by rw [Qv (by omega) (by omega)];omega
theorem Quf (a b:Int):-4611686018427387904≤Qo a*Qo b∧Qo a*Qo b≤4611686018427387904:=by
 obtain ⟨h1,h2⟩:=Yu a
 obtain ⟨h3,h4⟩:=Yu b
 generalize Qo a=x at *
 generalize Qo b=y at *
 have hx:x.natAbs≤2147483647:=by omega
 have hy:y.natAbs≤2147483647:=by omega
 have h:=Nat.mul_le_mul hx hy
 rw [← Int.natAbs_mul] at h
 omega
theorem QvL (x:Int):(if 2147483647<(if x < -2147483647 then -2147483647 else x) then 2147483647 else (if x < -2147483647 then -2147483647 else x))=Qo x:=by
 unfold Qo iMin iMax;repeat' split
 all_goals omega
theorem QAa (a:Int):(if ((Int.tmod a 65536 != 0)&&(!(decide (a<0)==decide ((65536:Int)<0))))=true then Int.tdiv a 65536-1 else Int.tdiv a 65536)=Int.fdiv a 65536:=by
 rw [Int.fdiv_eq_ediv_of_nonneg _ (by omega),Int.tmod_eq_emod,Int.tdiv_eq_ediv]
 have hs:Int.sign 65536=1:=rfl
 rw [hs]
 by_cases h:0≤a
 ·have:decide (a<0)=false:=by simp;omega
  simp [h,this]
 ·have:decide (a<0)=true:=by simp;omega
  by_cases h2:(65536:Int) ∣ a
  ·have:a % 65536=0:=Int.emod_eq_zero_of_dvd h2
   simp [h,h2,this]
  ·have:a % 65536≠0:=fun e=>h2 (Int.dvd_of_emod_eq_zero e)
   simp [h,h2,this]
   omega
theorem idx {r R C:Int} (h1:0≤r) (h2:r<R) (h3:0≤C):0≤r*C∧r*C+C≤R*C∧(r+1)*C=r*C+C:=by
 have h4:(r+1)*C=r*C+C:=by rw [Int.add_mul,Int.one_mul]
 have h5:=Int.mul_le_mul_of_nonneg_right (show r+1≤R by omega) h3
 exact ⟨Int.mul_nonneg h1 h3,by omega,h4⟩
theorem QjF {m:TMat} (h:Zr m=true):1≤m.1∧m.1≤6∧1≤m.2.1∧m.2.1≤6∧(m.2.2.length:Int)=m.1*m.2.1∧m.1*m.2.1≤36∧ZS m.2.2=true:=by
 simp only [Zr,Bool.and_eq_true,Zk,beq_iff_eq] at h
 have:=Qbf h.1.1.1.1 h.1.1.1.2 h.1.1.2.1 h.1.1.2.2
 exact ⟨h.1.1.1.1,h.1.1.1.2,h.1.1.2.1,h.1.1.2.2,h.1.2,this.2,h.2⟩
theorem Qrw {f:Nat→Bool} {k:Nat}:(List.range (k+1)).any f=((List.range k).any f||f k):=by rw [List.range_succ,List.any_append];simp
theorem QnW {α:Type} {f:Nat→α} {k:Nat}:(List.range (k+1)).map f=(List.range k).map f++[f k]:=by rw [List.range_succ,List.map_append];rfl
theorem Qo4 {m:TMat} {d:List Int} (h:¬ (Zr m=true∧Qw d m.2.1=true)):QK m d=([],false):=by unfold QK;rw [if_neg (by simpa using h)]
theorem QeH {x:Int} (h:0≤x):0≤Qo x:=by
 unfold Qo iMin iMax
 repeat' split
 all_goals omega
theorem QnB:∀ (a:List Int) (z:Int),0≤z→0≤(ZD a a z).1
 | [],z,h=>by simpa [ZD] using h
 | x::r,z,h=>by
  rw [ZD]
  refine QnB r _ ?_
  have h1:0≤Qo x*Qo x:=by
   rcases Int.le_total 0 (Qo x) with h2 | h2
   ·exact Int.mul_nonneg h2 h2
   ·exact Int.mul_nonneg_of_nonpos_of_nonpos h2 h2
  have h3:0≤Int.fdiv (Qo x*Qo x) 65536:=by rw [Int.fdiv_eq_ediv_of_nonneg _ (by omega)];omega
  have h4:0≤(Za x x).1:=QeH h3
  have h5:=QeH h
  have h6:=QeH h4
  exact QeH (by omega)
theorem QuE (a:List Int):0≤(QJ a a).1:=by
 unfold QJ;split
 ·exact QnB a 0 (by omega)
 ·show (0:Int)≤0;omega
theorem Qze (x:List Int) (n:Int):(!(QD x)||((x.length:Int) != n)) = !(Qw x n):=by unfold Qw;simp [bne]
theorem Ql4 {o:TOp'} (h:Q7 o=true) (h4:o.1=4):0<o.2.2.2.length:=by
 have:=Qvw h
 rw [if_neg (by omega),if_neg (by omega),if_pos h4] at this
 omega
theorem QlF {o:TOp'} {x:List Int} (h:¬ (Q7 o=true∧Qw x o.2.1=true)):Zm o x=([],false):=by unfold Zm;rw [if_neg (by simpa using h)]
theorem QlE {o:TOp'} (h:Q7 o=true):1≤o.1∧o.1≤5:=by simp only [Q7,Bool.and_eq_true,Zk] at h;exact h.1.1.1.1.1
theorem Qee {α:Type} (v:List α):List.take (id v).length (List.drop 0 (id v))=v:=by simp
theorem QjP {α:Type} (v:List α):List.take (0+v.length) (List.drop 0 v)=v:=by simp
theorem Qld {α:Type} (v:List α):List.take v.length (List.drop 0 v)=v:=by simp
theorem drop_nil {α:Type} {l:List α} {k:Nat} (h:l.length≤k):l.drop k=[]:=List.drop_eq_nil_of_le h
theorem Qa2 {α:Type} [Sz α] {l:List α} {A:Int→List α→Prop} {Q:List α→Prop} (hs:sz l≤2147483648)
  (hA:∀ (k:Nat) (x:α) (v:List α),k<l.length→l.length≤2147483648→(∀ d,gtd d l k=x)→v.length=k→sz x≤2147483648→A ((k+1:Nat):Int) (v++[x])→A (k:Nat) v)
  (hE:Q l→A (l.length:Nat) l) (hq:Q l):A 0 []:=by
 have hl:=Ju l
 refine Zh l (fun r k=>∀ v,v.length=k→v++r=l→A k v) ?_ ?_ [] rfl rfl
 ·intro v hv he
  rw [List.append_nil] at he
  subst he
  exact hE hq
 ·intro k x r hk hlt hg ih v hv he
  have hx:=QoP hk
  exact hA k x v hlt (by omega) hg hv (by omega) (ih _ (Yv hv) (by rw [← he];simp))
theorem QfH {α:Type} (d:α) {v:List α} {k:Nat} (h:v.length=k+1):v.take k++[gtd d v k]=v:=by
 have h1:gtd d v k=v[k]'(by omega):=QnN (List.getElem?_eq_getElem (by omega)) d
 rw [h1,List.take_append_getElem (by omega),List.take_of_length_le (by omega)]
theorem Qs6 {α:Type} (d:α) {v:List α} {n:Nat} (y:α) (h:v.length=n):gtd d (v++[y]) n=y:=by
 refine QnN ?_ d
 rw [List.getElem?_append_right (by omega)];simp [h]
theorem Qmc {α:Type} {v:List α} {n:Nat} (y:α) (h:v.length=n):(v++[y]).take n=v:=by
 rw [List.take_append_of_le_length (by omega),List.take_of_length_le (by omega)]
theorem Qkn {m:Q6} {x:List Int} (h1:QR m=true) (h2:Qw x (Zn m)=true):YO m x=Qq m x:=by unfold YO;rw [if_pos (by rw [h1,h2];rfl)]
end Go.Proofs.YtdplaepmjogjjaaGreat.Am

