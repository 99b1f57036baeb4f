/- -/
import Derived.Test.YtjbdljkhbglnhaaGreatZAG7
set_option linter.all false
namespace Go.Proofs.YtjbdljkhbglnhaaGreat.Am
open Go Sz
def tm (ds n M s:Int) (i:TIns):Int :=
 let F:=s+2*i.2
 let B:=(if ds=2 then 2*n-1 else 2*n-1+2*M)-s+2*i.2
 if i.1=1 then 8*F else if i.1=2 then 8*F+1 else if i.1=3 then 8*F+2
 else if i.1=4 then 8*B else if i.1=5 then 8*B+1 else if i.1=6 then 8*B+2 else if i.1=7 then 8*B+3 else 1000000
def rcOf (f:Nat) (k1:Int):Nat:=if k1=1 then f+1 else f
def scOf (f:Nat) (k1:Int):Nat:=if k1=2 then f-1 else f
def rgOf (n s:Int) (g:Nat) (k1:Int):Nat:=if k1=4∨(k1=5∧s<n-1) then g+1 else g
def sgQ (g:Nat) (k1:Int):Nat:=if k1=6 then g-1 else g
def QiX (ds n M s:Int) (rd:Bool) (f g:Nat) (k1:Int) (i:TIns) (last:Bool):Bool :=
 decide (g≤f∧(f:Int)≤M∧1≤i.1∧i.1≤8∧0≤i.2∧i.2<M∧(i.1=8↔last=true)∧i≠(0,0)) &&
 decide (i.1=1→0<s∧i.2=f∧k1≠1) &&
 decide (i.1=2→i.2=f∧(0<s→k1=1)) &&
 decide (i.1=3→s<n-1∧i.2=(f:Int)-1∧k1=2) &&
 decide (i.1=4→s<n-1∧i.2=g) &&
 decide (i.1=5→rd=true∧i.2=g∧g<f∧(s<n-1→k1=4)) &&
 decide (i.1=6→i.2=g∧g<f∧(rd=true→k1=5)∧(rd=false→s<n-1→k1=4)) &&
 decide (i.1=7→0<s∧i.2=(g:Int)-1∧k1=6) &&
 decide (i.1=8→(f:Int)=M∧(g:Int)=M∧k1≠0) &&
 decide (k1=1→i.1=2)&&decide (k1=2→s<n-1→i.1=3)&&decide (k1=4→i.1=5∨i.1=6)&&decide (k1=5→i.1=6)&&decide (k1=6→0<s→i.1=7) &&
 decide (k1=5→rd=true)&&decide (k1=6→1≤g)&&decide (k1=2→1≤f)&&decide (k1≠8)&&decide (k1=4→s<n-1)&&decide (k1=1→0<s) &&
 decide (k1=4∨k1=5→g<f)&&decide (k1=1→(f:Int)<M) &&
 decide (s<n-1→(scOf f k1:Int)<M→tm ds n M s i≤tm ds n M s (3,(scOf f k1:Int))) &&
 decide (0<s→(rcOf f k1:Int)<M→tm ds n M s i≤tm ds n M s (1,(rcOf f k1:Int))) &&
 decide (s<n-1→(rgOf n s g k1:Int)<M→tm ds n M s i≤tm ds n M s (4,(rgOf n s g k1:Int))) &&
 decide (0<s→(sgQ g k1:Int)<M→tm ds n M s i≤tm ds n M s (7,(sgQ g k1:Int))) &&
 decide (ds=2→(f:Int)-g≤n-s)&&decide (ds=2→i.1=2→(f:Int)-g<n-s)
def Qkg (M:Int) (f g:Nat) (k1:Int):Bool:=decide ((f:Int)=M∧(g:Int)=M∧k1=8)
def kf (i:TIns):Nat:=if i.1=2 then 1 else 0
def kg (i:TIns):Nat:=if i.1=6 then 1 else 0
def QcY (ds n M s:Int) (rd:Bool):List TIns→Nat→Nat→Int→Bool
 | [],f,g,k1=>Qkg M f g k1
 | i::r,f,g,k1=>QiX ds n M s rd f g k1 i r.isEmpty&&QcY ds n M s rd r (f+kf i) (g+kg i) i.1
def QpR:Bool:=[1,2].all fun ds:Int=>[1,2,3,4].all fun n:Int=>[0,1,2,3].all fun s:Int=>[1,2,3,4,5].all fun M:Int=>[true,false].all fun rd =>
 !(decide (s<n))||QcY ds n M s rd (ZZ ds n s M rd) 0 0 0
set_option maxRecDepth 100000 in
theorem QJf:QpR=true:=by kernel_rfl
theorem QJP {ds n s M:Int} (rd:Bool) (h1:1≤ds) (h2:ds≤2) (h3:n≤4) (h4:0≤s) (h5:s<n) (h6:1≤M) (h7:M≤5):QcY ds n M s rd (ZZ ds n s M rd) 0 0 0=true:=by
 have h:=QJf
 unfold QpR at h
 rw [List.all_eq_true] at h
 have h:=h ds (by have:ds=1∨ds=2:=(by omega);rcases this with rfl | rfl <;> simp)
 rw [List.all_eq_true] at h
 have h:=h n (by have:n=1∨n=2∨n=3∨n=4:=(by omega);rcases this with rfl | rfl | rfl | rfl <;> simp)
 rw [List.all_eq_true] at h
 have h:=h s (by have:s=0∨s=1∨s=2∨s=3:=(by omega);rcases this with rfl | rfl | rfl | rfl <;> simp)
 rw [List.all_eq_true] at h
 have h:=h M (by have:M=1∨M=2∨M=3∨M=4∨M=5:=(by omega);rcases this with rfl | rfl | rfl | rfl | rfl <;> simp)
 rw [List.all_eq_true] at h
 have h:=h rd (by cases rd <;> simp)
 simpa [h5] using h
def cf (l:List TIns):Nat:=(l.map kf).sum
def cg (l:List TIns):Nat:=(l.map kg).sum
def Y0 (l:List TIns) (k:Nat):Int:=if k=0 then 0 else (gtd dIns l (k-1)).1
theorem Qkv {ds n M s:Int} {rd:Bool}:∀ (l:List TIns) (f g:Nat) (k1:Int),QcY ds n M s rd l f g k1=true→∀ k,k≤l.length →
  (∀ i,l[k]? = some i→QiX ds n M s rd (f+cf (l.take k)) (g+cg (l.take k)) (if k=0 then k1 else Y0 l k) i (decide (k+1=l.length))=true) ∧
  (k=l.length→Qkg M (f+cf (l.take k)) (g+cg (l.take k)) (if k=0 then k1 else Y0 l k)=true)
 | [],f,g,k1,h,k,hk=>by
  have:k=0:=by simpa using hk
  subst this
  simp only [QcY] at h
  exact ⟨fun i hi=>by simp at hi,fun _=>by simpa [cf,cg] using h⟩
 | i::r,f,g,k1,h,k,hk=>by
  simp only [QcY,Bool.and_eq_true] at h
  cases k with
  | zero =>
   refine ⟨fun j hj=>?_,fun h0=>by simp at h0⟩
   simp at hj
   subst hj
   have:r.isEmpty=decide (0+1=(i::r).length):=by cases r <;> simp
   rw [← this]
   simpa [cf,cg] using h.1
  | succ k =>
   have ih:=Qkv r (f+kf i) (g+kg i) i.1 h.2 k (by simpa using hk)
   have e1:f+cf ((i::r).take (k+1))=f+kf i+cf (r.take k):=by simp [cf];omega
   have e2:g+cg ((i::r).take (k+1))=g+kg i+cg (r.take k):=by simp [cg];omega
   have e3:(if k=0 then i.1 else Y0 r k)=Y0 (i::r) (k+1):=by
    unfold Y0
    cases k with
    | zero=>simp [gtd]
    | succ k=>simp [gtd]
   rw [e1,e2,if_neg (by omega),← e3]
   refine ⟨fun j hj=>?_,fun h0=>ih.2 (by simpa using h0)⟩
   have:=ih.1 j (by simpa using hj)
   rw [show decide (k+1+1=(i::r).length)=decide (k+1=r.length) by simp]
   exact this
end Go.Proofs.YtjbdljkhbglnhaaGreat.Am
namespace Go.Proofs.YtjbdljkhbglnhaaGreat.Am
open Go Sz
theorem Qbt (x:Int):-2147483647≤Zd x∧Zd x≤2147483647:=by unfold Zd iMin iMax;split <;> split <;> omega
theorem QkZ {x:Int}:Q6 x=true↔-2147483647≤x∧x≤2147483647:=by simp [Q6]
theorem QN9 (x:Int):Q6 (Zd x)=true:=QkZ.2 (Qbt x)
theorem Qp6 {x:Int} (h:Q6 x=true):Zd x=x:=by
 have:=QkZ.1 h
 unfold Zd iMin iMax;split <;> split <;> omega
theorem QkX (x:Int):Q6 (JH x).1=true:=QN9 x
theorem Qna (a b:Int):Q6 (Zk a b).1=true:=QkX _
theorem QPX (a b:Int):Q6 (Qb6 a b).1=true:=QkX _
theorem QMS (a b:Int):Q6 (ZT a b).1=true:=QkX _
theorem QQi (a:Int):Q6 (Qca a)=true:=by
 have:=Qbt a
 rw [QkZ];unfold Qca iMax;split <;> omega
theorem QA0 {a:Int} (h:Q6 a=true):Zk a 0=(a,false):=by
 have e:Zd 0=0:=rfl
 unfold Zk JH
 rw [e,Int.add_zero,Qp6 h,Qp6 h,h];rfl
theorem QxT {x:Int} {l:List Int}:Zs (x::l)=(Q6 x&&Zs l):=rfl
theorem YE {v:List Int}:Q1 v=true↔(1≤v.length∧v.length≤6)∧Zs v=true:=by
 simp only [Q1,Bool.and_eq_true,QR]
 constructor
 ·rintro ⟨h1,h2⟩;exact ⟨by omega,h2⟩
 ·rintro ⟨h1,h2⟩;exact ⟨by omega,h2⟩
theorem YK {v:List Int} {n:Int}:Qs v n=true↔Q1 v=true∧(v.length:Int)=n:=by simp [Qs]
theorem QjZ (f:Int→Int→Int × Bool):∀ a b:List Int,(vz f a b).1.length=min a.length b.length
 | [],b=>by simp [vz]
 | a::aa,[]=>by simp [vz]
 | a::aa,b::bb=>by simp [vz,QjZ f aa bb]
theorem Qvj {f:Int→Int→Int × Bool} (hf:∀ a b,Q6 (f a b).1=true):∀ a b:List Int,Zs (vz f a b).1=true
 | [],b=>by simp [vz,Zs]
 | a::aa,[]=>by simp [vz,Zs]
 | a::aa,b::bb=>by simp only [vz,QxT,hf,Qvj hf aa bb,Bool.and_self]
theorem Qrl (f:Int→Int × Bool):∀ a:List Int,(v1 f a).1.length=a.length
 | []=>rfl
 | a::aa=>by simp [v1,Qrl f aa]
theorem Qrs {f:Int→Int × Bool} (hf:∀ a,Q6 (f a).1=true):∀ a:List Int,Zs (v1 f a).1=true
 | []=>rfl
 | a::aa=>by simp only [v1,QxT,hf,Qrs hf aa,Bool.and_self]
theorem QAh:∀ (a b:List Int) (z:Int),Q6 z=true→Q6 (Qaa a b z).1=true
 | [],b,z,h=>by simpa [Qaa] using h
 | a::aa,[],z,h=>by simpa [Qaa] using h
 | a::aa,b::bb,z,h=>by rw [Qaa];exact QAh aa bb _ (Qna _ _)
theorem Qw1 (a b:List Int):Q6 (Zz a b).1=true:=by
 unfold Zz;split
 ·exact QAh _ _ _ rfl
 ·rfl
theorem Qbi {a b:List Int}:Yc a b=true↔Q1 a=true∧Q1 b=true∧b.length=a.length:=by
 unfold Yc;rw [Bool.and_eq_true,YK]
 constructor <;> (intro h;exact ⟨h.1,h.2.1,by omega⟩)
theorem QwA {f:Int→Int→Int × Bool} (hf:∀ a b,Q6 (f a b).1=true) {a b:List Int} (h:Yc a b=true):Qs (vz f a b).1 a.length=true:=by
 obtain ⟨h1,h2,h3⟩:=Qbi.1 h
 have:=(YE.1 h1).1
 have hl:=QjZ f a b
 exact YK.2 ⟨YE.2 ⟨by omega,Qvj hf a b⟩,by omega⟩
theorem QjE {a b:List Int} (h:Yc a b=true):Qs (ZS a b).1 a.length=true:=by unfold ZS;rw [if_pos h];exact QwA Qna h
theorem QOR {a b:List Int} (h:Yc a b=true):Qs (Zt a b).1 a.length=true:=by unfold Zt;rw [if_pos h];exact QwA QPX h
theorem Ql0 {a b:List Int} {n:Int} (h1:Qs a n=true) (h2:Qs b n=true):Yc a b=true:=by
 obtain ⟨h3,h4⟩:=YK.1 h1
 obtain ⟨h5,h6⟩:=YK.1 h2
 exact Qbi.2 ⟨h3,h5,by omega⟩
theorem Qyp {c:Int} {a:List Int} (hc:Q6 c=true) (h:Q1 a=true):Qs (Yl c a).1 a.length=true:=by
 unfold Yl
 rw [hc,h,Bool.and_self,if_pos rfl]
 have:=(YE.1 h).1
 have hl:=Qrl (ZT c) a
 exact YK.2 ⟨YE.2 ⟨by omega,Qrs (QMS c) a⟩,by omega⟩
theorem QBf {α:Type} {f:α→Int} (hf:∀ a,Q6 (f a)=true) (l:List α):Zs (l.map f)=true:=by
 unfold Zs;rw [List.all_eq_true];intro x hx
 obtain ⟨a,_,rfl⟩:=List.mem_map.1 hx
 exact hf a
theorem Qme {α:Type} {f:α→Int} (hf:∀ a,Q6 (f a)=true) {l:List α} (h1:1≤l.length) (h2:l.length≤6):Qs (l.map f) l.length=true :=
 YK.2 ⟨YE.2 ⟨by simp;omega,QBf hf l⟩,by simp⟩
theorem QLG {a:List Int} (h:Q1 a=true):Qs (Jj a) a.length=true:=by
 unfold Jj;rw [if_pos h]
 have:=(YE.1 h).1
 exact Qme QQi (by omega) (by omega)
theorem QpU {m:TMat} {x:List Int} (h:(ZI m&&Qs x m.2.1)=true):Qs (ZH m x).1 m.1=true:=by
 unfold ZH;rw [if_pos h]
 have h1:1≤m.1∧m.1≤6:=by simp only [ZI,Bool.and_eq_true,QR] at h;omega
 have:=Qme (f:=fun i:Nat=>(Zz (QaG m i) x).1) (fun i=>Qw1 _ _) (l:=List.range m.1.toNat) (by simp;omega) (by simp;omega)
 rw [List.length_range,show ((m.1.toNat:Nat):Int)=m.1 by omega] at this
 exact this
theorem Qwj {m:TMat} {x:List Int} (h:(ZI m&&Qs x m.1)=true):Qs (Z1 m x).1 m.2.1=true:=by
 unfold Z1;rw [if_pos h]
 have h1:1≤m.2.1∧m.2.1≤6:=by simp only [ZI,Bool.and_eq_true,QR] at h;omega
 have:=Qme (f:=fun i:Nat=>(Zz (Jf m i) x).1) (fun i=>Qw1 _ _) (l:=List.range m.2.1.toNat) (by simp;omega) (by simp;omega)
 rw [List.length_range,show ((m.2.1.toNat:Nat):Int)=m.2.1 by omega] at this
 exact this
theorem QCi {x d:List Int} (h:Yc x d=true):Qs (Jq x d) x.length=true:=by
 unfold Jq;rw [if_pos h]
 obtain ⟨h1,h2,h3⟩:=Qbi.1 h
 have hl:=(YE.1 h1).1
 have hf:=(YE.1 h2).2
 refine YK.2 ⟨YE.2 ⟨by simp;omega,?_⟩,by simp;omega⟩
 unfold Zs at hf ⊢
 rw [List.all_eq_true] at hf ⊢
 intro y hy
 rw [List.mem_iff_getElem?] at hy
 obtain ⟨i,hi⟩:=hy
 rw [List.getElem?_zipWith] at hi
 split at hi
 ·rename_i a b ha hb
  cases hi
  split
  ·exact hf b (List.mem_of_getElem? hb)
  ·rfl
 ·cases hi
theorem QvO {d x:List Int} (hd:Q1 d=true) (hx:Q1 x=true):(ZM d x).1.2.2.length=d.length*x.length:=by
 unfold ZM;rw [hd,hx,Bool.and_self,if_pos rfl]
 simp only
 generalize d=l
 clear hd
 induction l with
 | nil=>simp
 | cons a l ih=>rw [List.flatMap_cons,List.length_append,ih];simp [Nat.add_mul];omega
theorem QdX {o:TOp'} (h:Za o=true):(o.2.2.2.length:Int)=(if o.1=1∨o.1=5 then o.2.1*o.2.2.1 else if o.1=2 then o.2.1 else if o.1=4 then 1 else 0):=by
 have h1:=QcB h
 simp only [Za,Bool.and_eq_true,beq_iff_eq] at h
 rw [h.1.2]
 unfold ZY
 rw [show m_in o.2.1 1 6=true from QR.2 ⟨h1.1,h1.2.1⟩,show m_in o.2.2.1 1 6=true from QR.2 ⟨h1.2.2.1,h1.2.2.2⟩]
 rfl
theorem QhI {o:TOp'} (h:Za o=true):Zs o.2.2.2=true:=by simp only [Za,Bool.and_eq_true] at h;exact h.2
theorem opEq {o:TOp'} (h:Za o=true) (h1:o.1≠1):o.2.1=o.2.2.1:=by
 simp only [Za,Bool.and_eq_true,Bool.or_eq_true,beq_iff_eq] at h
 rcases h.1.1.2 with h | h
 ·exact absurd h h1
 ·exact h
theorem QiC {o:TOp'} (h:Za o=true) (h1:o.1=1∨o.1=5):ZI (Zl o)=true:=by
 have h2:=QcB h
 have h3:=QdX h
 rw [if_pos h1] at h3
 simp only [ZI,Zl,Bool.and_eq_true,QR,beq_iff_eq]
 refine ⟨⟨⟨⟨by omega,by omega⟩,by omega,by omega⟩,?_⟩,QhI h⟩
 rw [h3,Int.mul_comm]
theorem QkG {o:TOp'} {x:List Int} (ho:Za o=true) (hx:Qs x o.2.1=true):Qs (Y1 o x).1 o.2.2.1=true:=by
 have hx':=YK.1 hx
 unfold Y1
 rw [ho,hx,Bool.and_self,if_pos rfl]
 split
 ·rename_i h1
  exact QpU (m:=Zl o) (by rw [QiC ho (.inl h1)];simpa [Zl] using hx)
 ·rename_i h1
  have he:=opEq ho h1
  rw [← he]
  split
  ·rename_i h2
   have h3:=QdX ho
   rw [if_neg (by omega),if_pos h2] at h3
   have h4:=QcB ho
   have hp:Yc x o.2.2.2=true:=Qbi.2 ⟨hx'.1,YE.2 ⟨by omega,QhI ho⟩,by omega⟩
   rw [← hx'.2]
   exact QjE hp
  ·split
   ·rename_i h2 h3
    have h4:=QdX ho
    rw [if_neg (by omega),if_neg h2,if_pos h3] at h4
    have hf:Q6 (gtd 0 o.2.2.2 0)=true:=by
     have:=QhI ho
     unfold Zs at this
     exact List.all_eq_true.1 this _ (JK (by omega) 0)
    rw [← hx'.2]
    exact Qyp hf hx'.1
   ·split
    ·rename_i h5
     have hm:=QiC ho (.inr h5)
     have hy:Qs (ZH (Zl o) x).1 o.2.2.1=true:=QpU (m:=Zl o) (by rw [hm];simpa [Zl] using hx)
     rw [← he] at hy
     have:=QjE (Ql0 hx hy)
     rwa [hx'.2] at this
    ·have:=QLG hx'.1
     rwa [hx'.2] at this
theorem QNf {o:TOp'} {x d:List Int} (ho:Za o=true) (hx:Qs x o.2.1=true) (hd:Qs d o.2.2.1=true) :
  Qs (YL o x d).1 o.2.1=true∧(YL o x d).2.1.length=o.2.2.2.length:=by
 have hx':=YK.1 hx
 have hd':=YK.1 hd
 have hs:=QdX ho
 unfold YL
 rw [ho,hx,hd,Bool.and_self,Bool.and_self,if_pos rfl]
 split
 ·rename_i h1
  rw [if_pos (.inl h1)] at hs
  refine ⟨Qwj (m:=Zl o) (by rw [QiC ho (.inl h1)];simpa [Zl] using hd),?_⟩
  have:=QvO hd'.1 hx'.1
  show (ZM d x).1.2.2.length=_
  rw [this]
  have:((d.length*x.length:Nat):Int)=o.2.1*o.2.2.1:=by rw [Int.natCast_mul,hd'.2,hx'.2,Int.mul_comm]
  omega
 ·rename_i h1
  have he:=opEq ho h1
  split
  ·rename_i h2
   rw [if_neg (by omega),if_pos h2] at hs
   refine ⟨by rw [he];exact hd,?_⟩
   show d.length=_
   omega
  ·split
   ·rename_i h2 h3
    rw [if_neg (by omega),if_neg h2,if_pos h3] at hs
    have hf:Q6 (gtd 0 o.2.2.2 0)=true:=by
     have:=QhI ho
     unfold Zs at this
     exact List.all_eq_true.1 this _ (JK (by omega) 0)
    refine ⟨?_,?_⟩
    ·have:=Qyp hf hd'.1
     rw [hd'.2,← he] at this
     exact this
    ·show [(Zz d x).1].length=_
     simp;omega
   ·split
    ·rename_i h2 h3 h5
     rw [if_pos (.inr h5)] at hs
     have hm:=QiC ho (.inr h5)
     have hy:Qs (Z1 (Zl o) d).1 o.2.1=true:=Qwj (m:=Zl o) (by rw [hm];simpa [Zl] using hd)
     refine ⟨?_,?_⟩
     ·rw [he] at hy
      have:=QjE (Ql0 hd hy)
      rw [hd'.2,← he] at this
      exact this
     ·have:=QvO hd'.1 hx'.1
      show (ZM d x).1.2.2.length=_
      rw [this]
      have:((d.length*x.length:Nat):Int)=o.2.1*o.2.2.1:=by rw [Int.natCast_mul,hd'.2,hx'.2,Int.mul_comm]
      omega
    ·rename_i h2 h3 h5
     rw [if_neg (by omega),if_neg h2,if_neg h3] at hs
     have hp:Yc x d=true:=Qbi.2 ⟨hx'.1,hd'.1,by omega⟩
     refine ⟨?_,by simp;omega⟩
     have:=QCi hp
     rw [hx'.2] at this
     exact this
theorem Qdj:∀ (ops:List TOp') (x:List Int),(Qx ops x).1.length=ops.length+1
 | [],x=>rfl
 | o::r,x=>by simp [Qx,Qdj r]
def ZK (ops:List TOp') (x:List Int):List Int:=gtd [] (Qx ops x).1 ops.length
theorem Qgs (x:List Int):ZK [] x=x:=rfl
theorem Qfd (o:TOp') (r:List TOp') (x:List Int):ZK (o::r) x=ZK r (Y1 o x).1:=by
 unfold ZK;rw [Qx];simp [gtd]
theorem Qj3:∀ (a b:List TOp') (x:List Int),Qx (a++b) x=((Qx a x).1.take a.length++(Qx b (ZK a x)).1,(Qx a x).2||(Qx b (ZK a x)).2)
 | [],b,x=>by simp [Qx,Qgs]
 | o::a,b,x=>by
  rw [List.cons_append,Qx,Qj3 a b,Qfd,Qx]
  simp [Bool.or_assoc]
theorem QGf (a b:List TOp') (x:List Int):ZK (a++b) x=ZK b (ZK a x):=by
 induction a generalizing x with
 | nil=>rfl
 | cons o a ih=>rw [List.cons_append,Qfd,Qfd,ih]
theorem QIa (ops:List TOp') (x:List Int):gtd [] (Qx ops x).1 0=x:=by cases ops <;> simp [Qx,gtd]
theorem QJh (ops:List TOp') (x:List Int):(Qx ops x).1.take ops.length++[ZK ops x]=(Qx ops x).1:=by
 unfold ZK
 have hl:=Qdj ops x
 have:gtd [] (Qx ops x).1 ops.length=(Qx ops x).1[ops.length]'(by omega):=Qd6 (List.getElem?_eq_getElem (by omega)) []
 rw [this,List.take_append_getElem (by omega),List.take_of_length_le (by omega)]
theorem QkY:∀ (ops:List TOp') (rows:List (List Int)) (d:List Int),ops.length≤rows.length→(QJ ops rows d).1.length=ops.length
 | [],rows,d,_=>by simp [QJ]
 | o::os,[],d,h=>by simp at h
 | o::os,r::rs,d,h=>by simp [QJ,QkY os rs d (by simpa using h)]
theorem Qmc:∀ (a b:List TOp') (ra rb:List (List Int)) (d:List Int),ra.length=a.length →
  QJ (a++b) (ra++rb) d=((QJ a ra (QJ b rb d).2.1).1++(QJ b rb d).1,(QJ a ra (QJ b rb d).2.1).2.1,(QJ a ra (QJ b rb d).2.1).2.2||(QJ b rb d).2.2)
 | [],b,ra,rb,d,h=>by
  have:ra=[]:=List.eq_nil_of_length_eq_zero (by simpa using h)
  subst this
  simp [QJ]
 | o::a,b,[],rb,d,h=>by simp at h
 | o::a,b,r::ra,rb,d,h=>by
  rw [List.cons_append,List.cons_append,QJ,Qmc a b ra rb d (by simpa using h),QJ]
  simp [Bool.or_assoc]
theorem QEZ:∀ (ops:List TOp') (rows more:List (List Int)) (d:List Int),rows.length=ops.length→QJ ops (rows++more) d=QJ ops rows d:=by
 intro ops rows more d h
 have:=Qmc ops [] rows more d h
 rw [List.append_nil] at this
 rw [this]
 simp [QJ]
end Go.Proofs.YtjbdljkhbglnhaaGreat.Am
namespace Go.Proofs.YtjbdljkhbglnhaaGreat.Am
open Go Sz
def Z0:Int→List TOp'→Int→Prop
 | i,[],o=>i=o
 | i,a::r,o=>Za a=true∧a.2.1=i∧Z0 a.2.2.1 r o
theorem Z0.append:∀ {a b:List TOp'} {i o:Int},Z0 i (a++b) o↔∃ k,Z0 i a k∧Z0 k b o
 | [],b,i,o=>by simp [Z0]
 | x::a,b,i,o=>by
  rw [List.cons_append,Z0,Z0.append]
  constructor
  ·rintro ⟨h1,h2,k,h3,h4⟩;exact ⟨k,⟨h1,h2,h3⟩,h4⟩
  ·rintro ⟨k,⟨h1,h2,h3⟩,h4⟩;exact ⟨h1,h2,k,h3,h4⟩
theorem QuL:∀ {l:List TOp'} {p:Option Int},Ye p l=true→∃ i o,Z0 i l o∧(∀ q,p=some q→l≠[]→q=i)
 | [],p,h=>⟨0,0,rfl,fun q _ h=>absurd rfl h⟩
 | a::r,p,h=>by
  simp only [Ye,Bool.and_eq_true] at h
  obtain ⟨i,o,h1,h2⟩:=QuL h.2
  have hp:∀ q,p=some q→a::r≠[]→q=a.2.1:=fun q hq _=>by
   have:=h.1.2
   rw [hq] at this
   simpa using this
  cases r with
  | nil=>exact ⟨a.2.1,a.2.2.1,⟨h.1.1,rfl,rfl⟩,hp⟩
  | cons b r =>
   have:=h2 _ rfl (by simp)
   rw [← this] at h1
   exact ⟨a.2.1,o,⟨h.1.1,rfl,h1⟩,hp⟩
theorem Qqq:∀ {l:List TOp'} {i o:Int} {p:Option Int},Z0 i l o→(∀ q,p=some q→q=i)→Ye p l=true
 | [],i,o,p,h,hp=>rfl
 | a::r,i,o,p,h,hp=>by
  obtain ⟨h1,h2,h3⟩:=h
  simp only [Ye,Bool.and_eq_true]
  refine ⟨⟨h1,?_⟩,Qqq h3 (fun q hq=>by cases hq;rfl)⟩
  cases p with
  | none=>rfl
  | some q=>simp [hp q rfl,h2]
theorem Z0.out_eq:∀ {l:List TOp'} {i o:Int},Z0 i l o→l≠[]→(gtd dOp l (l.length-1)).2.2.1=o
 | [],i,o,h,hn=>absurd rfl hn
 | [a],i,o,h,hn=>h.2.2
 | a::b::r,i,o,h,hn=>by
  have:=Z0.out_eq h.2.2 (by simp)
  simpa [gtd] using this
theorem Qgj {l:List TOp'} {i o:Int} (h:Z0 i l o) (h1:1≤l.length) (h2:l.length≤8):QN l=true∧QZ l=i∧Q3 l=o:=by
 have hm:QN l=true:=by
  simp only [QN,Bool.and_eq_true,QR]
  exact ⟨by omega,Qqq h (by simp)⟩
 refine ⟨hm,?_,?_⟩
 ·unfold QZ;rw [if_pos hm]
  cases l with
  | nil=>simp at h1
  | cons a r=>exact h.2.1
 ·unfold Q3;rw [if_pos hm]
  exact h.out_eq (by intro e;rw [e] at h1;simp at h1)
theorem QQJ {l:List TOp'} (h:QN l=true):1≤l.length∧l.length≤8∧Z0 (QZ l) l (Q3 l):=by
 have hl:=YV h
 refine ⟨hl.1,hl.2,?_⟩
 have h':=h
 simp only [QN,Bool.and_eq_true] at h'
 obtain ⟨i,o,h1,_⟩:=QuL h'.2
 have:=Qgj h1 hl.1 hl.2
 rw [this.2.1,this.2.2]
 exact h1
theorem Qu6:∀ {l:List TOp'} {i o:Int} {x:List Int},Z0 i l o→Qs x i=true→Qs (ZK l x) o=true
 | [],i,o,x,h,hx=>by rw [Qgs,← show i=o from h];exact hx
 | a::r,i,o,x,h,hx=>by
  obtain ⟨h1,h2,h3⟩:=h
  rw [Qfd]
  exact Qu6 h3 (QkG h1 (by rw [h2];exact hx))
theorem Qnu:∀ {l:List TOp'} {i o:Int} {x d:List Int},Z0 i l o→Qs x i=true→Qs d o=true →
  Qs (QJ l (Qx l x).1 d).2.1 i=true∧Z6 l (QJ l (Qx l x).1 d).1=true
 | [],i,o,x,d,h,hx,hd=>by
  refine ⟨?_,rfl⟩
  show Qs d i=true
  rw [show i=o from h];exact hd
 | a::r,i,o,x,d,h,hx,hd=>by
  obtain ⟨h1,h2,h3⟩:=h
  rw [Qx]
  have hx':Qs x a.2.1=true:=by rw [h2];exact hx
  have ih:=Qnu h3 (QkG h1 hx') hd
  have:=QNf h1 hx' ih.1
  rw [QJ]
  refine ⟨by rw [← h2];exact this.1,?_⟩
  simp only [Z6,Bool.and_eq_true,beq_iff_eq]
  exact ⟨this.2,ih.2⟩
theorem QpS (all:List TOp') {o:Int}:∀ {l:List TOp'} {i:Int} {x:List Int} {k:Nat},Z0 i l o→all.drop k=l→k≤all.length→(l=[]→Qba all k=i)→Qs x i=true→Jc all k (Qx l x).1=true
 | [],i,x,k,h,hk,hle,hs,hx=>by
  simp only [Qx,Jc,Bool.and_true]
  rw [hs rfl];exact hx
 | a::r,i,x,k,h,hk,hle,hs,hx=>by
  obtain ⟨h1,h2,h3⟩:=h
  have hlt:=Qe3 hk
  have hx':Qs x a.2.1=true:=by rw [h2];exact hx
  simp only [Qx,Jc,Bool.and_eq_true]
  refine ⟨?_,QpS all h3 (YN hk) hlt (fun hr=>?_) (QkG h1 hx')⟩
  ·unfold Qba;rw [if_pos hlt,Y4 hk];exact hx'
  ·have:all.length=k+1:=by have:=Qv9 hk;rw [hr] at this;simp at this;omega
   unfold Qba
   rw [if_neg (by omega),show all.length-1=k by omega,Y4 hk]
theorem QQw {l:List TOp'} {i o:Int} {x:List Int} (h:Z0 i l o) (hl:l≠[]) (hx:Qs x i=true):Jc l 0 (Qx l x).1=true :=
 QpS l h (by simp) (by simp) (fun h0=>absurd h0 hl) hx
theorem Qe9:∀ (ops:List TOp') (rows:List (List Int)) (k n:Nat),Jc ops k rows=true→Jc ops k (rows.take n)=true
 | ops,[],k,n,h=>by simp [Jc]
 | ops,r::rs,k,0,h=>by simp [Jc]
 | ops,r::rs,k,n+1,h=>by
  simp only [Jc,List.take_succ_cons,Bool.and_eq_true] at h ⊢
  exact ⟨h.1,Qe9 ops rs (k+1) n h.2⟩
theorem QRy (a b:List TOp') (x d:List Int) :
  QJ (a++b) (Qx (a++b) x).1 d =
   ((QJ a (Qx a x).1 (QJ b (Qx b (ZK a x)).1 d).2.1).1++(QJ b (Qx b (ZK a x)).1 d).1,
    (QJ a (Qx a x).1 (QJ b (Qx b (ZK a x)).1 d).2.1).2.1,
    (QJ a (Qx a x).1 (QJ b (Qx b (ZK a x)).1 d).2.1).2.2||(QJ b (Qx b (ZK a x)).1 d).2.2):=by
 have hl:=Qdj a x
 have ht:((Qx a x).1.take a.length).length=a.length:=by simp;omega
 rw [Qj3]
 simp only
 rw [Qmc a b _ _ d ht]
 have e:∀ d',QJ a ((Qx a x).1.take a.length) d'=QJ a (Qx a x).1 d':=fun d'=>by
  rw [← QEZ a _ [ZK a x] d' ht,QJh]
 rw [e]
theorem Qtn:∀ (a b c d:List (List Int)),a.length=c.length→Zf (a++b) (c++d)=((Zf a c).1++(Zf b d).1,(Zf a c).2||(Zf b d).2)
 | [],b,c,d,h=>by
  have:c=[]:=List.eq_nil_of_length_eq_zero (by simpa using h.symm)
  subst this
  simp [Zf]
 | x::a,b,[],d,h=>by simp at h
 | x::a,b,y::c,d,h=>by
  rw [List.cons_append,List.cons_append,Zf,Qtn a b c d (by simpa using h),Zf]
  simp [Bool.or_assoc]
theorem Qv7:∀ (a b:List (List Int)),(Zf a b).1.length=min a.length b.length
 | [],b=>by simp [Zf]
 | x::a,[]=>by simp [Zf]
 | x::a,y::b=>by simp [Zf,Qv7 a b]
theorem QuA:∀ {ops:List TOp'} {a b:List (List Int)},a.length=ops.length→b.length=ops.length→Z6 ops a=true→Z6 ops b=true→Z6 ops (Zf a b).1=true
 | [],a,b,h1,h2,h3,h4=>by
  have:a=[]:=List.eq_nil_of_length_eq_zero (by simpa using h1)
  subst this
  simp [Zf,Z6]
 | o::ops,[],b,h1,h2,h3,h4=>by simp at h1
 | o::ops,x::a,[],h1,h2,h3,h4=>by simp at h2
 | o::ops,x::a,y::b,h1,h2,h3,h4=>by
  simp only [Z6,Bool.and_eq_true,beq_iff_eq] at h3 h4
  simp only [Zf,Z6,Bool.and_eq_true,beq_iff_eq]
  refine ⟨?_,QuA (by simpa using h1) (by simpa using h2) h3.2 h4.2⟩
  rw [QjZ];omega
end Go.Proofs.YtjbdljkhbglnhaaGreat.Am
namespace Go.Proofs.YtjbdljkhbglnhaaGreat.Am
open Go Sz
def QG {α:Type} [Sz α] (x:α):Prop:=sz x≤2147483648
def JU {α β:Type} [Sz α] [Sz β] (x:α) (y:β):Prop:=sz x+sz y≤2147483648
def p_st (st s m:Int):Prop:=-1000≤st∧st≤1000
def Qj5 (st s m:Int) (_:Bool):Prop:=p_st st s m
@[simp] theorem Zv {α:Type} (v:List α) (e:α):List.take (v.length+1) (List.take v.length v++[e])=v++[e]:=by
 rw [List.take_length,List.take_of_length_le (by simp)]
@[simp] theorem QPK {α:Type} (v xs:List α):List.take (v.length+xs.length) (List.take v.length v++xs)=v++xs:=by
 rw [List.take_length,List.take_of_length_le (by simp)]
theorem QbJ {α:Type} {l:List α} {k:Nat} (h:k<l.length):∃ y q,l.drop k=y::q:=by
 cases hq:l.drop k with
 | nil=>have:=congrArg List.length hq;simp at this;omega
 | cons y q=>exact ⟨y,q,rfl⟩
theorem JY {α:Type} {v:List α} {k:Nat} {x:α} (h:v.length=k):(v++[x]).length=k+1:=by simp [h]
theorem room {n:Nat} (h:n+1≤2147483648):(n=n∨n+1≤n)∧n+1≤big:=⟨.inl rfl,by rw [Zx];omega⟩
theorem sc1 {k:Nat} (h:k<9223372036854775807):w64 ((k:Int)+1)=((k+1:Nat):Int):=by rw [Qp (by omega) (by omega)];omega
theorem QMI (a b:Int):-4611686018427387904≤Zd a*Zd b∧Zd a*Zd b≤4611686018427387904:=by
 obtain ⟨h1,h2⟩:=Qbt a
 obtain ⟨h3,h4⟩:=Qbt b
 generalize Zd a=x at *
 generalize Zd b=y at *
 have hx:x.natAbs≤2147483647:=by omega
 have hy:y.natAbs≤2147483647:=by omega
 have h:=Nat.mul_le_mul hx hy
 rw [← Int.natAbs_mul] at h
 omega
theorem QNG (x:Int):(if 2147483647<(if x < -2147483647 then -2147483647 else x) then 2147483647 else (if x < -2147483647 then -2147483647 else x))=Zd x:=by
 unfold Zd iMin iMax;repeat' split
 all_goals omega
theorem idx {r R C:Int} (h1:0≤r) (h2:r<R) (h3:0≤C):0≤r*C∧r*C+C≤R*C∧(r+1)*C=r*C+C:=by
 have h4:(r+1)*C=r*C+C:=by rw [Int.add_mul,Int.one_mul]
 have h5:=Int.mul_le_mul_of_nonneg_right (show r+1≤R by omega) h3
 exact ⟨Int.mul_nonneg h1 h3,by omega,h4⟩
theorem Qiw {m:TMat} (h:ZI m=true):1≤m.1∧m.1≤6∧1≤m.2.1∧m.2.1≤6∧(m.2.2.length:Int)=m.1*m.2.1∧m.1*m.2.1≤36∧Zs m.2.2=true:=by
 simp only [ZI,Bool.and_eq_true,QR,beq_iff_eq] at h
 have:=Qec h.1.1.1.1 h.1.1.1.2 h.1.1.2.1 h.1.1.2.2
 exact ⟨h.1.1.1.1,h.1.1.1.2,h.1.1.2.1,h.1.1.2.2,h.1.2,this.2,h.2⟩
theorem QHn {f:Nat→Bool} {k:Nat}:(List.range (k+1)).any f=((List.range k).any f||f k):=by rw [List.range_succ,List.any_append];simp
theorem Qwy {α:Type} {f:Nat→α} {k:Nat}:(List.range (k+1)).map f=(List.range k).map f++[f k]:=by rw [List.range_succ,List.map_append];rfl
theorem Qdl {α:Type} {f:Nat→List α} {k:Nat}:(List.range (k+1)).flatMap f=(List.range k).flatMap f++f k:=by rw [List.range_succ,List.flatMap_append];simp
theorem QlE {α:Type} {f:Nat→List α} {R:Nat} (n:Nat) (h:∀ k,k<n→(f k).length=R):((List.range n).flatMap f).length=n*R:=by
 induction n with
 | zero=>simp
 | succ n ih=>rw [Qdl,List.length_append,ih (fun k hk=>h k (by omega)),h n (by omega),Nat.add_mul];omega
theorem Qo0 {α:Type} {f:Nat→List α} {R:Nat} {k:Nat}:∀ (n:Nat),k<n→(∀ k,k<n→(f k).length=R)→(((List.range n).flatMap f).drop (k*R)).take R=f k
 | 0,hk,_=>by omega
 | n+1,hk,h=>by
  have hl:=QlE n (fun k hk=>h k (by omega))
  rw [Qdl]
  by_cases e:k=n
  ·subst e
   rw [List.drop_append,List.drop_eq_nil_of_le (by omega),hl,Nat.sub_self,List.drop_zero,List.nil_append,List.take_of_length_le (by rw [h k (by omega)];exact Nat.le_refl _)]
  ·have ih:=Qo0 (k:=k) n (by omega) (fun k hk=>h k (by omega))
   have:(k+1)*R≤n*R:=Nat.mul_le_mul_right R (show k+1≤n by omega)
   rw [Nat.add_mul,Nat.one_mul] at this
   rw [List.drop_append_of_le_length (by omega),List.take_append_of_le_length (by rw [List.length_drop,hl];omega),ih]
theorem QkT (m:TMat) (k:Int):(Jf m k).length=m.1.toNat:=by simp [Jf]
theorem QEx {m:TMat} (h:ZI m=true) {k:Nat} (hk:(k:Int)<m.2.1):Zs (Jf m k)=true:=by
 obtain ⟨h1,h2,h3,h4,h5,h6,h7⟩:=Qiw h
 unfold Zs Jf
 rw [List.all_eq_true]
 intro x hx
 obtain ⟨i,hi,rfl⟩:=List.mem_map.1 hx
 have hi:=List.mem_range.1 hi
 have hd:=idx (r:=i) (R:=m.1) (C:=m.2.1) (by omega) (by omega) (by omega)
 unfold Zs at h7
 generalize (i:Int)*m.2.1=z at *
 generalize m.1*m.2.1=y at *
 exact List.all_eq_true.1 h7 _ (JK (show Int.toNat (z+k)<m.2.2.length by omega) 0)
theorem QGv {m:TMat} (h:ZI m=true):ZI (YI m)=true∧(YI m).1=m.2.1∧(YI m).2.1=m.1∧∀ k:Nat,(k:Int)<m.2.1→QaG (YI m) k=Jf m k:=by
 obtain ⟨h1,h2,h3,h4,h5,h6,h7⟩:=Qiw h
 have ht:YI m=(m.2.1,m.1,(List.range m.2.1.toNat).flatMap fun k:Nat=>Jf m k):=by unfold YI;rw [if_pos h]
 have hl:=QlE (f:=fun k:Nat=>Jf m k) m.2.1.toNat (fun k hk=>QkT m k)
 have hn:((m.2.1.toNat*m.1.toNat:Nat):Int)=m.2.1*m.1:=by rw [Int.natCast_mul,Int.toNat_of_nonneg (by omega),Int.toNat_of_nonneg (by omega)]
 rw [ht]
 refine ⟨?_,rfl,rfl,fun k hk=>?_⟩
 ·simp only [ZI,Bool.and_eq_true,QR,beq_iff_eq]
  refine ⟨⟨⟨⟨h3,h4⟩,h1,h2⟩,by rw [hl,hn]⟩,?_⟩
  unfold Zs
  rw [List.all_eq_true]
  intro x hx
  obtain ⟨k,hk,hx⟩:=List.mem_flatMap.1 hx
  have:=QEx h (k:=k) (by have:=List.mem_range.1 hk;omega)
  unfold Zs at this
  exact List.all_eq_true.1 this x hx
 ·have hs:=Qo0 (f:=fun k:Nat=>Jf m k) (k:=k) m.2.1.toNat (by omega) (fun k hk=>QkT m k)
  have hd:=idx (r:=k) (R:=m.2.1) (C:=m.1) (by omega) hk (by omega)
  have e1:Int.toNat ((k:Int)*m.1)=k*m.1.toNat:=by
   have:((k*m.1.toNat:Nat):Int)=(k:Int)*m.1:=by rw [Int.natCast_mul,Int.toNat_of_nonneg (by omega)]
   omega
  unfold QaG slice
  simp only
  rw [show Int.toNat (((k:Int)+1)*m.1)-Int.toNat ((k:Int)*m.1)=m.1.toNat by omega,e1]
  exact hs
theorem QDs {m:TMat} {d:List Int} (h:ZI m=true) (hd:Qs d m.1=true):ZH (YI m) d=Z1 m d:=by
 obtain ⟨h1,h2,h3,h4⟩:=QGv h
 unfold ZH Z1
 rw [if_pos (by rw [h1,h3,hd];rfl),if_pos (by rw [h,hd];rfl),h2]
 have e:∀ i,i∈List.range m.2.1.toNat→QaG (YI m) (i:Nat)=Jf m (i:Nat):=fun i hi=>h4 i (by have:=List.mem_range.1 hi;omega)
 refine Prod.ext (List.map_congr_left fun i hi=>by rw [e i hi]) ?_
 show (List.range m.2.1.toNat).any _=(List.range m.2.1.toNat).any _
 rw [Bool.eq_iff_iff,List.any_eq_true,List.any_eq_true]
 constructor
 ·rintro ⟨i,hi,h⟩;exact ⟨i,hi,by rw [← e i hi];exact h⟩
 ·rintro ⟨i,hi,h⟩;exact ⟨i,hi,by rw [e i hi];exact h⟩
theorem QNF {m:TMat} {d:List Int} (h:¬ (ZI m=true∧Qs d m.1=true)):Z1 m d=([],false):=by unfold Z1;rw [if_neg (by simpa using h)]
theorem QKA {m:TMat} {d:List Int} (h:¬ (ZI m=true∧Qs d m.2.1=true)):ZH m d=([],false):=by unfold ZH;rw [if_neg (by simpa using h)]
theorem Qwo {o:TOp'} (h:Za o=true) (h4:o.1=4):0<o.2.2.2.length:=by
 have:=QdX h
 rw [if_neg (by omega),if_neg (by omega),if_pos h4] at this
 omega
theorem QBY {o:TOp'} {x:List Int} (h:¬ (Za o=true∧Qs x o.2.1=true)):Y1 o x=([],false):=by unfold Y1;rw [if_neg (by simpa using h)]
theorem QJF {o:TOp'} {x d:List Int} (h:¬ ((Za o=true∧Qs x o.2.1=true)∧Qs d o.2.2.1=true)):YL o x d=([],[],false):=by unfold YL;rw [if_neg (by simpa using h)]
theorem QuE {o:TOp'} (h:Za o=true):1≤o.1∧o.1≤5:=by simp only [Za,Bool.and_eq_true,QR] at h;exact h.1.1.1.1.1
theorem QdF {α:Type} (v:List α):List.take (id v).length (List.drop 0 (id v))=v:=by simp
theorem QnD {α:Type} (v:List α):List.take v.length (List.drop 0 v)=v:=by simp
theorem QuI {α:Type} {l:List α} {k:Nat} (h:l.length≤k):l.drop k=[]:=List.drop_eq_nil_of_le h
theorem QDI (n:Nat) (x:Int):List.take n (List.drop 0 (List.replicate n x))=List.replicate n x:=by rw [List.drop_zero,List.take_of_length_le (by simp)]
theorem Qb5 {α:Type} [Sz α] {l:List α} {A:Int→List α→Prop} {Q:List α→Prop} (hs:sz l≤2147483648)
  (hA:∀ (k:Nat) (x:α) (v:List α),k<l.length→l.length≤2147483648→(∀ d,gtd d l k=x)→v.length=k→sz x≤2147483648→A ((k+1:Nat):Int) (v++[x])→A (k:Nat) v)
  (hE:Q l→A (l.length:Nat) l) (hq:Q l):A 0 []:=by
 have hl:=Qa3 l
 refine Zi l (fun r k=>∀ v,v.length=k→v++r=l→A k v) ?_ ?_ [] rfl rfl
 ·intro v hv he
  rw [List.append_nil] at he
  subst he
  exact hE hq
 ·intro k x r hk hlt hg ih v hv he
  have hx:=Qws hk
  exact hA k x v hlt (by omega) hg hv (by omega) (ih _ (JY hv) (by rw [← he];simp))
theorem QjP {o:TOp'} (h:Za o=true):o.2.2.2.length≤36:=by
 have h1:=QdX h
 have h2:=QcB h
 have h3:=Qec h2.1 h2.2.1 h2.2.2.1 h2.2.2.2
 split at h1
 ·omega
 ·split at h1
  ·omega
  ·split at h1 <;> omega
theorem QlM {m:Q5} (h:QN m=true) {k:Nat} (hk:k<m.length):Za (gtd dOp m k)=true:=by
 simp only [QN,Bool.and_eq_true] at h
 exact (Qg4 h.2 k _ (Jh hk dOp)).1
theorem QpQ {α:Type} (d:α) {v:List α} {k:Nat} (h:v.length=k+1):v.take k++[gtd d v k]=v:=by
 have h1:gtd d v k=v[k]'(by omega):=Qd6 (List.getElem?_eq_getElem (by omega)) d
 rw [h1,List.take_append_getElem (by omega),List.take_of_length_le (by omega)]
theorem QQU {α:Type} (d:α) {v:List α} {n:Nat} (y:α) (h:v.length=n):gtd d (v++[y]) n=y:=by
 refine Qd6 ?_ d
 rw [List.getElem?_append_right (by omega)];simp [h]
theorem QLf {α:Type} {v:List α} {n:Nat} (y:α) (h:v.length=n):(v++[y]).take n=v:=by
 rw [List.take_append_of_le_length (by omega),List.take_of_length_le (by omega)]
theorem QGG {α:Type} (n:Nat) (e g:α) (l:List α):(List.replicate (n+1) e++l).set n g=List.replicate n e++g::l:=by
 rw [List.replicate_succ',List.append_assoc,List.set_append_right _ _ (by simp)]
 simp
theorem Qjq {m:Q5} {x:List Int} (h1:QN m=true) (h2:Qs x (QZ m)=true):Jk m x=Qx m x:=by unfold Jk;rw [if_pos (by rw [h1,h2];rfl)]
theorem QsF:∀ {ops:List TOp'} {rows:List (List Int)},rows.length=ops.length→(∀ o,o∈ops→Za o=true)→Z6 ops rows=true→sz rows≤37*ops.length
 | [],[],_,_,_=>by simp
 | [],r::rs,h,_,_=>by simp at h
 | o::os,[],h,_,_=>by simp at h
 | o::os,r::rs,h,ho,hg=>by
  simp only [Z6,Bool.and_eq_true,beq_iff_eq] at hg
  have h1:=QjP (ho o List.mem_cons_self)
  have h2:=QsF (by simpa using h) (fun p hp=>ho p (List.mem_cons_of_mem _ hp)) hg.2
  have h3:=Ja r
  rw [Jv,List.length_cons];omega
theorem Qor {m:Q5} (h:QN m=true):∀ o,o∈m→Za o=true:=by
 intro o ho
 obtain ⟨i,hi⟩:=List.getElem?_of_mem ho
 simp only [QN,Bool.and_eq_true] at h
 exact (Qg4 h.2 i o hi).1
theorem QJq {m:Q5} (h:QN m=true):(ZO m).1.length=m.length∧Z6 m (ZO m).1=true:=by
 unfold ZO
 rw [if_pos h]
 simp only [List.length_map,true_and]
 clear h
 induction m with
 | nil=>rfl
 | cons o l ih=>simp [Z6,ih]
theorem Qv8 {m:Q5} (h:QN m=true) {a:Zc} (h1:a.1.length=m.length∧Z6 m a.1=true):sz a≤296:=by
 have:=QsF h1.1 (Qor h) h1.2
 have:=YV h
 simp only [YA,Yd,Qbk];omega
end Go.Proofs.YtjbdljkhbglnhaaGreat.Am

