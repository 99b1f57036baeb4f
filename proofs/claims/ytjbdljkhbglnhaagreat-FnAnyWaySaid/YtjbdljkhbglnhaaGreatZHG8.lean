/- -/
import Derived.Test.YtjbdljkhbglnhaaGreatZHG7
set_option linter.all false
namespace Go.Proofs.YtjbdljkhbglnhaaGreat.Am
open Go Sz
def tm (ds n M s:Int) (i:TIns):Int :=
 let F:=s+2*i.2
 let B:=(if ds=2 then 2*n-1 else 2*n-1+2*M)-s+2*i.2
 if i.1=1 then 8*F else if i.1=2 then 8*F+1 else if i.1=3 then 8*F+2
 else if i.1=4 then 8*B else if i.1=5 then 8*B+1 else if i.1=6 then 8*B+2 else if i.1=7 then 8*B+3 else 1000000
def rcOf (f:Nat) (k1:Int):Nat:=if k1=1 then f+1 else f
def scOf (f:Nat) (k1:Int):Nat:=if k1=2 then f-1 else f
def rgOf (n s:Int) (g:Nat) (k1:Int):Nat:=if k1=4∨(k1=5∧s<n-1) then g+1 else g
def sgQ (g:Nat) (k1:Int):Nat:=if k1=6 then g-1 else g
def QgB (ds n M s:Int) (rd:Bool) (f g:Nat) (k1:Int) (i:TIns) (last:Bool):Bool :=
 decide (g≤f∧(f:Int)≤M∧1≤i.1∧i.1≤8∧0≤i.2∧i.2<M∧(i.1=8↔last=true)∧i≠(0,0)) &&
 decide (i.1=1→0<s∧i.2=f∧k1≠1) &&
 decide (i.1=2→i.2=f∧(0<s→k1=1)) &&
 decide (i.1=3→s<n-1∧i.2=(f:Int)-1∧k1=2) &&
 decide (i.1=4→s<n-1∧i.2=g) &&
 decide (i.1=5→rd=true∧i.2=g∧g<f∧(s<n-1→k1=4)) &&
 decide (i.1=6→i.2=g∧g<f∧(rd=true→k1=5)∧(rd=false→s<n-1→k1=4)) &&
 decide (i.1=7→0<s∧i.2=(g:Int)-1∧k1=6) &&
 decide (i.1=8→(f:Int)=M∧(g:Int)=M∧k1≠0) &&
 decide (k1=1→i.1=2)&&decide (k1=2→s<n-1→i.1=3)&&decide (k1=4→i.1=5∨i.1=6)&&decide (k1=5→i.1=6)&&decide (k1=6→0<s→i.1=7) &&
 decide (k1=5→rd=true)&&decide (k1=6→1≤g)&&decide (k1=2→1≤f)&&decide (k1≠8)&&decide (k1=4→s<n-1)&&decide (k1=1→0<s) &&
 decide (k1=4∨k1=5→g<f)&&decide (k1=1→(f:Int)<M) &&
 decide (s<n-1→(scOf f k1:Int)<M→tm ds n M s i≤tm ds n M s (3,(scOf f k1:Int))) &&
 decide (0<s→(rcOf f k1:Int)<M→tm ds n M s i≤tm ds n M s (1,(rcOf f k1:Int))) &&
 decide (s<n-1→(rgOf n s g k1:Int)<M→tm ds n M s i≤tm ds n M s (4,(rgOf n s g k1:Int))) &&
 decide (0<s→(sgQ g k1:Int)<M→tm ds n M s i≤tm ds n M s (7,(sgQ g k1:Int))) &&
 decide (ds=2→(f:Int)-g≤n-s)&&decide (ds=2→i.1=2→(f:Int)-g<n-s)
def Qn5 (M:Int) (f g:Nat) (k1:Int):Bool:=decide ((f:Int)=M∧(g:Int)=M∧k1=8)
def kf (i:TIns):Nat:=if i.1=2 then 1 else 0
def kg (i:TIns):Nat:=if i.1=6 then 1 else 0
def Qc7 (ds n M s:Int) (rd:Bool):List TIns→Nat→Nat→Int→Bool
 | [],f,g,k1=>Qn5 M f g k1
 | i::r,f,g,k1=>QgB ds n M s rd f g k1 i r.isEmpty&&Qc7 ds n M s rd r (f+kf i) (g+kg i) i.1
def Qzx:Bool:=[1,2].all fun ds:Int=>[1,2,3,4].all fun n:Int=>[0,1,2,3].all fun s:Int=>[1,2,3,4,5].all fun M:Int=>[true,false].all fun rd =>
 !(decide (s<n))||Qc7 ds n M s rd (Z7 ds n s M rd) 0 0 0
set_option maxRecDepth 100000 in
theorem QCv:Qzx=true:=by kernel_rfl
theorem QFU {ds n s M:Int} (rd:Bool) (h1:1≤ds) (h2:ds≤2) (h3:n≤4) (h4:0≤s) (h5:s<n) (h6:1≤M) (h7:M≤5):Qc7 ds n M s rd (Z7 ds n s M rd) 0 0 0=true:=by
 have h:=QCv
 unfold Qzx at h
 rw [List.all_eq_true] at h
 have h:=h ds (by have:ds=1∨ds=2:=(by omega);rcases this with rfl | rfl <;> simp)
 rw [List.all_eq_true] at h
 have h:=h n (by have:n=1∨n=2∨n=3∨n=4:=(by omega);rcases this with rfl | rfl | rfl | rfl <;> simp)
 rw [List.all_eq_true] at h
 have h:=h s (by have:s=0∨s=1∨s=2∨s=3:=(by omega);rcases this with rfl | rfl | rfl | rfl <;> simp)
 rw [List.all_eq_true] at h
 have h:=h M (by have:M=1∨M=2∨M=3∨M=4∨M=5:=(by omega);rcases this with rfl | rfl | rfl | rfl | rfl <;> simp)
 rw [List.all_eq_true] at h
 have h:=h rd (by cases rd <;> simp)
 simpa [h5] using h
def cf (l:List TIns):Nat:=(l.map kf).sum
def cg (l:List TIns):Nat:=(l.map kg).sum
def Y3 (l:List TIns) (k:Nat):Int:=if k=0 then 0 else (gtd dIns l (k-1)).1
theorem QjX {ds n M s:Int} {rd:Bool}:∀ (l:List TIns) (f g:Nat) (k1:Int),Qc7 ds n M s rd l f g k1=true→∀ k,k≤l.length →
  (∀ i,l[k]? = some i→QgB ds n M s rd (f+cf (l.take k)) (g+cg (l.take k)) (if k=0 then k1 else Y3 l k) i (decide (k+1=l.length))=true) ∧
  (k=l.length→Qn5 M (f+cf (l.take k)) (g+cg (l.take k)) (if k=0 then k1 else Y3 l k)=true)
 | [],f,g,k1,h,k,hk=>by
  have:k=0:=by simpa using hk
  subst this
  simp only [Qc7] at h
  exact ⟨fun i hi=>by simp at hi,fun _=>by simpa [cf,cg] using h⟩
 | i::r,f,g,k1,h,k,hk=>by
  simp only [Qc7,Bool.and_eq_true] at h
  cases k with
  | zero =>
   refine ⟨fun j hj=>?_,fun h0=>by simp at h0⟩
   simp at hj
   subst hj
   have:r.isEmpty=decide (0+1=(i::r).length):=by cases r <;> simp
   rw [← this]
   simpa [cf,cg] using h.1
  | succ k =>
   have ih:=QjX r (f+kf i) (g+kg i) i.1 h.2 k (by simpa using hk)
   have e1:f+cf ((i::r).take (k+1))=f+kf i+cf (r.take k):=by simp [cf];omega
   have e2:g+cg ((i::r).take (k+1))=g+kg i+cg (r.take k):=by simp [cg];omega
   have e3:(if k=0 then i.1 else Y3 r k)=Y3 (i::r) (k+1):=by
    unfold Y3
    cases k with
    | zero=>simp [gtd]
    | succ k=>simp [gtd]
   rw [e1,e2,if_neg (by omega),← e3]
   refine ⟨fun j hj=>?_,fun h0=>ih.2 (by simpa using h0)⟩
   have:=ih.1 j (by simpa using hj)
   rw [show decide (k+1+1=(i::r).length)=decide (k+1=r.length) by simp]
   exact this
end Go.Proofs.YtjbdljkhbglnhaaGreat.Am
namespace Go.Proofs.YtjbdljkhbglnhaaGreat.Am
open Go Sz
theorem QbX (x:Int):-2147483647≤Zf x∧Zf x≤2147483647:=by unfold Zf iMin iMax;split <;> split <;> omega
theorem Qoe {x:Int}:Za x=true↔-2147483647≤x∧x≤2147483647:=by simp [Za]
theorem QA8 (x:Int):Za (Zf x)=true:=Qoe.2 (QbX x)
theorem QqK {x:Int} (h:Za x=true):Zf x=x:=by
 have:=Qoe.1 h
 unfold Zf iMin iMax;split <;> split <;> omega
theorem Qof (x:Int):Za (JI x).1=true:=QA8 x
theorem QlP (a b:Int):Za (Zl a b).1=true:=Qof _
theorem QI7 (a b:Int):Za (QbG a b).1=true:=Qof _
theorem QMn (a b:Int):Za (ZV a b).1=true:=Qof _
theorem QO2 (a:Int):Za (Qdc a)=true:=by
 have:=QbX a
 rw [Qoe];unfold Qdc iMax;split <;> omega
theorem QDZ {a:Int} (h:Za a=true):Zl a 0=(a,false):=by
 have e:Zf 0=0:=rfl
 unfold Zl JI
 rw [e,Int.add_zero,QqK h,QqK h,h];rfl
theorem Qta {x:Int} {l:List Int}:Zu (x::l)=(Za x&&Zu l):=rfl
theorem YE {v:List Int}:Q8 v=true↔(1≤v.length∧v.length≤6)∧Zu v=true:=by
 simp only [Q8,Bool.and_eq_true,QJ]
 constructor
 ·rintro ⟨h1,h2⟩;exact ⟨by omega,h2⟩
 ·rintro ⟨h1,h2⟩;exact ⟨by omega,h2⟩
theorem YA {v:List Int} {n:Int}:Qs v n=true↔Q8 v=true∧(v.length:Int)=n:=by simp [Qs]
theorem QjK (f:Int→Int→Int × Bool):∀ a b:List Int,(vz f a b).1.length=min a.length b.length
 | [],b=>by simp [vz]
 | a::aa,[]=>by simp [vz]
 | a::aa,b::bb=>by simp [vz,QjK f aa bb]
theorem Qtv {f:Int→Int→Int × Bool} (hf:∀ a b,Za (f a b).1=true):∀ a b:List Int,Zu (vz f a b).1=true
 | [],b=>by simp [vz,Zu]
 | a::aa,[]=>by simp [vz,Zu]
 | a::aa,b::bb=>by simp only [vz,Qta,hf,Qtv hf aa bb,Bool.and_self]
theorem Qwb (f:Int→Int × Bool):∀ a:List Int,(v1 f a).1.length=a.length
 | []=>rfl
 | a::aa=>by simp [v1,Qwb f aa]
theorem Qs5 {f:Int→Int × Bool} (hf:∀ a,Za (f a).1=true):∀ a:List Int,Zu (v1 f a).1=true
 | []=>rfl
 | a::aa=>by simp only [v1,Qta,hf,Qs5 hf aa,Bool.and_self]
theorem QuQ:∀ (a b:List Int) (z:Int),Za z=true→Za (Qaj a b z).1=true
 | [],b,z,h=>by simpa [Qaj] using h
 | a::aa,[],z,h=>by simpa [Qaj] using h
 | a::aa,b::bb,z,h=>by rw [Qaj];exact QuQ aa bb _ (QlP _ _)
theorem Qpw (a b:List Int):Za (ZF a b).1=true:=by
 unfold ZF;split
 ·exact QuQ _ _ _ rfl
 ·rfl
theorem QaY {a b:List Int}:Ya a b=true↔Q8 a=true∧Q8 b=true∧b.length=a.length:=by
 unfold Ya;rw [Bool.and_eq_true,YA]
 constructor <;> (intro h;exact ⟨h.1,h.2.1,by omega⟩)
theorem Qsh {f:Int→Int→Int × Bool} (hf:∀ a b,Za (f a b).1=true) {a b:List Int} (h:Ya a b=true):Qs (vz f a b).1 a.length=true:=by
 obtain ⟨h1,h2,h3⟩:=QaY.1 h
 have:=(YE.1 h1).1
 have hl:=QjK f a b
 exact YA.2 ⟨YE.2 ⟨by omega,Qtv hf a b⟩,by omega⟩
theorem Qmh {a b:List Int} (h:Ya a b=true):Qs (ZY a b).1 a.length=true:=by unfold ZY;rw [if_pos h];exact Qsh QlP h
theorem Qqe {a b:List Int} (h:Ya a b=true):Qs (Zs a b).1 a.length=true:=by unfold Zs;rw [if_pos h];exact Qsh QI7 h
theorem QgY {a b:List Int} {n:Int} (h1:Qs a n=true) (h2:Qs b n=true):Ya a b=true:=by
 obtain ⟨h3,h4⟩:=YA.1 h1
 obtain ⟨h5,h6⟩:=YA.1 h2
 exact QaY.2 ⟨h3,h5,by omega⟩
theorem QxS {c:Int} {a:List Int} (hc:Za c=true) (h:Q8 a=true):Qs (Yy c a).1 a.length=true:=by
 unfold Yy
 rw [hc,h,Bool.and_self,if_pos rfl]
 have:=(YE.1 h).1
 have hl:=Qwb (ZV c) a
 exact YA.2 ⟨YE.2 ⟨by omega,Qs5 (QMn c) a⟩,by omega⟩
theorem QKC {α:Type} {f:α→Int} (hf:∀ a,Za (f a)=true) (l:List α):Zu (l.map f)=true:=by
 unfold Zu;rw [List.all_eq_true];intro x hx
 obtain ⟨a,_,rfl⟩:=List.mem_map.1 hx
 exact hf a
theorem Ql3 {α:Type} {f:α→Int} (hf:∀ a,Za (f a)=true) {l:List α} (h1:1≤l.length) (h2:l.length≤6):Qs (l.map f) l.length=true :=
 YA.2 ⟨YE.2 ⟨by simp;omega,QKC hf l⟩,by simp⟩
theorem QF9 {a:List Int} (h:Q8 a=true):Qs (Jn a) a.length=true:=by
 unfold Jn;rw [if_pos h]
 have:=(YE.1 h).1
 exact Ql3 QO2 (by omega) (by omega)
theorem Qwj {m:TMat} {x:List Int} (h:(ZQ m&&Qs x m.2.1)=true):Qs (ZM m x).1 m.1=true:=by
 unfold ZM;rw [if_pos h]
 have h1:1≤m.1∧m.1≤6:=by simp only [ZQ,Bool.and_eq_true,QJ] at h;omega
 have:=Ql3 (f:=fun i:Nat=>(ZF (QaF m i) x).1) (fun i=>Qpw _ _) (l:=List.range m.1.toNat) (by simp;omega) (by simp;omega)
 rw [List.length_range,show ((m.1.toNat:Nat):Int)=m.1 by omega] at this
 exact this
theorem Qz2 {m:TMat} {x:List Int} (h:(ZQ m&&Qs x m.1)=true):Qs (Z5 m x).1 m.2.1=true:=by
 unfold Z5;rw [if_pos h]
 have h1:1≤m.2.1∧m.2.1≤6:=by simp only [ZQ,Bool.and_eq_true,QJ] at h;omega
 have:=Ql3 (f:=fun i:Nat=>(ZF (Y9 m i) x).1) (fun i=>Qpw _ _) (l:=List.range m.2.1.toNat) (by simp;omega) (by simp;omega)
 rw [List.length_range,show ((m.2.1.toNat:Nat):Int)=m.2.1 by omega] at this
 exact this
theorem QKQ {x d:List Int} (h:Ya x d=true):Qs (Jo x d) x.length=true:=by
 unfold Jo;rw [if_pos h]
 obtain ⟨h1,h2,h3⟩:=QaY.1 h
 have hl:=(YE.1 h1).1
 have hf:=(YE.1 h2).2
 refine YA.2 ⟨YE.2 ⟨by simp;omega,?_⟩,by simp;omega⟩
 unfold Zu at hf ⊢
 rw [List.all_eq_true] at hf ⊢
 intro y hy
 rw [List.mem_iff_getElem?] at hy
 obtain ⟨i,hi⟩:=hy
 rw [List.getElem?_zipWith] at hi
 split at hi
 ·rename_i a b ha hb
  cases hi
  split
  ·exact hf b (List.mem_of_getElem? hb)
  ·rfl
 ·cases hi
theorem QtG {d x:List Int} (hd:Q8 d=true) (hx:Q8 x=true):(ZT d x).1.2.2.length=d.length*x.length:=by
 unfold ZT;rw [hd,hx,Bool.and_self,if_pos rfl]
 simp only
 generalize d=l
 clear hd
 induction l with
 | nil=>simp
 | cons a l ih=>rw [List.flatMap_cons,List.length_append,ih];simp [Nat.add_mul];omega
theorem Qd9 {o:TOp'} (h:Q7 o=true):(o.2.2.2.length:Int)=(if o.1=1∨o.1=5 then o.2.1*o.2.2.1 else if o.1=2 then o.2.1 else if o.1=4 then 1 else 0):=by
 have h1:=Qad h
 simp only [Q7,Bool.and_eq_true,beq_iff_eq] at h
 rw [h.1.2]
 unfold Z2
 rw [show m_in o.2.1 1 6=true from QJ.2 ⟨h1.1,h1.2.1⟩,show m_in o.2.2.1 1 6=true from QJ.2 ⟨h1.2.2.1,h1.2.2.2⟩]
 rfl
theorem Qi6 {o:TOp'} (h:Q7 o=true):Zu o.2.2.2=true:=by simp only [Q7,Bool.and_eq_true] at h;exact h.2
theorem opEq {o:TOp'} (h:Q7 o=true) (h1:o.1≠1):o.2.1=o.2.2.1:=by
 simp only [Q7,Bool.and_eq_true,Bool.or_eq_true,beq_iff_eq] at h
 rcases h.1.1.2 with h | h
 ·exact absurd h h1
 ·exact h
theorem QhF {o:TOp'} (h:Q7 o=true) (h1:o.1=1∨o.1=5):ZQ (Zo o)=true:=by
 have h2:=Qad h
 have h3:=Qd9 h
 rw [if_pos h1] at h3
 simp only [ZQ,Zo,Bool.and_eq_true,QJ,beq_iff_eq]
 refine ⟨⟨⟨⟨by omega,by omega⟩,by omega,by omega⟩,?_⟩,Qi6 h⟩
 rw [h3,Int.mul_comm]
theorem Qmi {o:TOp'} {x:List Int} (ho:Q7 o=true) (hx:Qs x o.2.1=true):Qs (Y4 o x).1 o.2.2.1=true:=by
 have hx':=YA.1 hx
 unfold Y4
 rw [ho,hx,Bool.and_self,if_pos rfl]
 split
 ·rename_i h1
  exact Qwj (m:=Zo o) (by rw [QhF ho (.inl h1)];simpa [Zo] using hx)
 ·rename_i h1
  have he:=opEq ho h1
  rw [← he]
  split
  ·rename_i h2
   have h3:=Qd9 ho
   rw [if_neg (by omega),if_pos h2] at h3
   have h4:=Qad ho
   have hp:Ya x o.2.2.2=true:=QaY.2 ⟨hx'.1,YE.2 ⟨by omega,Qi6 ho⟩,by omega⟩
   rw [← hx'.2]
   exact Qmh hp
  ·split
   ·rename_i h2 h3
    have h4:=Qd9 ho
    rw [if_neg (by omega),if_neg h2,if_pos h3] at h4
    have hf:Za (gtd 0 o.2.2.2 0)=true:=by
     have:=Qi6 ho
     unfold Zu at this
     exact List.all_eq_true.1 this _ (Y7 (by omega) 0)
    rw [← hx'.2]
    exact QxS hf hx'.1
   ·split
    ·rename_i h5
     have hm:=QhF ho (.inr h5)
     have hy:Qs (ZM (Zo o) x).1 o.2.2.1=true:=Qwj (m:=Zo o) (by rw [hm];simpa [Zo] using hx)
     rw [← he] at hy
     have:=Qmh (QgY hx hy)
     rwa [hx'.2] at this
    ·have:=QF9 hx'.1
     rwa [hx'.2] at this
theorem QJA {o:TOp'} {x d:List Int} (ho:Q7 o=true) (hx:Qs x o.2.1=true) (hd:Qs d o.2.2.1=true) :
  Qs (YS o x d).1 o.2.1=true∧(YS o x d).2.1.length=o.2.2.2.length:=by
 have hx':=YA.1 hx
 have hd':=YA.1 hd
 have hs:=Qd9 ho
 unfold YS
 rw [ho,hx,hd,Bool.and_self,Bool.and_self,if_pos rfl]
 split
 ·rename_i h1
  rw [if_pos (.inl h1)] at hs
  refine ⟨Qz2 (m:=Zo o) (by rw [QhF ho (.inl h1)];simpa [Zo] using hd),?_⟩
  have:=QtG hd'.1 hx'.1
  show (ZT d x).1.2.2.length=_
  rw [this]
  have:((d.length*x.length:Nat):Int)=o.2.1*o.2.2.1:=by rw [Int.natCast_mul,hd'.2,hx'.2,Int.mul_comm]
  omega
 ·rename_i h1
  have he:=opEq ho h1
  split
  ·rename_i h2
   rw [if_neg (by omega),if_pos h2] at hs
   refine ⟨by rw [he];exact hd,?_⟩
   show d.length=_
   omega
  ·split
   ·rename_i h2 h3
    rw [if_neg (by omega),if_neg h2,if_pos h3] at hs
    have hf:Za (gtd 0 o.2.2.2 0)=true:=by
     have:=Qi6 ho
     unfold Zu at this
     exact List.all_eq_true.1 this _ (Y7 (by omega) 0)
    refine ⟨?_,?_⟩
    ·have:=QxS hf hd'.1
     rw [hd'.2,← he] at this
     exact this
    ·show [(ZF d x).1].length=_
     simp;omega
   ·split
    ·rename_i h2 h3 h5
     rw [if_pos (.inr h5)] at hs
     have hm:=QhF ho (.inr h5)
     have hy:Qs (Z5 (Zo o) d).1 o.2.1=true:=Qz2 (m:=Zo o) (by rw [hm];simpa [Zo] using hd)
     refine ⟨?_,?_⟩
     ·rw [he] at hy
      have:=Qmh (QgY hd hy)
      rw [hd'.2,← he] at this
      exact this
     ·have:=QtG hd'.1 hx'.1
      show (ZT d x).1.2.2.length=_
      rw [this]
      have:((d.length*x.length:Nat):Int)=o.2.1*o.2.2.1:=by rw [Int.natCast_mul,hd'.2,hx'.2,Int.mul_comm]
      omega
    ·rename_i h2 h3 h5
     rw [if_neg (by omega),if_neg h2,if_neg h3] at hs
     have hp:Ya x d=true:=QaY.2 ⟨hx'.1,hd'.1,by omega⟩
     refine ⟨?_,by simp;omega⟩
     have:=QKQ hp
     rw [hx'.2] at this
     exact this
theorem QcD:∀ (ops:List TOp') (x:List Int),(Qy ops x).1.length=ops.length+1
 | [],x=>rfl
 | o::r,x=>by simp [Qy,QcD r]
def ZK (ops:List TOp') (x:List Int):List Int:=gtd [] (Qy ops x).1 ops.length
theorem Qgu (x:List Int):ZK [] x=x:=rfl
theorem QeS (o:TOp') (r:List TOp') (x:List Int):ZK (o::r) x=ZK r (Y4 o x).1:=by
 unfold ZK;rw [Qy];simp [gtd]
theorem QnB:∀ (a b:List TOp') (x:List Int),Qy (a++b) x=((Qy a x).1.take a.length++(Qy b (ZK a x)).1,(Qy a x).2||(Qy b (ZK a x)).2)
 | [],b,x=>by simp [Qy,Qgu]
 | o::a,b,x=>by
  rw [List.cons_append,Qy,QnB a b,QeS,Qy]
  simp [Bool.or_assoc]
theorem QPD (a b:List TOp') (x:List Int):ZK (a++b) x=ZK b (ZK a x):=by
 induction a generalizing x with
 | nil=>rfl
 | cons o a ih=>rw [List.cons_append,QeS,QeS,ih]
theorem QIO (ops:List TOp') (x:List Int):gtd [] (Qy ops x).1 0=x:=by cases ops <;> simp [Qy,gtd]
theorem QCE (ops:List TOp') (x:List Int):(Qy ops x).1.take ops.length++[ZK ops x]=(Qy ops x).1:=by
 unfold ZK
 have hl:=QcD ops x
 have:gtd [] (Qy ops x).1 ops.length=(Qy ops x).1[ops.length]'(by omega):=Qb9 (List.getElem?_eq_getElem (by omega)) []
 rw [this,List.take_append_getElem (by omega),List.take_of_length_le (by omega)]
theorem Qho:∀ (ops:List TOp') (rows:List (List Int)) (d:List Int),ops.length≤rows.length→(QM ops rows d).1.length=ops.length
 | [],rows,d,_=>by simp [QM]
 | o::os,[],d,h=>by simp at h
 | o::os,r::rs,d,h=>by simp [QM,Qho os rs d (by simpa using h)]
theorem Ql2:∀ (a b:List TOp') (ra rb:List (List Int)) (d:List Int),ra.length=a.length →
  QM (a++b) (ra++rb) d=((QM a ra (QM b rb d).2.1).1++(QM b rb d).1,(QM a ra (QM b rb d).2.1).2.1,(QM a ra (QM b rb d).2.1).2.2||(QM b rb d).2.2)
 | [],b,ra,rb,d,h=>by
  have:ra=[]:=List.eq_nil_of_length_eq_zero (by simpa using h)
  subst this
  simp [QM]
 | o::a,b,[],rb,d,h=>by simp at h
 | o::a,b,r::ra,rb,d,h=>by
  rw [List.cons_append,List.cons_append,QM,Ql2 a b ra rb d (by simpa using h),QM]
  simp [Bool.or_assoc]
theorem QBA:∀ (ops:List TOp') (rows more:List (List Int)) (d:List Int),rows.length=ops.length→QM ops (rows++more) d=QM ops rows d:=by
 intro ops rows more d h
 have:=Ql2 ops [] rows more d h
 rw [List.append_nil] at this
 rw [this]
 simp [QM]
end Go.Proofs.YtjbdljkhbglnhaaGreat.Am
namespace Go.Proofs.YtjbdljkhbglnhaaGreat.Am
open Go Sz
def Z0:Int→List TOp'→Int→Prop
 | i,[],o=>i=o
 | i,a::r,o=>Q7 a=true∧a.2.1=i∧Z0 a.2.2.1 r o
theorem Z0.append:∀ {a b:List TOp'} {i o:Int},Z0 i (a++b) o↔∃ k,Z0 i a k∧Z0 k b o
 | [],b,i,o=>by simp [Z0]
 | x::a,b,i,o=>by
  rw [List.cons_append,Z0,Z0.append]
  constructor
  ·rintro ⟨h1,h2,k,h3,h4⟩;exact ⟨k,⟨h1,h2,h3⟩,h4⟩
  ·rintro ⟨k,⟨h1,h2,h3⟩,h4⟩;exact ⟨h1,h2,k,h3,h4⟩
theorem Qx7:∀ {l:List TOp'} {p:Option Int},Yf p l=true→∃ i o,Z0 i l o∧(∀ q,p=some q→l≠[]→q=i)
 | [],p,h=>⟨0,0,rfl,fun q _ h=>absurd rfl h⟩
 | a::r,p,h=>by
  simp only [Yf,Bool.and_eq_true] at h
  obtain ⟨i,o,h1,h2⟩:=Qx7 h.2
  have hp:∀ q,p=some q→a::r≠[]→q=a.2.1:=fun q hq _=>by
   have:=h.1.2
   rw [hq] at this
   simpa using this
  cases r with
  | nil=>exact ⟨a.2.1,a.2.2.1,⟨h.1.1,rfl,rfl⟩,hp⟩
  | cons b r =>
   have:=h2 _ rfl (by simp)
   rw [← this] at h1
   exact ⟨a.2.1,o,⟨h.1.1,rfl,h1⟩,hp⟩
theorem Qtt:∀ {l:List TOp'} {i o:Int} {p:Option Int},Z0 i l o→(∀ q,p=some q→q=i)→Yf p l=true
 | [],i,o,p,h,hp=>rfl
 | a::r,i,o,p,h,hp=>by
  obtain ⟨h1,h2,h3⟩:=h
  simp only [Yf,Bool.and_eq_true]
  refine ⟨⟨h1,?_⟩,Qtt h3 (fun q hq=>by cases hq;rfl)⟩
  cases p with
  | none=>rfl
  | some q=>simp [hp q rfl,h2]
theorem Z0.out_eq:∀ {l:List TOp'} {i o:Int},Z0 i l o→l≠[]→(gtd dOp l (l.length-1)).2.2.1=o
 | [],i,o,h,hn=>absurd rfl hn
 | [a],i,o,h,hn=>h.2.2
 | a::b::r,i,o,h,hn=>by
  have:=Z0.out_eq h.2.2 (by simp)
  simpa [gtd] using this
theorem QfT {l:List TOp'} {i o:Int} (h:Z0 i l o) (h1:1≤l.length) (h2:l.length≤8):Qw l=true∧QX l=i∧Q1 l=o:=by
 have hm:Qw l=true:=by
  simp only [Qw,Bool.and_eq_true,QJ]
  exact ⟨by omega,Qtt h (by simp)⟩
 refine ⟨hm,?_,?_⟩
 ·unfold QX;rw [if_pos hm]
  cases l with
  | nil=>simp at h1
  | cons a r=>exact h.2.1
 ·unfold Q1;rw [if_pos hm]
  exact h.out_eq (by intro e;rw [e] at h1;simp at h1)
theorem Qtq {l:List TOp'} (h:Qw l=true):1≤l.length∧l.length≤8∧Z0 (QX l) l (Q1 l):=by
 have hl:=Yx h
 refine ⟨hl.1,hl.2,?_⟩
 have h':=h
 simp only [Qw,Bool.and_eq_true] at h'
 obtain ⟨i,o,h1,_⟩:=Qx7 h'.2
 have:=QfT h1 hl.1 hl.2
 rw [this.2.1,this.2.2]
 exact h1
theorem Qnb:∀ {l:List TOp'} {i o:Int} {x:List Int},Z0 i l o→Qs x i=true→Qs (ZK l x) o=true
 | [],i,o,x,h,hx=>by rw [Qgu,← show i=o from h];exact hx
 | a::r,i,o,x,h,hx=>by
  obtain ⟨h1,h2,h3⟩:=h
  rw [QeS]
  exact Qnb h3 (Qmi h1 (by rw [h2];exact hx))
theorem Qin:∀ {l:List TOp'} {i o:Int} {x d:List Int},Z0 i l o→Qs x i=true→Qs d o=true →
  Qs (QM l (Qy l x).1 d).2.1 i=true∧ZP l (QM l (Qy l x).1 d).1=true
 | [],i,o,x,d,h,hx,hd=>by
  refine ⟨?_,rfl⟩
  show Qs d i=true
  rw [show i=o from h];exact hd
 | a::r,i,o,x,d,h,hx,hd=>by
  obtain ⟨h1,h2,h3⟩:=h
  rw [Qy]
  have hx':Qs x a.2.1=true:=by rw [h2];exact hx
  have ih:=Qin h3 (Qmi h1 hx') hd
  have:=QJA h1 hx' ih.1
  rw [QM]
  refine ⟨by rw [← h2];exact this.1,?_⟩
  simp only [ZP,Bool.and_eq_true,beq_iff_eq]
  exact ⟨this.2,ih.2⟩
theorem Qz8 (all:List TOp') {o:Int}:∀ {l:List TOp'} {i:Int} {x:List Int} {k:Nat},Z0 i l o→all.drop k=l→k≤all.length→(l=[]→Qa6 all k=i)→Qs x i=true→Jd all k (Qy l x).1=true
 | [],i,x,k,h,hk,hle,hs,hx=>by
  simp only [Qy,Jd,Bool.and_true]
  rw [hs rfl];exact hx
 | a::r,i,x,k,h,hk,hle,hs,hx=>by
  obtain ⟨h1,h2,h3⟩:=h
  have hlt:=QiM hk
  have hx':Qs x a.2.1=true:=by rw [h2];exact hx
  simp only [Qy,Jd,Bool.and_eq_true]
  refine ⟨?_,Qz8 all h3 (YO hk) hlt (fun hr=>?_) (Qmi h1 hx')⟩
  ·unfold Qa6;rw [if_pos hlt,Y1 hk];exact hx'
  ·have:all.length=k+1:=by have:=Qrv hk;rw [hr] at this;simp at this;omega
   unfold Qa6
   rw [if_neg (by omega),show all.length-1=k by omega,Y1 hk]
theorem QGC {l:List TOp'} {i o:Int} {x:List Int} (h:Z0 i l o) (hl:l≠[]) (hx:Qs x i=true):Jd l 0 (Qy l x).1=true :=
 Qz8 l h (by simp) (by simp) (fun h0=>absurd h0 hl) hx
theorem Qfa:∀ (ops:List TOp') (rows:List (List Int)) (k n:Nat),Jd ops k rows=true→Jd ops k (rows.take n)=true
 | ops,[],k,n,h=>by simp [Jd]
 | ops,r::rs,k,0,h=>by simp [Jd]
 | ops,r::rs,k,n+1,h=>by
  simp only [Jd,List.take_succ_cons,Bool.and_eq_true] at h ⊢
  exact ⟨h.1,Qfa ops rs (k+1) n h.2⟩
theorem QEh (a b:List TOp') (x d:List Int) :
  QM (a++b) (Qy (a++b) x).1 d =
   ((QM a (Qy a x).1 (QM b (Qy b (ZK a x)).1 d).2.1).1++(QM b (Qy b (ZK a x)).1 d).1,
    (QM a (Qy a x).1 (QM b (Qy b (ZK a x)).1 d).2.1).2.1,
    (QM a (Qy a x).1 (QM b (Qy b (ZK a x)).1 d).2.1).2.2||(QM b (Qy b (ZK a x)).1 d).2.2):=by
 have hl:=QcD a x
 have ht:((Qy a x).1.take a.length).length=a.length:=by simp;omega
 rw [QnB]
 simp only
 rw [Ql2 a b _ _ d ht]
 have e:∀ d',QM a ((Qy a x).1.take a.length) d'=QM a (Qy a x).1 d':=fun d'=>by
  rw [← QBA a _ [ZK a x] d' ht,QCE]
 rw [e]
theorem QyQ:∀ (a b c d:List (List Int)),a.length=c.length→Zg (a++b) (c++d)=((Zg a c).1++(Zg b d).1,(Zg a c).2||(Zg b d).2)
 | [],b,c,d,h=>by
  have:c=[]:=List.eq_nil_of_length_eq_zero (by simpa using h.symm)
  subst this
  simp [Zg]
 | x::a,b,[],d,h=>by simp at h
 | x::a,b,y::c,d,h=>by
  rw [List.cons_append,List.cons_append,Zg,QyQ a b c d (by simpa using h),Zg]
  simp [Bool.or_assoc]
theorem QmK:∀ (a b:List (List Int)),(Zg a b).1.length=min a.length b.length
 | [],b=>by simp [Zg]
 | x::a,[]=>by simp [Zg]
 | x::a,y::b=>by simp [Zg,QmK a b]
theorem Qj2:∀ {ops:List TOp'} {a b:List (List Int)},a.length=ops.length→b.length=ops.length→ZP ops a=true→ZP ops b=true→ZP ops (Zg a b).1=true
 | [],a,b,h1,h2,h3,h4=>by
  have:a=[]:=List.eq_nil_of_length_eq_zero (by simpa using h1)
  subst this
  simp [Zg,ZP]
 | o::ops,[],b,h1,h2,h3,h4=>by simp at h1
 | o::ops,x::a,[],h1,h2,h3,h4=>by simp at h2
 | o::ops,x::a,y::b,h1,h2,h3,h4=>by
  simp only [ZP,Bool.and_eq_true,beq_iff_eq] at h3 h4
  simp only [Zg,ZP,Bool.and_eq_true,beq_iff_eq]
  refine ⟨?_,Qj2 (by simpa using h1) (by simpa using h2) h3.2 h4.2⟩
  rw [QjK];omega
end Go.Proofs.YtjbdljkhbglnhaaGreat.Am
namespace Go.Proofs.YtjbdljkhbglnhaaGreat.Am
open Go Sz
def QI {α:Type} [Sz α] (x:α):Prop:=sz x≤2147483648
def JR {α β:Type} [Sz α] [Sz β] (x:α) (y:β):Prop:=sz x+sz y≤2147483648
def p_st (st s m:Int):Prop:=-1000≤st∧st≤1000
def Qka (st s m:Int) (_:Bool):Prop:=p_st st s m
@[simp] theorem Zq {α:Type} (v:List α) (e:α):List.take (v.length+1) (List.take v.length v++[e])=v++[e]:=by
 rw [List.take_length,List.take_of_length_le (by simp)]
@[simp] theorem Qwm {α:Type} (v xs:List α):List.take (v.length+xs.length) (List.take v.length v++xs)=v++xs:=by
 rw [List.take_length,List.take_of_length_le (by simp)]
theorem Qbu {α:Type} {l:List α} {k:Nat} (h:k<l.length):∃ y q,l.drop k=y::q:=by
 cases hq:l.drop k with
 | nil=>have:=congrArg List.length hq;simp at this;omega
 | cons y q=>exact ⟨y,q,rfl⟩
theorem JX {α:Type} {v:List α} {k:Nat} {x:α} (h:v.length=k):(v++[x]).length=k+1:=by simp [h]
theorem room {n:Nat} (h:n+1≤2147483648):(n=n∨n+1≤n)∧n+1≤big:=⟨.inl rfl,by rw [Zi];omega⟩
theorem sc1 {k:Nat} (h:k<9223372036854775807):w64 ((k:Int)+1)=((k+1:Nat):Int):=by rw [Qo (by omega) (by omega)];omega
theorem QD9 (a b:Int):-4611686018427387904≤Zf a*Zf b∧Zf a*Zf b≤4611686018427387904:=by
 obtain ⟨h1,h2⟩:=QbX a
 obtain ⟨h3,h4⟩:=QbX b
 generalize Zf a=x at *
 generalize Zf b=y at *
 have hx:x.natAbs≤2147483647:=by omega
 have hy:y.natAbs≤2147483647:=by omega
 have h:=Nat.mul_le_mul hx hy
 rw [← Int.natAbs_mul] at h
 omega
theorem QE8 (x:Int):(if 2147483647<(if x < -2147483647 then -2147483647 else x) then 2147483647 else (if x < -2147483647 then -2147483647 else x))=Zf x:=by
 unfold Zf iMin iMax;repeat' split
 all_goals omega
theorem idx {r R C:Int} (h1:0≤r) (h2:r<R) (h3:0≤C):0≤r*C∧r*C+C≤R*C∧(r+1)*C=r*C+C:=by
 have h4:(r+1)*C=r*C+C:=by rw [Int.add_mul,Int.one_mul]
 have h5:=Int.mul_le_mul_of_nonneg_right (show r+1≤R by omega) h3
 exact ⟨Int.mul_nonneg h1 h3,by omega,h4⟩
theorem QhB {m:TMat} (h:ZQ m=true):1≤m.1∧m.1≤6∧1≤m.2.1∧m.2.1≤6∧(m.2.2.length:Int)=m.1*m.2.1∧m.1*m.2.1≤36∧Zu m.2.2=true:=by
 simp only [ZQ,Bool.and_eq_true,QJ,beq_iff_eq] at h
 have:=QdB h.1.1.1.1 h.1.1.1.2 h.1.1.2.1 h.1.1.2.2
 exact ⟨h.1.1.1.1,h.1.1.1.2,h.1.1.2.1,h.1.1.2.2,h.1.2,this.2,h.2⟩
theorem QDr {f:Nat→Bool} {k:Nat}:(List.range (k+1)).any f=((List.range k).any f||f k):=by rw [List.range_succ,List.any_append];simp
theorem Qzy {α:Type} {f:Nat→α} {k:Nat}:(List.range (k+1)).map f=(List.range k).map f++[f k]:=by rw [List.range_succ,List.map_append];rfl
theorem QdL {α:Type} {f:Nat→List α} {k:Nat}:(List.range (k+1)).flatMap f=(List.range k).flatMap f++f k:=by rw [List.range_succ,List.flatMap_append];simp
theorem Qjj {α:Type} {f:Nat→List α} {R:Nat} (n:Nat) (h:∀ k,k<n→(f k).length=R):((List.range n).flatMap f).length=n*R:=by
 induction n with
 | zero=>simp
 | succ n ih=>rw [QdL,List.length_append,ih (fun k hk=>h k (by omega)),h n (by omega),Nat.add_mul];omega
theorem QtM {α:Type} {f:Nat→List α} {R:Nat} {k:Nat}:∀ (n:Nat),k<n→(∀ k,k<n→(f k).length=R)→(((List.range n).flatMap f).drop (k*R)).take R=f k
 | 0,hk,_=>by omega
 | n+1,hk,h=>by
  have hl:=Qjj n (fun k hk=>h k (by omega))
  rw [QdL]
  by_cases e:k=n
  ·subst e
   rw [List.drop_append,List.drop_eq_nil_of_le (by omega),hl,Nat.sub_self,List.drop_zero,List.nil_append,List.take_of_length_le (by rw [h k (by omega)];exact Nat.le_refl _)]
  ·have ih:=QtM (k:=k) n (by omega) (fun k hk=>h k (by omega))
   have:(k+1)*R≤n*R:=Nat.mul_le_mul_right R (show k+1≤n by omega)
   rw [Nat.add_mul,Nat.one_mul] at this
   rw [List.drop_append_of_le_length (by omega),List.take_append_of_le_length (by rw [List.length_drop,hl];omega),ih]
theorem Qlr (m:TMat) (k:Int):(Y9 m k).length=m.1.toNat:=by simp [Y9]
theorem QOZ {m:TMat} (h:ZQ m=true) {k:Nat} (hk:(k:Int)<m.2.1):Zu (Y9 m k)=true:=by
 obtain ⟨h1,h2,h3,h4,h5,h6,h7⟩:=QhB h
 unfold Zu Y9
 rw [List.all_eq_true]
 intro x hx
 obtain ⟨i,hi,rfl⟩:=List.mem_map.1 hx
 have hi:=List.mem_range.1 hi
 have hd:=idx (r:=i) (R:=m.1) (C:=m.2.1) (by omega) (by omega) (by omega)
 unfold Zu at h7
 generalize (i:Int)*m.2.1=z at *
 generalize m.1*m.2.1=y at *
 exact List.all_eq_true.1 h7 _ (Y7 (show Int.toNat (z+k)<m.2.2.length by omega) 0)
theorem QEJ {m:TMat} (h:ZQ m=true):ZQ (YJ m)=true∧(YJ m).1=m.2.1∧(YJ m).2.1=m.1∧∀ k:Nat,(k:Int)<m.2.1→QaF (YJ m) k=Y9 m k:=by
 obtain ⟨h1,h2,h3,h4,h5,h6,h7⟩:=QhB h
 have ht:YJ m=(m.2.1,m.1,(List.range m.2.1.toNat).flatMap fun k:Nat=>Y9 m k):=by unfold YJ;rw [if_pos h]
 have hl:=Qjj (f:=fun k:Nat=>Y9 m k) m.2.1.toNat (fun k hk=>Qlr m k)
 have hn:((m.2.1.toNat*m.1.toNat:Nat):Int)=m.2.1*m.1:=by rw [Int.natCast_mul,Int.toNat_of_nonneg (by omega),Int.toNat_of_nonneg (by omega)]
 rw [ht]
 refine ⟨?_,rfl,rfl,fun k hk=>?_⟩
 ·simp only [ZQ,Bool.and_eq_true,QJ,beq_iff_eq]
  refine ⟨⟨⟨⟨h3,h4⟩,h1,h2⟩,by rw [hl,hn]⟩,?_⟩
  unfold Zu
  rw [List.all_eq_true]
  intro x hx
  obtain ⟨k,hk,hx⟩:=List.mem_flatMap.1 hx
  have:=QOZ h (k:=k) (by have:=List.mem_range.1 hk;omega)
  unfold Zu at this
  exact List.all_eq_true.1 this x hx
 ·have hs:=QtM (f:=fun k:Nat=>Y9 m k) (k:=k) m.2.1.toNat (by omega) (fun k hk=>Qlr m k)
  have hd:=idx (r:=k) (R:=m.2.1) (C:=m.1) (by omega) hk (by omega)
  have e1:Int.toNat ((k:Int)*m.1)=k*m.1.toNat:=by
   have:((k*m.1.toNat:Nat):Int)=(k:Int)*m.1:=by rw [Int.natCast_mul,Int.toNat_of_nonneg (by omega)]
   omega
  unfold QaF slice
  simp only
  rw [show Int.toNat (((k:Int)+1)*m.1)-Int.toNat ((k:Int)*m.1)=m.1.toNat by omega,e1]
  exact hs
theorem QQX {m:TMat} {d:List Int} (h:ZQ m=true) (hd:Qs d m.1=true):ZM (YJ m) d=Z5 m d:=by
 obtain ⟨h1,h2,h3,h4⟩:=QEJ h
 unfold ZM Z5
 rw [if_pos (by rw [h1,h3,hd];rfl),if_pos (by rw [h,hd];rfl),h2]
 have e:∀ i,i∈List.range m.2.1.toNat→QaF (YJ m) (i:Nat)=Y9 m (i:Nat):=fun i hi=>h4 i (by have:=List.mem_range.1 hi;omega)
 refine Prod.ext (List.map_congr_left fun i hi=>by rw [e i hi]) ?_
 show (List.range m.2.1.toNat).any _=(List.range m.2.1.toNat).any _
 rw [Bool.eq_iff_iff,List.any_eq_true,List.any_eq_true]
 constructor
 ·rintro ⟨i,hi,h⟩;exact ⟨i,hi,by rw [← e i hi];exact h⟩
 ·rintro ⟨i,hi,h⟩;exact ⟨i,hi,by rw [e i hi];exact h⟩
theorem QBC {m:TMat} {d:List Int} (h:¬ (ZQ m=true∧Qs d m.1=true)):Z5 m d=([],false):=by unfold Z5;rw [if_neg (by simpa using h)]
theorem QNX {m:TMat} {d:List Int} (h:¬ (ZQ m=true∧Qs d m.2.1=true)):ZM m d=([],false):=by unfold ZM;rw [if_neg (by simpa using h)]
theorem QzX {o:TOp'} (h:Q7 o=true) (h4:o.1=4):0<o.2.2.2.length:=by
 have:=Qd9 h
 rw [if_neg (by omega),if_neg (by omega),if_pos h4] at this
 omega
theorem QJp {o:TOp'} {x:List Int} (h:¬ (Q7 o=true∧Qs x o.2.1=true)):Y4 o x=([],false):=by unfold Y4;rw [if_neg (by simpa using h)]
theorem QPY {o:TOp'} {x d:List Int} (h:¬ ((Q7 o=true∧Qs x o.2.1=true)∧Qs d o.2.2.1=true)):YS o x d=([],[],false):=by unfold YS;rw [if_neg (by simpa using h)]
theorem QqX {o:TOp'} (h:Q7 o=true):1≤o.1∧o.1≤5:=by simp only [Q7,Bool.and_eq_true,QJ] at h;exact h.1.1.1.1.1
theorem QdO {α:Type} (v:List α):List.take (id v).length (List.drop 0 (id v))=v:=by simp
theorem QsW {α:Type} (v:List α):List.take (0+v.length) (List.drop 0 v)=v:=by simp
theorem JP {α:Type} (v:List α):List.take v.length (List.drop 0 v)=v:=by simp
theorem Qrx {α:Type} {l:List α} {k:Nat} (h:l.length≤k):l.drop k=[]:=List.drop_eq_nil_of_le h
theorem QL3 (n:Nat) (x:Int):List.take n (List.drop 0 (List.replicate n x))=List.replicate n x:=by rw [List.drop_zero,List.take_of_length_le (by simp)]
theorem Qca {α:Type} [Sz α] {l:List α} {A:Int→List α→Prop} {Q:List α→Prop} (hs:sz l≤2147483648)
  (hA:∀ (k:Nat) (x:α) (v:List α),k<l.length→l.length≤2147483648→(∀ d,gtd d l k=x)→v.length=k→sz x≤2147483648→A ((k+1:Nat):Int) (v++[x])→A (k:Nat) v)
  (hE:Q l→A (l.length:Nat) l) (hq:Q l):A 0 []:=by
 have hl:=Qas l
 refine ZL l (fun r k=>∀ v,v.length=k→v++r=l→A k v) ?_ ?_ [] rfl rfl
 ·intro v hv he
  rw [List.append_nil] at he
  subst he
  exact hE hq
 ·intro k x r hk hlt hg ih v hv he
  have hx:=QvG hk
  exact hA k x v hlt (by omega) hg hv (by omega) (ih _ (JX hv) (by rw [← he];simp))
theorem QnD {o:TOp'} (h:Q7 o=true):o.2.2.2.length≤36:=by
 have h1:=Qd9 h
 have h2:=Qad h
 have h3:=QdB h2.1 h2.2.1 h2.2.2.1 h2.2.2.2
 split at h1
 ·omega
 ·split at h1
  ·omega
  ·split at h1 <;> omega
theorem Qel {m:QU} (h:Qw m=true) {k:Nat} (hk:k<m.length):Q7 (gtd dOp m k)=true:=by
 simp only [Qw,Bool.and_eq_true] at h
 exact (QiG h.2 k _ (Jp hk dOp)).1
theorem QqS {α:Type} (d:α) {v:List α} {k:Nat} (h:v.length=k+1):v.take k++[gtd d v k]=v:=by
 have h1:gtd d v k=v[k]'(by omega):=Qb9 (List.getElem?_eq_getElem (by omega)) d
 rw [h1,List.take_append_getElem (by omega),List.take_of_length_le (by omega)]
theorem QCK {α:Type} (d:α) {v:List α} {n:Nat} (y:α) (h:v.length=n):gtd d (v++[y]) n=y:=by
 refine Qb9 ?_ d
 rw [List.getElem?_append_right (by omega)];simp [h]
theorem QQh {α:Type} {v:List α} {n:Nat} (y:α) (h:v.length=n):(v++[y]).take n=v:=by
 rw [List.take_append_of_le_length (by omega),List.take_of_length_le (by omega)]
theorem QQd {α:Type} (n:Nat) (e g:α) (l:List α):(List.replicate (n+1) e++l).set n g=List.replicate n e++g::l:=by
 rw [List.replicate_succ',List.append_assoc,List.set_append_right _ _ (by simp)]
 simp
theorem QjH {m:QU} {x:List Int} (h1:Qw m=true) (h2:Qs x (QX m)=true):Jq m x=Qy m x:=by unfold Jq;rw [if_pos (by rw [h1,h2];rfl)]
theorem QA5 {m:QU} {p:Qd} (h:Yn m p=true):Qw m=true∧Qs p.1 (QX m)=true∧Qs p.2 (Q1 m)=true:=by
 simp only [Yn,Bool.and_eq_true] at h;exact ⟨h.1.1,h.1.2,h.2⟩
theorem QqZ:∀ {ops:List TOp'} {rows:List (List Int)},rows.length=ops.length→(∀ o,o∈ops→Q7 o=true)→ZP ops rows=true→sz rows≤37*ops.length
 | [],[],_,_,_=>by simp
 | [],r::rs,h,_,_=>by simp at h
 | o::os,[],h,_,_=>by simp at h
 | o::os,r::rs,h,ho,hg=>by
  simp only [ZP,Bool.and_eq_true,beq_iff_eq] at hg
  have h1:=QnD (ho o List.mem_cons_self)
  have h2:=QqZ (by simpa using h) (fun p hp=>ho p (List.mem_cons_of_mem _ hp)) hg.2
  have h3:=Je r
  rw [Jg,List.length_cons];omega
theorem QlL {m:QU} (h:Qw m=true):∀ o,o∈m→Q7 o=true:=by
 intro o ho
 obtain ⟨i,hi⟩:=List.getElem?_of_mem ho
 simp only [Qw,Bool.and_eq_true] at h
 exact (QiG h.2 i o hi).1
theorem QMw {m:QU} {p:Qd} (h:Yn m p=true):(QdJ m p).1.length=m.length∧ZP m (QdJ m p).1=true:=by
 obtain ⟨h1,h2,h3⟩:=QA5 h
 obtain ⟨_,_,hc⟩:=Qtq h1
 have hy:=Qnb hc h2
 have hd:Qs (Zs (ZK m p.1) p.2).1 (Q1 m)=true:=by
  have:=Qqe (QgY hy h3)
  rwa [(YA.1 hy).2] at this
 have hb:=Qin hc h2 hd
 unfold QdJ
 rw [if_pos h]
 refine ⟨Qho _ _ _ (by rw [QcD];omega),hb.2⟩
theorem QtO {m:QU} (h:Qw m=true):(ZU m).1.length=m.length∧ZP m (ZU m).1=true:=by
 unfold ZU
 rw [if_pos h]
 simp only [List.length_map,true_and]
 clear h
 induction m with
 | nil=>rfl
 | cons o l ih=>simp [ZP,ih]
theorem QA3 {m:QU} {a b:QZ} (h1:a.1.length=m.length∧ZP m a.1=true) (h2:b.1.length=m.length∧ZP m b.1=true):(Ym a b).1.length=m.length∧ZP m (Ym a b).1=true:=by
 refine ⟨?_,Qj2 h1.1 h2.1 h1.2 h2.2⟩
 show (Zg _ _).1.length=_
 rw [QmK];omega
theorem QtE {m:QU} (h:Qw m=true) {a:QZ} (h1:a.1.length=m.length∧ZP m a.1=true):sz a≤296:=by
 have:=QqZ h1.1 (QlL h) h1.2
 have:=Yx h
 simp only [YB,Yb,Qa3];omega
end Go.Proofs.YtjbdljkhbglnhaaGreat.Am

