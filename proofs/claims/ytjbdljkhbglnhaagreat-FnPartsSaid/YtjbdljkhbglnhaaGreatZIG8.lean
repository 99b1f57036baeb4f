/- -/
import Derived.Test.YtjbdljkhbglnhaaGreatZIG7
set_option linter.all false
namespace Go.Proofs.YtjbdljkhbglnhaaGreat.Am
open Go Sz
def tm (ds n M s:Int) (i:TIns):Int :=
 let F:=s+2*i.2
 let B:=(if ds=2 then 2*n-1 else 2*n-1+2*M)-s+2*i.2
 if i.1=1 then 8*F else if i.1=2 then 8*F+1 else if i.1=3 then 8*F+2
 else if i.1=4 then 8*B else if i.1=5 then 8*B+1 else if i.1=6 then 8*B+2 else if i.1=7 then 8*B+3 else 1000000
def rcOf (f:Nat) (k1:Int):Nat:=if k1=1 then f+1 else f
def scOf (f:Nat) (k1:Int):Nat:=if k1=2 then f-1 else f
def rgOf (n s:Int) (g:Nat) (k1:Int):Nat:=if k1=4∨(k1=5∧s<n-1) then g+1 else g
def sgQ (g:Nat) (k1:Int):Nat:=if k1=6 then g-1 else g
def Qh1 (ds n M s:Int) (rd:Bool) (f g:Nat) (k1:Int) (i:TIns) (last:Bool):Bool :=
 decide (g≤f∧(f:Int)≤M∧1≤i.1∧i.1≤8∧0≤i.2∧i.2<M∧(i.1=8↔last=true)∧i≠(0,0)) &&
 decide (i.1=1→0<s∧i.2=f∧k1≠1) &&
 decide (i.1=2→i.2=f∧(0<s→k1=1)) &&
 decide (i.1=3→s<n-1∧i.2=(f:Int)-1∧k1=2) &&
 decide (i.1=4→s<n-1∧i.2=g) &&
 decide (i.1=5→rd=true∧i.2=g∧g<f∧(s<n-1→k1=4)) &&
 decide (i.1=6→i.2=g∧g<f∧(rd=true→k1=5)∧(rd=false→s<n-1→k1=4)) &&
 decide (i.1=7→0<s∧i.2=(g:Int)-1∧k1=6) &&
 decide (i.1=8→(f:Int)=M∧(g:Int)=M∧k1≠0) &&
 decide (k1=1→i.1=2)&&decide (k1=2→s<n-1→i.1=3)&&decide (k1=4→i.1=5∨i.1=6)&&decide (k1=5→i.1=6)&&decide (k1=6→0<s→i.1=7) &&
 decide (k1=5→rd=true)&&decide (k1=6→1≤g)&&decide (k1=2→1≤f)&&decide (k1≠8)&&decide (k1=4→s<n-1)&&decide (k1=1→0<s) &&
 decide (k1=4∨k1=5→g<f)&&decide (k1=1→(f:Int)<M) &&
 decide (s<n-1→(scOf f k1:Int)<M→tm ds n M s i≤tm ds n M s (3,(scOf f k1:Int))) &&
 decide (0<s→(rcOf f k1:Int)<M→tm ds n M s i≤tm ds n M s (1,(rcOf f k1:Int))) &&
 decide (s<n-1→(rgOf n s g k1:Int)<M→tm ds n M s i≤tm ds n M s (4,(rgOf n s g k1:Int))) &&
 decide (0<s→(sgQ g k1:Int)<M→tm ds n M s i≤tm ds n M s (7,(sgQ g k1:Int))) &&
 decide (ds=2→(f:Int)-g≤n-s)&&decide (ds=2→i.1=2→(f:Int)-g<n-s)
def QnL (M:Int) (f g:Nat) (k1:Int):Bool:=decide ((f:Int)=M∧(g:Int)=M∧k1=8)
def kf (i:TIns):Nat:=if i.1=2 then 1 else 0
def kg (i:TIns):Nat:=if i.1=6 then 1 else 0
def Qdo (ds n M s:Int) (rd:Bool):List TIns→Nat→Nat→Int→Bool
 | [],f,g,k1=>QnL M f g k1
 | i::r,f,g,k1=>Qh1 ds n M s rd f g k1 i r.isEmpty&&Qdo ds n M s rd r (f+kf i) (g+kg i) i.1
def Qyx:Bool:=[1,2].all fun ds:Int=>[1,2,3,4].all fun n:Int=>[0,1,2,3].all fun s:Int=>[1,2,3,4,5].all fun M:Int=>[true,false].all fun rd =>
 !(decide (s<n))||Qdo ds n M s rd (YA ds n s M rd) 0 0 0
set_option maxRecDepth 100000 in
theorem QHP:Qyx=true:=by kernel_rfl
theorem QVN {ds n s M:Int} (rd:Bool) (h1:1≤ds) (h2:ds≤2) (h3:n≤4) (h4:0≤s) (h5:s<n) (h6:1≤M) (h7:M≤5):Qdo ds n M s rd (YA ds n s M rd) 0 0 0=true:=by
 have h:=QHP
 unfold Qyx at h
 rw [List.all_eq_true] at h
 have h:=h ds (by have:ds=1∨ds=2:=(by omega);rcases this with rfl | rfl <;> simp)
 rw [List.all_eq_true] at h
 have h:=h n (by have:n=1∨n=2∨n=3∨n=4:=(by omega);rcases this with rfl | rfl | rfl | rfl <;> simp)
 rw [List.all_eq_true] at h
 have h:=h s (by have:s=0∨s=1∨s=2∨s=3:=(by omega);rcases this with rfl | rfl | rfl | rfl <;> simp)
 rw [List.all_eq_true] at h
 have h:=h M (by have:M=1∨M=2∨M=3∨M=4∨M=5:=(by omega);rcases this with rfl | rfl | rfl | rfl | rfl <;> simp)
 rw [List.all_eq_true] at h
 have h:=h rd (by cases rd <;> simp)
 simpa [h5] using h
def cf (l:List TIns):Nat:=(l.map kf).sum
def cg (l:List TIns):Nat:=(l.map kg).sum
def Jf (l:List TIns) (k:Nat):Int:=if k=0 then 0 else (gtd dIns l (k-1)).1
theorem Qn2 {ds n M s:Int} {rd:Bool}:∀ (l:List TIns) (f g:Nat) (k1:Int),Qdo ds n M s rd l f g k1=true→∀ k,k≤l.length →
  (∀ i,l[k]? = some i→Qh1 ds n M s rd (f+cf (l.take k)) (g+cg (l.take k)) (if k=0 then k1 else Jf l k) i (decide (k+1=l.length))=true) ∧
  (k=l.length→QnL M (f+cf (l.take k)) (g+cg (l.take k)) (if k=0 then k1 else Jf l k)=true)
 | [],f,g,k1,h,k,hk=>by
  have:k=0:=by simpa using hk
  subst this
  simp only [Qdo] at h
  exact ⟨fun i hi=>by simp at hi,fun _=>by simpa [cf,cg] using h⟩
 | i::r,f,g,k1,h,k,hk=>by
  simp only [Qdo,Bool.and_eq_true] at h
  cases k with
  | zero =>
   refine ⟨fun j hj=>?_,fun h0=>by simp at h0⟩
   simp at hj
   subst hj
   have:r.isEmpty=decide (0+1=(i::r).length):=by cases r <;> simp
   rw [← this]
   simpa [cf,cg] using h.1
  | succ k =>
   have ih:=Qn2 r (f+kf i) (g+kg i) i.1 h.2 k (by simpa using hk)
   have e1:f+cf ((i::r).take (k+1))=f+kf i+cf (r.take k):=by simp [cf];omega
   have e2:g+cg ((i::r).take (k+1))=g+kg i+cg (r.take k):=by simp [cg];omega
   have e3:(if k=0 then i.1 else Jf r k)=Jf (i::r) (k+1):=by
    unfold Jf
    cases k with
    | zero=>simp [gtd]
    | succ k=>simp [gtd]
   rw [e1,e2,if_neg (by omega),← e3]
   refine ⟨fun j hj=>?_,fun h0=>ih.2 (by simpa using h0)⟩
   have:=ih.1 j (by simpa using hj)
   rw [show decide (k+1+1=(i::r).length)=decide (k+1=r.length) by simp]
   exact this
end Go.Proofs.YtjbdljkhbglnhaaGreat.Am
namespace Go.Proofs.YtjbdljkhbglnhaaGreat.Am
open Go Sz
theorem Qah (x:Int):-2147483647≤QU x∧QU x≤2147483647:=by unfold QU iMin iMax;split <;> split <;> omega
theorem Qiq {x:Int}:Zb x=true↔-2147483647≤x∧x≤2147483647:=by simp [Zb]
theorem QUZ (x:Int):Zb (QU x)=true:=Qiq.2 (Qah x)
theorem QrD {x:Int} (h:Zb x=true):QU x=x:=by
 have:=Qiq.1 h
 unfold QU iMin iMax;split <;> split <;> omega
theorem Qnj (x:Int):Zb (Yz x).1=true:=QUZ x
theorem QoQ (a b:Int):Zb (Q7 a b).1=true:=Qnj _
theorem QKT (a b:Int):Zb (JN a b).1=true:=Qnj _
theorem QNG (a b:Int):Zb (Zm a b).1=true:=Qnj _
theorem QFg (a:Int):Zb (Qan a)=true:=by
 have:=Qah a
 rw [Qiq];unfold Qan iMax;split <;> omega
theorem QWc {a:Int} (h:Zb a=true):Q7 a 0=(a,false):=by
 have e:QU 0=0:=rfl
 unfold Q7 Yz
 rw [e,Int.add_zero,QrD h,QrD h,h];rfl
theorem QA9 {x:Int} {l:List Int}:Zz (x::l)=(Zb x&&Zz l):=rfl
theorem ZZ {v:List Int}:QJ v=true↔(1≤v.length∧v.length≤6)∧Zz v=true:=by
 simp only [QJ,Bool.and_eq_true,QP]
 constructor
 ·rintro ⟨h1,h2⟩;exact ⟨by omega,h2⟩
 ·rintro ⟨h1,h2⟩;exact ⟨by omega,h2⟩
theorem YQ {v:List Int} {n:Int}:Qr v n=true↔QJ v=true∧(v.length:Int)=n:=by simp [Qr]
theorem Qnp (f:Int→Int→Int × Bool):∀ a b:List Int,(vz f a b).1.length=min a.length b.length
 | [],b=>by simp [vz]
 | a::aa,[]=>by simp [vz]
 | a::aa,b::bb=>by simp [vz,Qnp f aa bb]
theorem Qz0 {f:Int→Int→Int × Bool} (hf:∀ a b,Zb (f a b).1=true):∀ a b:List Int,Zz (vz f a b).1=true
 | [],b=>by simp [vz,Zz]
 | a::aa,[]=>by simp [vz,Zz]
 | a::aa,b::bb=>by simp only [vz,QA9,hf,Qz0 hf aa bb,Bool.and_self]
theorem QBl (f:Int→Int × Bool):∀ a:List Int,(v1 f a).1.length=a.length
 | []=>rfl
 | a::aa=>by simp [v1,QBl f aa]
theorem QyY {f:Int→Int × Bool} (hf:∀ a,Zb (f a).1=true):∀ a:List Int,Zz (v1 f a).1=true
 | []=>rfl
 | a::aa=>by simp only [v1,QA9,hf,QyY hf aa,Bool.and_self]
theorem Qtx:∀ (a b:List Int) (z:Int),Zb z=true→Zb (Y6 a b z).1=true
 | [],b,z,h=>by simpa [Y6] using h
 | a::aa,[],z,h=>by simpa [Y6] using h
 | a::aa,b::bb,z,h=>by rw [Y6];exact Qtx aa bb _ (QoQ _ _)
theorem QlV (a b:List Int):Zb (Q2 a b).1=true:=by
 unfold Q2;split
 ·exact Qtx _ _ _ rfl
 ·rfl
theorem J2 {a b:List Int}:ZG a b=true↔QJ a=true∧QJ b=true∧b.length=a.length:=by
 unfold ZG;rw [Bool.and_eq_true,YQ]
 constructor <;> (intro h;exact ⟨h.1,h.2.1,by omega⟩)
theorem QtM {f:Int→Int→Int × Bool} (hf:∀ a b,Zb (f a b).1=true) {a b:List Int} (h:ZG a b=true):Qr (vz f a b).1 a.length=true:=by
 obtain ⟨h1,h2,h3⟩:=J2.1 h
 have:=(ZZ.1 h1).1
 have hl:=Qnp f a b
 exact YQ.2 ⟨ZZ.2 ⟨by omega,Qz0 hf a b⟩,by omega⟩
theorem Qmo {a b:List Int} (h:ZG a b=true):Qr (Zi a b).1 a.length=true:=by unfold Zi;rw [if_pos h];exact QtM QoQ h
theorem QH6 {a b:List Int} (h:ZG a b=true):Qr (Ze a b).1 a.length=true:=by unfold Ze;rw [if_pos h];exact QtM QKT h
theorem Qm8 {a b:List Int} {n:Int} (h1:Qr a n=true) (h2:Qr b n=true):ZG a b=true:=by
 obtain ⟨h3,h4⟩:=YQ.1 h1
 obtain ⟨h5,h6⟩:=YQ.1 h2
 exact J2.2 ⟨h3,h5,by omega⟩
theorem Qv1 {c:Int} {a:List Int} (hc:Zb c=true) (h:QJ a=true):Qr (ZE c a).1 a.length=true:=by
 unfold ZE
 rw [hc,h,Bool.and_self,if_pos rfl]
 have:=(ZZ.1 h).1
 have hl:=QBl (Zm c) a
 exact YQ.2 ⟨ZZ.2 ⟨by omega,QyY (QNG c) a⟩,by omega⟩
theorem QUw {α:Type} {f:α→Int} (hf:∀ a,Zb (f a)=true) (l:List α):Zz (l.map f)=true:=by
 unfold Zz;rw [List.all_eq_true];intro x hx
 obtain ⟨a,_,rfl⟩:=List.mem_map.1 hx
 exact hf a
theorem Qnw {α:Type} {f:α→Int} (hf:∀ a,Zb (f a)=true) {l:List α} (h1:1≤l.length) (h2:l.length≤6):Qr (l.map f) l.length=true :=
 YQ.2 ⟨ZZ.2 ⟨by simp;omega,QUw hf l⟩,by simp⟩
theorem QL3 {a:List Int} (h:QJ a=true):Qr (Yi a) a.length=true:=by
 unfold Yi;rw [if_pos h]
 have:=(ZZ.1 h).1
 exact Qnw QFg (by omega) (by omega)
theorem QrU {m:TMat} {x:List Int} (h:(Zw m&&Qr x m.2.1)=true):Qr (Zl m x).1 m.1=true:=by
 unfold Zl;rw [if_pos h]
 have h1:1≤m.1∧m.1≤6:=by simp only [Zw,Bool.and_eq_true,QP] at h;omega
 have:=Qnw (f:=fun i:Nat=>(Q2 (Jd m i) x).1) (fun i=>QlV _ _) (l:=List.range m.1.toNat) (by simp;omega) (by simp;omega)
 rw [List.length_range,show ((m.1.toNat:Nat):Int)=m.1 by omega] at this
 exact this
theorem QDI {m:TMat} {x:List Int} (h:(Zw m&&Qr x m.1)=true):Qr (Zs m x).1 m.2.1=true:=by
 unfold Zs;rw [if_pos h]
 have h1:1≤m.2.1∧m.2.1≤6:=by simp only [Zw,Bool.and_eq_true,QP] at h;omega
 have:=Qnw (f:=fun i:Nat=>(Q2 (Z7 m i) x).1) (fun i=>QlV _ _) (l:=List.range m.2.1.toNat) (by simp;omega) (by simp;omega)
 rw [List.length_range,show ((m.2.1.toNat:Nat):Int)=m.2.1 by omega] at this
 exact this
theorem QP5 {x d:List Int} (h:ZG x d=true):Qr (Yj x d) x.length=true:=by
 unfold Yj;rw [if_pos h]
 obtain ⟨h1,h2,h3⟩:=J2.1 h
 have hl:=(ZZ.1 h1).1
 have hf:=(ZZ.1 h2).2
 refine YQ.2 ⟨ZZ.2 ⟨by simp;omega,?_⟩,by simp;omega⟩
 unfold Zz at hf ⊢
 rw [List.all_eq_true] at hf ⊢
 intro y hy
 rw [List.mem_iff_getElem?] at hy
 obtain ⟨i,hi⟩:=hy
 rw [List.getElem?_zipWith] at hi
 split at hi
 ·rename_i a b ha hb
  cases hi
  split
  ·exact hf b (List.mem_of_getElem? hb)
  ·rfl
 ·cases hi
theorem QyV {d x:List Int} (hd:QJ d=true) (hx:QJ x=true):(Zh d x).1.2.2.length=d.length*x.length:=by
 unfold Zh;rw [hd,hx,Bool.and_self,if_pos rfl]
 simp only
 generalize d=l
 clear hd
 induction l with
 | nil=>simp
 | cons a l ih=>rw [List.flatMap_cons,List.length_append,ih];simp [Nat.add_mul];omega
theorem Qeb {o:TOp'} (h:Zd o=true):(o.2.2.2.length:Int)=(if o.1=1∨o.1=5 then o.2.1*o.2.2.1 else if o.1=2 then o.2.1 else if o.1=4 then 1 else 0):=by
 have h1:=Qbc h
 simp only [Zd,Bool.and_eq_true,beq_iff_eq] at h
 rw [h.1.2]
 unfold Yc
 rw [show m_in o.2.1 1 6=true from QP.2 ⟨h1.1,h1.2.1⟩,show m_in o.2.2.1 1 6=true from QP.2 ⟨h1.2.2.1,h1.2.2.2⟩]
 rfl
theorem QiN {o:TOp'} (h:Zd o=true):Zz o.2.2.2=true:=by simp only [Zd,Bool.and_eq_true] at h;exact h.2
theorem opEq {o:TOp'} (h:Zd o=true) (h1:o.1≠1):o.2.1=o.2.2.1:=by
 simp only [Zd,Bool.and_eq_true,Bool.or_eq_true,beq_iff_eq] at h
 rcases h.1.1.2 with h | h
 ·exact absurd h h1
 ·exact h
theorem Qgy {o:TOp'} (h:Zd o=true) (h1:o.1=1∨o.1=5):Zw (Q4 o)=true:=by
 have h2:=Qbc h
 have h3:=Qeb h
 rw [if_pos h1] at h3
 simp only [Zw,Q4,Bool.and_eq_true,QP,beq_iff_eq]
 refine ⟨⟨⟨⟨by omega,by omega⟩,by omega,by omega⟩,?_⟩,QiN h⟩
 rw [h3,Int.mul_comm]
theorem Qny {o:TOp'} {x:List Int} (ho:Zd o=true) (hx:Qr x o.2.1=true):Qr (YB o x).1 o.2.2.1=true:=by
 have hx':=YQ.1 hx
 unfold YB
 rw [ho,hx,Bool.and_self,if_pos rfl]
 split
 ·rename_i h1
  exact QrU (m:=Q4 o) (by rw [Qgy ho (.inl h1)];simpa [Q4] using hx)
 ·rename_i h1
  have he:=opEq ho h1
  rw [← he]
  split
  ·rename_i h2
   have h3:=Qeb ho
   rw [if_neg (by omega),if_pos h2] at h3
   have h4:=Qbc ho
   have hp:ZG x o.2.2.2=true:=J2.2 ⟨hx'.1,ZZ.2 ⟨by omega,QiN ho⟩,by omega⟩
   rw [← hx'.2]
   exact Qmo hp
  ·split
   ·rename_i h2 h3
    have h4:=Qeb ho
    rw [if_neg (by omega),if_neg h2,if_pos h3] at h4
    have hf:Zb (gtd 0 o.2.2.2 0)=true:=by
     have:=QiN ho
     unfold Zz at this
     exact List.all_eq_true.1 this _ (Jb (by omega) 0)
    rw [← hx'.2]
    exact Qv1 hf hx'.1
   ·split
    ·rename_i h5
     have hm:=Qgy ho (.inr h5)
     have hy:Qr (Zl (Q4 o) x).1 o.2.2.1=true:=QrU (m:=Q4 o) (by rw [hm];simpa [Q4] using hx)
     rw [← he] at hy
     have:=Qmo (Qm8 hx hy)
     rwa [hx'.2] at this
    ·have:=QL3 hx'.1
     rwa [hx'.2] at this
theorem QHh {o:TOp'} {x d:List Int} (ho:Zd o=true) (hx:Qr x o.2.1=true) (hd:Qr d o.2.2.1=true) :
  Qr (Yk o x d).1 o.2.1=true∧(Yk o x d).2.1.length=o.2.2.2.length:=by
 have hx':=YQ.1 hx
 have hd':=YQ.1 hd
 have hs:=Qeb ho
 unfold Yk
 rw [ho,hx,hd,Bool.and_self,Bool.and_self,if_pos rfl]
 split
 ·rename_i h1
  rw [if_pos (.inl h1)] at hs
  refine ⟨QDI (m:=Q4 o) (by rw [Qgy ho (.inl h1)];simpa [Q4] using hd),?_⟩
  have:=QyV hd'.1 hx'.1
  show (Zh d x).1.2.2.length=_
  rw [this]
  have:((d.length*x.length:Nat):Int)=o.2.1*o.2.2.1:=by rw [Int.natCast_mul,hd'.2,hx'.2,Int.mul_comm]
  omega
 ·rename_i h1
  have he:=opEq ho h1
  split
  ·rename_i h2
   rw [if_neg (by omega),if_pos h2] at hs
   refine ⟨by rw [he];exact hd,?_⟩
   show d.length=_
   omega
  ·split
   ·rename_i h2 h3
    rw [if_neg (by omega),if_neg h2,if_pos h3] at hs
    have hf:Zb (gtd 0 o.2.2.2 0)=true:=by
     have:=QiN ho
     unfold Zz at this
     exact List.all_eq_true.1 this _ (Jb (by omega) 0)
    refine ⟨?_,?_⟩
    ·have:=Qv1 hf hd'.1
     rw [hd'.2,← he] at this
     exact this
    ·show [(Q2 d x).1].length=_
     simp;omega
   ·split
    ·rename_i h2 h3 h5
     rw [if_pos (.inr h5)] at hs
     have hm:=Qgy ho (.inr h5)
     have hy:Qr (Zs (Q4 o) d).1 o.2.1=true:=QDI (m:=Q4 o) (by rw [hm];simpa [Q4] using hd)
     refine ⟨?_,?_⟩
     ·rw [he] at hy
      have:=Qmo (Qm8 hd hy)
      rw [hd'.2,← he] at this
      exact this
     ·have:=QyV hd'.1 hx'.1
      show (Zh d x).1.2.2.length=_
      rw [this]
      have:((d.length*x.length:Nat):Int)=o.2.1*o.2.2.1:=by rw [Int.natCast_mul,hd'.2,hx'.2,Int.mul_comm]
      omega
    ·rename_i h2 h3 h5
     rw [if_neg (by omega),if_neg h2,if_neg h3] at hs
     have hp:ZG x d=true:=J2.2 ⟨hx'.1,hd'.1,by omega⟩
     refine ⟨?_,by simp;omega⟩
     have:=QP5 hp
     rw [hx'.2] at this
     exact this
theorem Qc3:∀ (ops:List TOp') (x:List Int),(QG ops x).1.length=ops.length+1
 | [],x=>rfl
 | o::r,x=>by simp [QG,Qc3 r]
def Z9 (ops:List TOp') (x:List Int):List Int:=gtd [] (QG ops x).1 ops.length
theorem QjU (x:List Int):Z9 [] x=x:=rfl
theorem QfW (o:TOp') (r:List TOp') (x:List Int):Z9 (o::r) x=Z9 r (YB o x).1:=by
 unfold Z9;rw [QG];simp [gtd]
theorem Qv5:∀ (a b:List TOp') (x:List Int),QG (a++b) x=((QG a x).1.take a.length++(QG b (Z9 a x)).1,(QG a x).2||(QG b (Z9 a x)).2)
 | [],b,x=>by simp [QG,QjU]
 | o::a,b,x=>by
  rw [List.cons_append,QG,Qv5 a b,QfW,QG]
  simp [Bool.or_assoc]
theorem QMy (a b:List TOp') (x:List Int):Z9 (a++b) x=Z9 b (Z9 a x):=by
 induction a generalizing x with
 | nil=>rfl
 | cons o a ih=>rw [List.cons_append,QfW,QfW,ih]
theorem QOT (ops:List TOp') (x:List Int):gtd [] (QG ops x).1 0=x:=by cases ops <;> simp [QG,gtd]
theorem QFK (ops:List TOp') (x:List Int):(QG ops x).1.take ops.length++[Z9 ops x]=(QG ops x).1:=by
 unfold Z9
 have hl:=Qc3 ops x
 have:gtd [] (QG ops x).1 ops.length=(QG ops x).1[ops.length]'(by omega):=QbL (List.getElem?_eq_getElem (by omega)) []
 rw [this,List.take_append_getElem (by omega),List.take_of_length_le (by omega)]
theorem Qja:∀ (ops:List TOp') (rows:List (List Int)) (d:List Int),ops.length≤rows.length→(QO ops rows d).1.length=ops.length
 | [],rows,d,_=>by simp [QO]
 | o::os,[],d,h=>by simp at h
 | o::os,r::rs,d,h=>by simp [QO,Qja os rs d (by simpa using h)]
theorem Qph:∀ (a b:List TOp') (ra rb:List (List Int)) (d:List Int),ra.length=a.length →
  QO (a++b) (ra++rb) d=((QO a ra (QO b rb d).2.1).1++(QO b rb d).1,(QO a ra (QO b rb d).2.1).2.1,(QO a ra (QO b rb d).2.1).2.2||(QO b rb d).2.2)
 | [],b,ra,rb,d,h=>by
  have:ra=[]:=List.eq_nil_of_length_eq_zero (by simpa using h)
  subst this
  simp [QO]
 | o::a,b,[],rb,d,h=>by simp at h
 | o::a,b,r::ra,rb,d,h=>by
  rw [List.cons_append,List.cons_append,QO,Qph a b ra rb d (by simpa using h),QO]
  simp [Bool.or_assoc]
theorem QLX:∀ (ops:List TOp') (rows more:List (List Int)) (d:List Int),rows.length=ops.length→QO ops (rows++more) d=QO ops rows d:=by
 intro ops rows more d h
 have:=Qph ops [] rows more d h
 rw [List.append_nil] at this
 rw [this]
 simp [QO]
end Go.Proofs.YtjbdljkhbglnhaaGreat.Am
namespace Go.Proofs.YtjbdljkhbglnhaaGreat.Am
open Go Sz
def Yf:Int→List TOp'→Int→Prop
 | i,[],o=>i=o
 | i,a::r,o=>Zd a=true∧a.2.1=i∧Yf a.2.2.1 r o
theorem Yf.append:∀ {a b:List TOp'} {i o:Int},Yf i (a++b) o↔∃ k,Yf i a k∧Yf k b o
 | [],b,i,o=>by simp [Yf]
 | x::a,b,i,o=>by
  rw [List.cons_append,Yf,Yf.append]
  constructor
  ·rintro ⟨h1,h2,k,h3,h4⟩;exact ⟨k,⟨h1,h2,h3⟩,h4⟩
  ·rintro ⟨k,⟨h1,h2,h3⟩,h4⟩;exact ⟨h1,h2,k,h3,h4⟩
theorem QCz:∀ {l:List TOp'} {p:Option Int},Yt p l=true→∃ i o,Yf i l o∧(∀ q,p=some q→l≠[]→q=i)
 | [],p,h=>⟨0,0,rfl,fun q _ h=>absurd rfl h⟩
 | a::r,p,h=>by
  simp only [Yt,Bool.and_eq_true] at h
  obtain ⟨i,o,h1,h2⟩:=QCz h.2
  have hp:∀ q,p=some q→a::r≠[]→q=a.2.1:=fun q hq _=>by
   have:=h.1.2
   rw [hq] at this
   simpa using this
  cases r with
  | nil=>exact ⟨a.2.1,a.2.2.1,⟨h.1.1,rfl,rfl⟩,hp⟩
  | cons b r =>
   have:=h2 _ rfl (by simp)
   rw [← this] at h1
   exact ⟨a.2.1,o,⟨h.1.1,rfl,h1⟩,hp⟩
theorem Qto:∀ {l:List TOp'} {i o:Int} {p:Option Int},Yf i l o→(∀ q,p=some q→q=i)→Yt p l=true
 | [],i,o,p,h,hp=>rfl
 | a::r,i,o,p,h,hp=>by
  obtain ⟨h1,h2,h3⟩:=h
  simp only [Yt,Bool.and_eq_true]
  refine ⟨⟨h1,?_⟩,Qto h3 (fun q hq=>by cases hq;rfl)⟩
  cases p with
  | none=>rfl
  | some q=>simp [hp q rfl,h2]
theorem Yf.out_eq:∀ {l:List TOp'} {i o:Int},Yf i l o→l≠[]→(gtd dOp l (l.length-1)).2.2.1=o
 | [],i,o,h,hn=>absurd rfl hn
 | [a],i,o,h,hn=>h.2.2
 | a::b::r,i,o,h,hn=>by
  have:=Yf.out_eq h.2.2 (by simp)
  simpa [gtd] using this
theorem Qhr {l:List TOp'} {i o:Int} (h:Yf i l o) (h1:1≤l.length) (h2:l.length≤8):QT l=true∧Q6 l=i∧Q5 l=o:=by
 have hm:QT l=true:=by
  simp only [QT,Bool.and_eq_true,QP]
  exact ⟨by omega,Qto h (by simp)⟩
 refine ⟨hm,?_,?_⟩
 ·unfold Q6;rw [if_pos hm]
  cases l with
  | nil=>simp at h1
  | cons a r=>exact h.2.1
 ·unfold Q5;rw [if_pos hm]
  exact h.out_eq (by intro e;rw [e] at h1;simp at h1)
theorem QJB {l:List TOp'} (h:QT l=true):1≤l.length∧l.length≤8∧Yf (Q6 l) l (Q5 l):=by
 have hl:=Ym h
 refine ⟨hl.1,hl.2,?_⟩
 have h':=h
 simp only [QT,Bool.and_eq_true] at h'
 obtain ⟨i,o,h1,_⟩:=QCz h'.2
 have:=Qhr h1 hl.1 hl.2
 rw [this.2.1,this.2.2]
 exact h1
theorem Qyl:∀ {l:List TOp'} {i o:Int} {x:List Int},Yf i l o→Qr x i=true→Qr (Z9 l x) o=true
 | [],i,o,x,h,hx=>by rw [QjU,← show i=o from h];exact hx
 | a::r,i,o,x,h,hx=>by
  obtain ⟨h1,h2,h3⟩:=h
  rw [QfW]
  exact Qyl h3 (Qny h1 (by rw [h2];exact hx))
theorem Qnh:∀ {l:List TOp'} {i o:Int} {x d:List Int},Yf i l o→Qr x i=true→Qr d o=true →
  Qr (QO l (QG l x).1 d).2.1 i=true∧Z1 l (QO l (QG l x).1 d).1=true
 | [],i,o,x,d,h,hx,hd=>by
  refine ⟨?_,rfl⟩
  show Qr d i=true
  rw [show i=o from h];exact hd
 | a::r,i,o,x,d,h,hx,hd=>by
  obtain ⟨h1,h2,h3⟩:=h
  rw [QG]
  have hx':Qr x a.2.1=true:=by rw [h2];exact hx
  have ih:=Qnh h3 (Qny h1 hx') hd
  have:=QHh h1 hx' ih.1
  rw [QO]
  refine ⟨by rw [← h2];exact this.1,?_⟩
  simp only [Z1,Bool.and_eq_true,beq_iff_eq]
  exact ⟨this.2,ih.2⟩
theorem Qzv (all:List TOp') {o:Int}:∀ {l:List TOp'} {i:Int} {x:List Int} {k:Nat},Yf i l o→all.drop k=l→k≤all.length→(l=[]→Jh all k=i)→Qr x i=true→Yh all k (QG l x).1=true
 | [],i,x,k,h,hk,hle,hs,hx=>by
  simp only [QG,Yh,Bool.and_true]
  rw [hs rfl];exact hx
 | a::r,i,x,k,h,hk,hle,hs,hx=>by
  obtain ⟨h1,h2,h3⟩:=h
  have hlt:=Qfh hk
  have hx':Qr x a.2.1=true:=by rw [h2];exact hx
  simp only [QG,Yh,Bool.and_eq_true]
  refine ⟨?_,Qzv all h3 (ZX hk) hlt (fun hr=>?_) (Qny h1 hx')⟩
  ·unfold Jh;rw [if_pos hlt,Yb hk];exact hx'
  ·have:all.length=k+1:=by have:=Qrm hk;rw [hr] at this;simp at this;omega
   unfold Jh
   rw [if_neg (by omega),show all.length-1=k by omega,Yb hk]
theorem QPw {l:List TOp'} {i o:Int} {x:List Int} (h:Yf i l o) (hl:l≠[]) (hx:Qr x i=true):Yh l 0 (QG l x).1=true :=
 Qzv l h (by simp) (by simp) (fun h0=>absurd h0 hl) hx
theorem QeR:∀ (ops:List TOp') (rows:List (List Int)) (k n:Nat),Yh ops k rows=true→Yh ops k (rows.take n)=true
 | ops,[],k,n,h=>by simp [Yh]
 | ops,r::rs,k,0,h=>by simp [Yh]
 | ops,r::rs,k,n+1,h=>by
  simp only [Yh,List.take_succ_cons,Bool.and_eq_true] at h ⊢
  exact ⟨h.1,QeR ops rs (k+1) n h.2⟩
theorem QFh (a b:List TOp') (x d:List Int) :
  QO (a++b) (QG (a++b) x).1 d =
   ((QO a (QG a x).1 (QO b (QG b (Z9 a x)).1 d).2.1).1++(QO b (QG b (Z9 a x)).1 d).1,
    (QO a (QG a x).1 (QO b (QG b (Z9 a x)).1 d).2.1).2.1,
    (QO a (QG a x).1 (QO b (QG b (Z9 a x)).1 d).2.1).2.2||(QO b (QG b (Z9 a x)).1 d).2.2):=by
 have hl:=Qc3 a x
 have ht:((QG a x).1.take a.length).length=a.length:=by simp;omega
 rw [Qv5]
 simp only
 rw [Qph a b _ _ d ht]
 have e:∀ d',QO a ((QG a x).1.take a.length) d'=QO a (QG a x).1 d':=fun d'=>by
  rw [← QLX a _ [Z9 a x] d' ht,QFK]
 rw [e]
theorem QxX:∀ (a b:List (List Int)),(ZC a b).1.length=min a.length b.length
 | [],b=>by simp [ZC]
 | x::a,[]=>by simp [ZC]
 | x::a,y::b=>by simp [ZC,QxX a b]
theorem QrV:∀ {ops:List TOp'} {a b:List (List Int)},a.length=ops.length→b.length=ops.length→Z1 ops a=true→Z1 ops b=true→Z1 ops (ZC a b).1=true
 | [],a,b,h1,h2,h3,h4=>by
  have:a=[]:=List.eq_nil_of_length_eq_zero (by simpa using h1)
  subst this
  simp [ZC,Z1]
 | o::ops,[],b,h1,h2,h3,h4=>by simp at h1
 | o::ops,x::a,[],h1,h2,h3,h4=>by simp at h2
 | o::ops,x::a,y::b,h1,h2,h3,h4=>by
  simp only [Z1,Bool.and_eq_true,beq_iff_eq] at h3 h4
  simp only [ZC,Z1,Bool.and_eq_true,beq_iff_eq]
  refine ⟨?_,QrV (by simpa using h1) (by simpa using h2) h3.2 h4.2⟩
  rw [Qnp];omega
end Go.Proofs.YtjbdljkhbglnhaaGreat.Am
namespace Go.Proofs.YtjbdljkhbglnhaaGreat.Am
open Go Sz
def Qx {α:Type} [Sz α] (x:α):Prop:=sz x≤2147483648
def Z2 {α β:Type} [Sz α] [Sz β] (x:α) (y:β):Prop:=sz x+sz y≤2147483648
def p_st (st s m:Int):Prop:=-1000≤st∧st≤1000
def Qdc (l:List TIns) (st s m:Int):List TIns:=l++QaM st s m
def Qec (l:List TIns) (st s m:Int) (redo:Bool):List TIns:=l++QdA st s m redo
def p_l9 (l:List TIns) (st s m:Int):Prop:=p_st st s m∧l.length≤1000000
def Qns (l:List TIns) (st s m:Int) (_:Bool):Prop:=p_l9 l st s m
def Qj6 (ops:List TOp') (x:List Int):Prop:=ops.length≤1000000∧x.length≤1000000
def Qpm (m:TMat) (i:Int):Prop:=0≤m.2.1∧m.2.1≤6∧0≤i∧i<m.1∧m.1≤6∧(m.2.2.length:Int)=m.1*m.2.1
def QkG (m:TMat) (k:Int):Prop:=m.2.1≤6∧0≤k∧k<m.2.1∧0≤m.1∧m.1≤6∧(m.2.2.length:Int)=m.1*m.2.1
@[simp] theorem Zc {α:Type} (v:List α) (e:α):List.take (v.length+1) (List.take v.length v++[e])=v++[e]:=by
 rw [List.take_length,List.take_of_length_le (by simp)]
@[simp] theorem QYh {α:Type} (v xs:List α):List.take (v.length+xs.length) (List.take v.length v++xs)=v++xs:=by
 rw [List.take_length,List.take_of_length_le (by simp)]
theorem Jn {α:Type} {l:List α} {k:Nat} (h:k<l.length):∃ y q,l.drop k=y::q:=by
 cases hq:l.drop k with
 | nil=>have:=congrArg List.length hq;simp at this;omega
 | cons y q=>exact ⟨y,q,rfl⟩
theorem YS {α:Type} {v:List α} {k:Nat} {x:α} (h:v.length=k):(v++[x]).length=k+1:=by simp [h]
theorem room {n:Nat} (h:n+1≤2147483648):(n=n∨n+1≤n)∧n+1≤big:=⟨.inl rfl,by rw [Q9];omega⟩
theorem sc1 {k:Nat} (h:k<9223372036854775807):w64 ((k:Int)+1)=((k+1:Nat):Int):=by rw [Qp (by omega) (by omega)];omega
theorem QCE (a b:Int):-4611686018427387904≤QU a*QU b∧QU a*QU b≤4611686018427387904:=by
 obtain ⟨h1,h2⟩:=Qah a
 obtain ⟨h3,h4⟩:=Qah b
 generalize QU a=x at *
 generalize QU b=y at *
 have hx:x.natAbs≤2147483647:=by omega
 have hy:y.natAbs≤2147483647:=by omega
 have h:=Nat.mul_le_mul hx hy
 rw [← Int.natAbs_mul] at h
 omega
theorem QVH (x:Int):(if 2147483647<(if x < -2147483647 then -2147483647 else x) then 2147483647 else (if x < -2147483647 then -2147483647 else x))=QU x:=by
 unfold QU iMin iMax;repeat' split
 all_goals omega
theorem QW3 (a:Int):(if ((Int.tmod a 65536 != 0)&&(!(decide (a<0)==decide ((65536:Int)<0))))=true then Int.tdiv a 65536-1 else Int.tdiv a 65536)=Int.fdiv a 65536:=by
 rw [Int.fdiv_eq_ediv_of_nonneg _ (by omega),Int.tmod_eq_emod,Int.tdiv_eq_ediv]
 have hs:Int.sign 65536=1:=rfl
 rw [hs]
 by_cases h:0≤a
 ·have:decide (a<0)=false:=by simp;omega
  simp [h,this]
 ·have:decide (a<0)=true:=by simp;omega
  by_cases h2:(65536:Int) ∣ a
  ·have:a % 65536=0:=Int.emod_eq_zero_of_dvd h2
   simp [h,h2,this]
  ·have:a % 65536≠0:=fun e=>h2 (Int.dvd_of_emod_eq_zero e)
   simp [h,h2,this]
   omega
theorem idx {r R C:Int} (h1:0≤r) (h2:r<R) (h3:0≤C):0≤r*C∧r*C+C≤R*C∧(r+1)*C=r*C+C:=by
 have h4:(r+1)*C=r*C+C:=by rw [Int.add_mul,Int.one_mul]
 have h5:=Int.mul_le_mul_of_nonneg_right (show r+1≤R by omega) h3
 exact ⟨Int.mul_nonneg h1 h3,by omega,h4⟩
theorem Qc8 {m:TMat} (h:Zw m=true):1≤m.1∧m.1≤6∧1≤m.2.1∧m.2.1≤6∧(m.2.2.length:Int)=m.1*m.2.1∧m.1*m.2.1≤36∧Zz m.2.2=true:=by
 simp only [Zw,Bool.and_eq_true,QP,beq_iff_eq] at h
 have:=QcN h.1.1.1.1 h.1.1.1.2 h.1.1.2.1 h.1.1.2.2
 exact ⟨h.1.1.1.1,h.1.1.1.2,h.1.1.2.1,h.1.1.2.2,h.1.2,this.2,h.2⟩
theorem Qn6 {f:Nat→Bool} {k:Nat}:(List.range (k+1)).any f=((List.range k).any f||f k):=by rw [List.range_succ,List.any_append];simp
theorem QfA {α:Type} {f:Nat→α} {k:Nat}:(List.range (k+1)).map f=(List.range k).map f++[f k]:=by rw [List.range_succ,List.map_append];rfl
theorem Qd5 {α:Type} {f:Nat→List α} {k:Nat}:(List.range (k+1)).flatMap f=(List.range k).flatMap f++f k:=by rw [List.range_succ,List.flatMap_append];simp
theorem QmP {α:Type} {f:Nat→List α} {R:Nat} (n:Nat) (h:∀ k,k<n→(f k).length=R):((List.range n).flatMap f).length=n*R:=by
 induction n with
 | zero=>simp
 | succ n ih=>rw [Qd5,List.length_append,ih (fun k hk=>h k (by omega)),h n (by omega),Nat.add_mul];omega
theorem Qu7 {α:Type} {f:Nat→List α} {R:Nat} {k:Nat}:∀ (n:Nat),k<n→(∀ k,k<n→(f k).length=R)→(((List.range n).flatMap f).drop (k*R)).take R=f k
 | 0,hk,_=>by omega
 | n+1,hk,h=>by
  have hl:=QmP n (fun k hk=>h k (by omega))
  rw [Qd5]
  by_cases e:k=n
  ·subst e
   rw [List.drop_append,List.drop_eq_nil_of_le (by omega),hl,Nat.sub_self,List.drop_zero,List.nil_append,List.take_of_length_le (by rw [h k (by omega)];exact Nat.le_refl _)]
  ·have ih:=Qu7 (k:=k) n (by omega) (fun k hk=>h k (by omega))
   have:(k+1)*R≤n*R:=Nat.mul_le_mul_right R (show k+1≤n by omega)
   rw [Nat.add_mul,Nat.one_mul] at this
   rw [List.drop_append_of_le_length (by omega),List.take_append_of_le_length (by rw [List.length_drop,hl];omega),ih]
theorem Ql6 (m:TMat) (k:Int):(Z7 m k).length=m.1.toNat:=by simp [Z7]
theorem QQL {m:TMat} (h:Zw m=true) {k:Nat} (hk:(k:Int)<m.2.1):Zz (Z7 m k)=true:=by
 obtain ⟨h1,h2,h3,h4,h5,h6,h7⟩:=Qc8 h
 unfold Zz Z7
 rw [List.all_eq_true]
 intro x hx
 obtain ⟨i,hi,rfl⟩:=List.mem_map.1 hx
 have hi:=List.mem_range.1 hi
 have hd:=idx (r:=i) (R:=m.1) (C:=m.2.1) (by omega) (by omega) (by omega)
 unfold Zz at h7
 generalize (i:Int)*m.2.1=z at *
 generalize m.1*m.2.1=y at *
 exact List.all_eq_true.1 h7 _ (Jb (show Int.toNat (z+k)<m.2.2.length by omega) 0)
theorem QOD {m:TMat} (h:Zw m=true):Zw (YV m)=true∧(YV m).1=m.2.1∧(YV m).2.1=m.1∧∀ k:Nat,(k:Int)<m.2.1→Jd (YV m) k=Z7 m k:=by
 obtain ⟨h1,h2,h3,h4,h5,h6,h7⟩:=Qc8 h
 have ht:YV m=(m.2.1,m.1,(List.range m.2.1.toNat).flatMap fun k:Nat=>Z7 m k):=by unfold YV;rw [if_pos h]
 have hl:=QmP (f:=fun k:Nat=>Z7 m k) m.2.1.toNat (fun k hk=>Ql6 m k)
 have hn:((m.2.1.toNat*m.1.toNat:Nat):Int)=m.2.1*m.1:=by rw [Int.natCast_mul,Int.toNat_of_nonneg (by omega),Int.toNat_of_nonneg (by omega)]
 rw [ht]
 refine ⟨?_,rfl,rfl,fun k hk=>?_⟩
 ·simp only [Zw,Bool.and_eq_true,QP,beq_iff_eq]
  refine ⟨⟨⟨⟨h3,h4⟩,h1,h2⟩,by rw [hl,hn]⟩,?_⟩
  unfold Zz
  rw [List.all_eq_true]
  intro x hx
  obtain ⟨k,hk,hx⟩:=List.mem_flatMap.1 hx
  have:=QQL h (k:=k) (by have:=List.mem_range.1 hk;omega)
  unfold Zz at this
  exact List.all_eq_true.1 this x hx
 ·have hs:=Qu7 (f:=fun k:Nat=>Z7 m k) (k:=k) m.2.1.toNat (by omega) (fun k hk=>Ql6 m k)
  have hd:=idx (r:=k) (R:=m.2.1) (C:=m.1) (by omega) hk (by omega)
  have e1:Int.toNat ((k:Int)*m.1)=k*m.1.toNat:=by
   have:((k*m.1.toNat:Nat):Int)=(k:Int)*m.1:=by rw [Int.natCast_mul,Int.toNat_of_nonneg (by omega)]
   omega
  unfold Jd slice
  simp only
  rw [show Int.toNat (((k:Int)+1)*m.1)-Int.toNat ((k:Int)*m.1)=m.1.toNat by omega,e1]
  exact hs
theorem QUV {m:TMat} {d:List Int} (h:Zw m=true) (hd:Qr d m.1=true):Zl (YV m) d=Zs m d:=by
 obtain ⟨h1,h2,h3,h4⟩:=QOD h
 unfold Zl Zs
 rw [if_pos (by rw [h1,h3,hd];rfl),if_pos (by rw [h,hd];rfl),h2]
 have e:∀ i,i∈List.range m.2.1.toNat→Jd (YV m) (i:Nat)=Z7 m (i:Nat):=fun i hi=>h4 i (by have:=List.mem_range.1 hi;omega)
 refine Prod.ext (List.map_congr_left fun i hi=>by rw [e i hi]) ?_
 show (List.range m.2.1.toNat).any _=(List.range m.2.1.toNat).any _
 rw [Bool.eq_iff_iff,List.any_eq_true,List.any_eq_true]
 constructor
 ·rintro ⟨i,hi,h⟩;exact ⟨i,hi,by rw [← e i hi];exact h⟩
 ·rintro ⟨i,hi,h⟩;exact ⟨i,hi,by rw [e i hi];exact h⟩
theorem QCj {m:TMat} {d:List Int} (h:¬ (Zw m=true∧Qr d m.1=true)):Zs m d=([],false):=by unfold Zs;rw [if_neg (by simpa using h)]
theorem QzJ {m:TMat} {d:List Int} (h:¬ (Zw m=true∧Qr d m.2.1=true)):Zl m d=([],false):=by unfold Zl;rw [if_neg (by simpa using h)]
theorem QiV {x:Int} (h:0≤x):0≤QU x:=by
 unfold QU iMin iMax
 repeat' split
 all_goals omega
theorem Qzb:∀ (a:List Int) (z:Int),0≤z→0≤(Y6 a a z).1
 | [],z,h=>by simpa [Y6] using h
 | x::r,z,h=>by
  rw [Y6]
  refine Qzb r _ ?_
  have h1:0≤QU x*QU x:=by
   rcases Int.le_total 0 (QU x) with h2 | h2
   ·exact Int.mul_nonneg h2 h2
   ·exact Int.mul_nonneg_of_nonpos_of_nonpos h2 h2
  have h3:0≤Int.fdiv (QU x*QU x) 65536:=by rw [Int.fdiv_eq_ediv_of_nonneg _ (by omega)];omega
  have h4:0≤(Zm x x).1:=QiV h3
  have h5:=QiV h
  have h6:=QiV h4
  exact QiV (by omega)
theorem QNV (a:List Int):0≤(Q2 a a).1:=by
 unfold Q2;split
 ·exact Qzb a 0 (by omega)
 ·show (0:Int)≤0;omega
theorem Qm3 (x:List Int) (n:Int):(!(QJ x)||((x.length:Int) != n)) = !(Qr x n):=by unfold Qr;simp [bne]
theorem QhK {o:TOp'} (h:Zd o=true) (h4:o.1=4):0<o.2.2.2.length:=by
 have:=Qeb h
 rw [if_neg (by omega),if_neg (by omega),if_pos h4] at this
 omega
theorem Qz1 {o:TOp'} {x:List Int} (h:¬ (Zd o=true∧Qr x o.2.1=true)):YB o x=([],false):=by unfold YB;rw [if_neg (by simpa using h)]
theorem QCH {o:TOp'} {x d:List Int} (h:¬ ((Zd o=true∧Qr x o.2.1=true)∧Qr d o.2.2.1=true)):Yk o x d=([],[],false):=by unfold Yk;rw [if_neg (by simpa using h)]
theorem QgO {o:TOp'} (h:Zd o=true):1≤o.1∧o.1≤5:=by simp only [Zd,Bool.and_eq_true,QP] at h;exact h.1.1.1.1.1
theorem QdR {α:Type} (v:List α):List.take (id v).length (List.drop 0 (id v))=v:=by simp
theorem QbX {α:Type} (v:List α):List.take (0+v.length) (List.drop 0 v)=v:=by simp
theorem QaA {α:Type} (v:List α):List.take v.length (List.drop 0 v)=v:=by simp
theorem Qkf {α:Type} {l:List α} {k:Nat} (h:l.length≤k):l.drop k=[]:=List.drop_eq_nil_of_le h
theorem QP3 (n:Nat) (x:Int):List.take n (List.drop 0 (List.replicate n x))=List.replicate n x:=by rw [List.drop_zero,List.take_of_length_le (by simp)]
theorem Jm {α:Type} [Sz α] {l:List α} {A:Int→List α→Prop} {Q:List α→Prop} (hs:sz l≤2147483648)
  (hA:∀ (k:Nat) (x:α) (v:List α),k<l.length→l.length≤2147483648→(∀ d,gtd d l k=x)→v.length=k→sz x≤2147483648→A ((k+1:Nat):Int) (v++[x])→A (k:Nat) v)
  (hE:Q l→A (l.length:Nat) l) (hq:Q l):A 0 []:=by
 have hl:=YW l
 refine Zj l (fun r k=>∀ v,v.length=k→v++r=l→A k v) ?_ ?_ [] rfl rfl
 ·intro v hv he
  rw [List.append_nil] at he
  subst he
  exact hE hq
 ·intro k x r hk hlt hg ih v hv he
  have hx:=QeM hk
  exact hA k x v hlt (by omega) hg hv (by omega) (ih _ (YS hv) (by rw [← he];simp))
theorem QoX {o:TOp'} (h:Zd o=true):o.2.2.2.length≤36:=by
 have h1:=Qeb h
 have h2:=Qbc h
 have h3:=QcN h2.1 h2.2.1 h2.2.2.1 h2.2.2.2
 split at h1
 ·omega
 ·split at h1
  ·omega
  ·split at h1 <;> omega
theorem Qgb {m:Zf} (h:QT m=true) {k:Nat} (hk:k<m.length):Zd (gtd dOp m k)=true:=by
 simp only [QT,Bool.and_eq_true] at h
 exact (QhI h.2 k _ (YZ hk dOp)).1
theorem Qiv {α:Type} (d:α) {v:List α} {k:Nat} (h:v.length=k+1):v.take k++[gtd d v k]=v:=by
 have h1:gtd d v k=v[k]'(by omega):=QbL (List.getElem?_eq_getElem (by omega)) d
 rw [h1,List.take_append_getElem (by omega),List.take_of_length_le (by omega)]
theorem QDH {α:Type} (d:α) {v:List α} {n:Nat} (y:α) (h:v.length=n):gtd d (v++[y]) n=y:=by
 refine QbL ?_ d
 rw [List.getElem?_append_right (by omega)];simp [h]
theorem QzV {α:Type} {v:List α} {n:Nat} (y:α) (h:v.length=n):(v++[y]).take n=v:=by
 rw [List.take_append_of_le_length (by omega),List.take_of_length_le (by omega)]
theorem Qzc {α:Type} (n:Nat) (e g:α) (l:List α):(List.replicate (n+1) e++l).set n g=List.replicate n e++g::l:=by
 rw [List.replicate_succ',List.append_assoc,List.set_append_right _ _ (by simp)]
 simp
theorem Qqq {m:Zf} {x:List Int} (h1:QT m=true) (h2:Qr x (Q6 m)=true):JA m x=QG m x:=by unfold JA;rw [if_pos (by rw [h1,h2];rfl)]
theorem QD0:∀ {ops:List TOp'} {rows:List (List Int)},rows.length=ops.length→(∀ o,o∈ops→Zd o=true)→Z1 ops rows=true→sz rows≤37*ops.length
 | [],[],_,_,_=>by simp
 | [],r::rs,h,_,_=>by simp at h
 | o::os,[],h,_,_=>by simp at h
 | o::os,r::rs,h,ho,hg=>by
  simp only [Z1,Bool.and_eq_true,beq_iff_eq] at hg
  have h1:=QoX (ho o List.mem_cons_self)
  have h2:=QD0 (by simpa using h) (fun p hp=>ho p (List.mem_cons_of_mem _ hp)) hg.2
  have h3:=ZN r
  rw [JD,List.length_cons];omega
theorem Qoi {m:Zf} (h:QT m=true):∀ o,o∈m→Zd o=true:=by
 intro o ho
 obtain ⟨i,hi⟩:=List.getElem?_of_mem ho
 simp only [QT,Bool.and_eq_true] at h
 exact (QhI h.2 i o hi).1
theorem QS6 {m:Zf} (h:QT m=true):(Yx m).1.length=m.length∧Z1 m (Yx m).1=true:=by
 unfold Yx
 rw [if_pos h]
 simp only [List.length_map,true_and]
 clear h
 induction m with
 | nil=>rfl
 | cons o l ih=>simp [Z1,ih]
theorem Qlr {m:Zf} (h:QT m=true) {a:Q1} (h1:a.1.length=m.length∧Z1 m a.1=true):sz a≤296:=by
 have:=QD0 h1.1 (Qoi h) h1.2
 have:=Ym h
 simp only [ZO,ZF,J0];omega
end Go.Proofs.YtjbdljkhbglnhaaGreat.Am

