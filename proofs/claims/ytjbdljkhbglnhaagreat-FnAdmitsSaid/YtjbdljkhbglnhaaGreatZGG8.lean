/- -/
import Derived.Test.YtjbdljkhbglnhaaGreatZGG7
set_option linter.all false
namespace Go.Proofs.YtjbdljkhbglnhaaGreat.Am
open Go Sz
def tm (ds n M s:Int) (i:TIns):Int :=
 let F:=s+2*i.2
 let B:=(if ds=2 then 2*n-1 else 2*n-1+2*M)-s+2*i.2
 if i.1=1 then 8*F else if i.1=2 then 8*F+1 else if i.1=3 then 8*F+2
 else if i.1=4 then 8*B else if i.1=5 then 8*B+1 else if i.1=6 then 8*B+2 else if i.1=7 then 8*B+3 else 1000000
def rcOf (f:Nat) (k1:Int):Nat:=if k1=1 then f+1 else f
def scOf (f:Nat) (k1:Int):Nat:=if k1=2 then f-1 else f
def rgOf (n s:Int) (g:Nat) (k1:Int):Nat:=if k1=4∨(k1=5∧s<n-1) then g+1 else g
def sgQ (g:Nat) (k1:Int):Nat:=if k1=6 then g-1 else g
def Qf3 (ds n M s:Int) (rd:Bool) (f g:Nat) (k1:Int) (i:TIns) (last:Bool):Bool :=
 decide (g≤f∧(f:Int)≤M∧1≤i.1∧i.1≤8∧0≤i.2∧i.2<M∧(i.1=8↔last=true)∧i≠(0,0)) &&
 decide (i.1=1→0<s∧i.2=f∧k1≠1) &&
 decide (i.1=2→i.2=f∧(0<s→k1=1)) &&
 decide (i.1=3→s<n-1∧i.2=(f:Int)-1∧k1=2) &&
 decide (i.1=4→s<n-1∧i.2=g) &&
 decide (i.1=5→rd=true∧i.2=g∧g<f∧(s<n-1→k1=4)) &&
 decide (i.1=6→i.2=g∧g<f∧(rd=true→k1=5)∧(rd=false→s<n-1→k1=4)) &&
 decide (i.1=7→0<s∧i.2=(g:Int)-1∧k1=6) &&
 decide (i.1=8→(f:Int)=M∧(g:Int)=M∧k1≠0) &&
 decide (k1=1→i.1=2)&&decide (k1=2→s<n-1→i.1=3)&&decide (k1=4→i.1=5∨i.1=6)&&decide (k1=5→i.1=6)&&decide (k1=6→0<s→i.1=7) &&
 decide (k1=5→rd=true)&&decide (k1=6→1≤g)&&decide (k1=2→1≤f)&&decide (k1≠8)&&decide (k1=4→s<n-1)&&decide (k1=1→0<s) &&
 decide (k1=4∨k1=5→g<f)&&decide (k1=1→(f:Int)<M) &&
 decide (s<n-1→(scOf f k1:Int)<M→tm ds n M s i≤tm ds n M s (3,(scOf f k1:Int))) &&
 decide (0<s→(rcOf f k1:Int)<M→tm ds n M s i≤tm ds n M s (1,(rcOf f k1:Int))) &&
 decide (s<n-1→(rgOf n s g k1:Int)<M→tm ds n M s i≤tm ds n M s (4,(rgOf n s g k1:Int))) &&
 decide (0<s→(sgQ g k1:Int)<M→tm ds n M s i≤tm ds n M s (7,(sgQ g k1:Int))) &&
 decide (ds=2→(f:Int)-g≤n-s)&&decide (ds=2→i.1=2→(f:Int)-g<n-s)
def Qmt (M:Int) (f g:Nat) (k1:Int):Bool:=decide ((f:Int)=M∧(g:Int)=M∧k1=8)
def kf (i:TIns):Nat:=if i.1=2 then 1 else 0
def kg (i:TIns):Nat:=if i.1=6 then 1 else 0
def QcN (ds n M s:Int) (rd:Bool):List TIns→Nat→Nat→Int→Bool
 | [],f,g,k1=>Qmt M f g k1
 | i::r,f,g,k1=>Qf3 ds n M s rd f g k1 i r.isEmpty&&QcN ds n M s rd r (f+kf i) (g+kg i) i.1
def Qvp:Bool:=[1,2].all fun ds:Int=>[1,2,3,4].all fun n:Int=>[0,1,2,3].all fun s:Int=>[1,2,3,4,5].all fun M:Int=>[true,false].all fun rd =>
 !(decide (s<n))||QcN ds n M s rd (Ye ds n s M rd) 0 0 0
set_option maxRecDepth 100000 in
theorem QCe:Qvp=true:=by kernel_rfl
theorem QIW {ds n s M:Int} (rd:Bool) (h1:1≤ds) (h2:ds≤2) (h3:n≤4) (h4:0≤s) (h5:s<n) (h6:1≤M) (h7:M≤5):QcN ds n M s rd (Ye ds n s M rd) 0 0 0=true:=by
 have h:=QCe
 unfold Qvp at h
 rw [List.all_eq_true] at h
 have h:=h ds (by have:ds=1∨ds=2:=(by omega);rcases this with rfl | rfl <;> simp)
 rw [List.all_eq_true] at h
 have h:=h n (by have:n=1∨n=2∨n=3∨n=4:=(by omega);rcases this with rfl | rfl | rfl | rfl <;> simp)
 rw [List.all_eq_true] at h
 have h:=h s (by have:s=0∨s=1∨s=2∨s=3:=(by omega);rcases this with rfl | rfl | rfl | rfl <;> simp)
 rw [List.all_eq_true] at h
 have h:=h M (by have:M=1∨M=2∨M=3∨M=4∨M=5:=(by omega);rcases this with rfl | rfl | rfl | rfl | rfl <;> simp)
 rw [List.all_eq_true] at h
 have h:=h rd (by cases rd <;> simp)
 simpa [h5] using h
def cf (l:List TIns):Nat:=(l.map kf).sum
def cg (l:List TIns):Nat:=(l.map kg).sum
def Y9 (l:List TIns) (k:Nat):Int:=if k=0 then 0 else (gtd dIns l (k-1)).1
theorem Qka {ds n M s:Int} {rd:Bool}:∀ (l:List TIns) (f g:Nat) (k1:Int),QcN ds n M s rd l f g k1=true→∀ k,k≤l.length →
  (∀ i,l[k]? = some i→Qf3 ds n M s rd (f+cf (l.take k)) (g+cg (l.take k)) (if k=0 then k1 else Y9 l k) i (decide (k+1=l.length))=true) ∧
  (k=l.length→Qmt M (f+cf (l.take k)) (g+cg (l.take k)) (if k=0 then k1 else Y9 l k)=true)
 | [],f,g,k1,h,k,hk=>by
  have:k=0:=by simpa using hk
  subst this
  simp only [QcN] at h
  exact ⟨fun i hi=>by simp at hi,fun _=>by simpa [cf,cg] using h⟩
 | i::r,f,g,k1,h,k,hk=>by
  simp only [QcN,Bool.and_eq_true] at h
  cases k with
  | zero =>
   refine ⟨fun j hj=>?_,fun h0=>by simp at h0⟩
   simp at hj
   subst hj
   have:r.isEmpty=decide (0+1=(i::r).length):=by cases r <;> simp
   rw [← this]
   simpa [cf,cg] using h.1
  | succ k =>
   have ih:=Qka r (f+kf i) (g+kg i) i.1 h.2 k (by simpa using hk)
   have e1:f+cf ((i::r).take (k+1))=f+kf i+cf (r.take k):=by simp [cf];omega
   have e2:g+cg ((i::r).take (k+1))=g+kg i+cg (r.take k):=by simp [cg];omega
   have e3:(if k=0 then i.1 else Y9 r k)=Y9 (i::r) (k+1):=by
    unfold Y9
    cases k with
    | zero=>simp [gtd]
    | succ k=>simp [gtd]
   rw [e1,e2,if_neg (by omega),← e3]
   refine ⟨fun j hj=>?_,fun h0=>ih.2 (by simpa using h0)⟩
   have:=ih.1 j (by simpa using hj)
   rw [show decide (k+1+1=(i::r).length)=decide (k+1=r.length) by simp]
   exact this
end Go.Proofs.YtjbdljkhbglnhaaGreat.Am
namespace Go.Proofs.YtjbdljkhbglnhaaGreat.Am
open Go Sz
theorem QbS (x:Int):-2147483647≤Zg x∧Zg x≤2147483647:=by unfold Zg iMin iMax;split <;> split <;> omega
theorem QjH {x:Int}:Zc x=true↔-2147483647≤x∧x≤2147483647:=by simp [Zc]
theorem QJf (x:Int):Zc (Zg x)=true:=QjH.2 (QbS x)
theorem QyQ {x:Int} (h:Zc x=true):Zg x=x:=by
 have:=QjH.1 h
 unfold Zg iMin iMax;split <;> split <;> omega
theorem Qkr (x:Int):Zc (JL x).1=true:=QJf x
theorem QkB (a b:Int):Zc (Zn a b).1=true:=Qkr _
theorem QGq (a b:Int):Zc (Qby a b).1=true:=Qkr _
theorem QOt (a b:Int):Zc (Z0 a b).1=true:=Qkr _
theorem QJZ (a:Int):Zc (QcW a)=true:=by
 have:=QbS a
 rw [QjH];unfold QcW iMax;split <;> omega
theorem QCG {a:Int} (h:Zc a=true):Zn a 0=(a,false):=by
 have e:Zg 0=0:=rfl
 unfold Zn JL
 rw [e,Int.add_zero,QyQ h,QyQ h,h];rfl
theorem Qyi {x:Int} {l:List Int}:Zs (x::l)=(Zc x&&Zs l):=rfl
theorem YF {v:List Int}:QW v=true↔(1≤v.length∧v.length≤6)∧Zs v=true:=by
 simp only [QW,Bool.and_eq_true,QL]
 constructor
 ·rintro ⟨h1,h2⟩;exact ⟨by omega,h2⟩
 ·rintro ⟨h1,h2⟩;exact ⟨by omega,h2⟩
theorem YQ {v:List Int} {n:Int}:Qq v n=true↔QW v=true∧(v.length:Int)=n:=by simp [Qq]
theorem Qnn (f:Int→Int→Int × Bool):∀ a b:List Int,(vz f a b).1.length=min a.length b.length
 | [],b=>by simp [vz]
 | a::aa,[]=>by simp [vz]
 | a::aa,b::bb=>by simp [vz,Qnn f aa bb]
theorem Qtx {f:Int→Int→Int × Bool} (hf:∀ a b,Zc (f a b).1=true):∀ a b:List Int,Zs (vz f a b).1=true
 | [],b=>by simp [vz,Zs]
 | a::aa,[]=>by simp [vz,Zs]
 | a::aa,b::bb=>by simp only [vz,Qyi,hf,Qtx hf aa bb,Bool.and_self]
theorem Qoo (f:Int→Int × Bool):∀ a:List Int,(v1 f a).1.length=a.length
 | []=>rfl
 | a::aa=>by simp [v1,Qoo f aa]
theorem QqM {f:Int→Int × Bool} (hf:∀ a,Zc (f a).1=true):∀ a:List Int,Zs (v1 f a).1=true
 | []=>rfl
 | a::aa=>by simp only [v1,Qyi,hf,QqM hf aa,Bool.and_self]
theorem Qn0:∀ (a b:List Int) (z:Int),Zc z=true→Zc (Qaf a b z).1=true
 | [],b,z,h=>by simpa [Qaf] using h
 | a::aa,[],z,h=>by simpa [Qaf] using h
 | a::aa,b::bb,z,h=>by rw [Qaf];exact Qn0 aa bb _ (QkB _ _)
theorem Qx4 (a b:List Int):Zc (ZF a b).1=true:=by
 unfold ZF;split
 ·exact Qn0 _ _ _ rfl
 ·rfl
theorem Qa7 {a b:List Int}:Yb a b=true↔QW a=true∧QW b=true∧b.length=a.length:=by
 unfold Yb;rw [Bool.and_eq_true,YQ]
 constructor <;> (intro h;exact ⟨h.1,h.2.1,by omega⟩)
theorem Qrb {f:Int→Int→Int × Bool} (hf:∀ a b,Zc (f a b).1=true) {a b:List Int} (h:Yb a b=true):Qq (vz f a b).1 a.length=true:=by
 obtain ⟨h1,h2,h3⟩:=Qa7.1 h
 have:=(YF.1 h1).1
 have hl:=Qnn f a b
 exact YQ.2 ⟨YF.2 ⟨by omega,Qtx hf a b⟩,by omega⟩
theorem Qj2 {a b:List Int} (h:Yb a b=true):Qq (ZW a b).1 a.length=true:=by unfold ZW;rw [if_pos h];exact Qrb QkB h
theorem QCK {a b:List Int} (h:Yb a b=true):Qq (Zu a b).1 a.length=true:=by unfold Zu;rw [if_pos h];exact Qrb QGq h
theorem Qjc {a b:List Int} {n:Int} (h1:Qq a n=true) (h2:Qq b n=true):Yb a b=true:=by
 obtain ⟨h3,h4⟩:=YQ.1 h1
 obtain ⟨h5,h6⟩:=YQ.1 h2
 exact Qa7.2 ⟨h3,h5,by omega⟩
theorem Qpz {c:Int} {a:List Int} (hc:Zc c=true) (h:QW a=true):Qq (Yx c a).1 a.length=true:=by
 unfold Yx
 rw [hc,h,Bool.and_self,if_pos rfl]
 have:=(YF.1 h).1
 have hl:=Qoo (Z0 c) a
 exact YQ.2 ⟨YF.2 ⟨by omega,QqM (QOt c) a⟩,by omega⟩
theorem QMO {α:Type} {f:α→Int} (hf:∀ a,Zc (f a)=true) (l:List α):Zs (l.map f)=true:=by
 unfold Zs;rw [List.all_eq_true];intro x hx
 obtain ⟨a,_,rfl⟩:=List.mem_map.1 hx
 exact hf a
theorem Qnh {α:Type} {f:α→Int} (hf:∀ a,Zc (f a)=true) {l:List α} (h1:1≤l.length) (h2:l.length≤6):Qq (l.map f) l.length=true :=
 YQ.2 ⟨YF.2 ⟨by simp;omega,QMO hf l⟩,by simp⟩
theorem QFL {a:List Int} (h:QW a=true):Qq (Jo a) a.length=true:=by
 unfold Jo;rw [if_pos h]
 have:=(YF.1 h).1
 exact Qnh QJZ (by omega) (by omega)
theorem Qso {m:TMat} {x:List Int} (h:(ZN m&&Qq x m.2.1)=true):Qq (ZK m x).1 m.1=true:=by
 unfold ZK;rw [if_pos h]
 have h1:1≤m.1∧m.1≤6:=by simp only [ZN,Bool.and_eq_true,QL] at h;omega
 have:=Qnh (f:=fun i:Nat=>(ZF (QaA m i) x).1) (fun i=>Qx4 _ _) (l:=List.range m.1.toNat) (by simp;omega) (by simp;omega)
 rw [List.length_range,show ((m.1.toNat:Nat):Int)=m.1 by omega] at this
 exact this
theorem Qp9 {m:TMat} {x:List Int} (h:(ZN m&&Qq x m.1)=true):Qq (Z6 m x).1 m.2.1=true:=by
 unfold Z6;rw [if_pos h]
 have h1:1≤m.2.1∧m.2.1≤6:=by simp only [ZN,Bool.and_eq_true,QL] at h;omega
 have:=Qnh (f:=fun i:Nat=>(ZF (Jf m i) x).1) (fun i=>Qx4 _ _) (l:=List.range m.2.1.toNat) (by simp;omega) (by simp;omega)
 rw [List.length_range,show ((m.2.1.toNat:Nat):Int)=m.2.1 by omega] at this
 exact this
theorem QJR {x d:List Int} (h:Yb x d=true):Qq (Jl x d) x.length=true:=by
 unfold Jl;rw [if_pos h]
 obtain ⟨h1,h2,h3⟩:=Qa7.1 h
 have hl:=(YF.1 h1).1
 have hf:=(YF.1 h2).2
 refine YQ.2 ⟨YF.2 ⟨by simp;omega,?_⟩,by simp;omega⟩
 unfold Zs at hf ⊢
 rw [List.all_eq_true] at hf ⊢
 intro y hy
 rw [List.mem_iff_getElem?] at hy
 obtain ⟨i,hi⟩:=hy
 rw [List.getElem?_zipWith] at hi
 split at hi
 ·rename_i a b ha hb
  cases hi
  split
  ·exact hf b (List.mem_of_getElem? hb)
  ·rfl
 ·cases hi
theorem QuU {d x:List Int} (hd:QW d=true) (hx:QW x=true):(ZT d x).1.2.2.length=d.length*x.length:=by
 unfold ZT;rw [hd,hx,Bool.and_self,if_pos rfl]
 simp only
 generalize d=l
 clear hd
 induction l with
 | nil=>simp
 | cons a l ih=>rw [List.flatMap_cons,List.length_append,ih];simp [Nat.add_mul];omega
theorem QdE {o:TOp'} (h:Ze o=true):(o.2.2.2.length:Int)=(if o.1=1∨o.1=5 then o.2.1*o.2.2.1 else if o.1=2 then o.2.1 else if o.1=4 then 1 else 0):=by
 have h1:=QaO h
 simp only [Ze,Bool.and_eq_true,beq_iff_eq] at h
 rw [h.1.2]
 unfold Z3
 rw [show m_in o.2.1 1 6=true from QL.2 ⟨h1.1,h1.2.1⟩,show m_in o.2.2.1 1 6=true from QL.2 ⟨h1.2.2.1,h1.2.2.2⟩]
 rfl
theorem QiE {o:TOp'} (h:Ze o=true):Zs o.2.2.2=true:=by simp only [Ze,Bool.and_eq_true] at h;exact h.2
theorem opEq {o:TOp'} (h:Ze o=true) (h1:o.1≠1):o.2.1=o.2.2.1:=by
 simp only [Ze,Bool.and_eq_true,Bool.or_eq_true,beq_iff_eq] at h
 rcases h.1.1.2 with h | h
 ·exact absurd h h1
 ·exact h
theorem Qid {o:TOp'} (h:Ze o=true) (h1:o.1=1∨o.1=5):ZN (Zp o)=true:=by
 have h2:=QaO h
 have h3:=QdE h
 rw [if_pos h1] at h3
 simp only [ZN,Zp,Bool.and_eq_true,QL,beq_iff_eq]
 refine ⟨⟨⟨⟨by omega,by omega⟩,by omega,by omega⟩,?_⟩,QiE h⟩
 rw [h3,Int.mul_comm]
theorem Qmg {o:TOp'} {x:List Int} (ho:Ze o=true) (hx:Qq x o.2.1=true):Qq (Y3 o x).1 o.2.2.1=true:=by
 have hx':=YQ.1 hx
 unfold Y3
 rw [ho,hx,Bool.and_self,if_pos rfl]
 split
 ·rename_i h1
  exact Qso (m:=Zp o) (by rw [Qid ho (.inl h1)];simpa [Zp] using hx)
 ·rename_i h1
  have he:=opEq ho h1
  rw [← he]
  split
  ·rename_i h2
   have h3:=QdE ho
   rw [if_neg (by omega),if_pos h2] at h3
   have h4:=QaO ho
   have hp:Yb x o.2.2.2=true:=Qa7.2 ⟨hx'.1,YF.2 ⟨by omega,QiE ho⟩,by omega⟩
   rw [← hx'.2]
   exact Qj2 hp
  ·split
   ·rename_i h2 h3
    have h4:=QdE ho
    rw [if_neg (by omega),if_neg h2,if_pos h3] at h4
    have hf:Zc (gtd 0 o.2.2.2 0)=true:=by
     have:=QiE ho
     unfold Zs at this
     exact List.all_eq_true.1 this _ (Jt (by omega) 0)
    rw [← hx'.2]
    exact Qpz hf hx'.1
   ·split
    ·rename_i h5
     have hm:=Qid ho (.inr h5)
     have hy:Qq (ZK (Zp o) x).1 o.2.2.1=true:=Qso (m:=Zp o) (by rw [hm];simpa [Zp] using hx)
     rw [← he] at hy
     have:=Qj2 (Qjc hx hy)
     rwa [hx'.2] at this
    ·have:=QFL hx'.1
     rwa [hx'.2] at this
theorem QAO {o:TOp'} {x d:List Int} (ho:Ze o=true) (hx:Qq x o.2.1=true) (hd:Qq d o.2.2.1=true) :
  Qq (YV o x d).1 o.2.1=true∧(YV o x d).2.1.length=o.2.2.2.length:=by
 have hx':=YQ.1 hx
 have hd':=YQ.1 hd
 have hs:=QdE ho
 unfold YV
 rw [ho,hx,hd,Bool.and_self,Bool.and_self,if_pos rfl]
 split
 ·rename_i h1
  rw [if_pos (.inl h1)] at hs
  refine ⟨Qp9 (m:=Zp o) (by rw [Qid ho (.inl h1)];simpa [Zp] using hd),?_⟩
  have:=QuU hd'.1 hx'.1
  show (ZT d x).1.2.2.length=_
  rw [this]
  have:((d.length*x.length:Nat):Int)=o.2.1*o.2.2.1:=by rw [Int.natCast_mul,hd'.2,hx'.2,Int.mul_comm]
  omega
 ·rename_i h1
  have he:=opEq ho h1
  split
  ·rename_i h2
   rw [if_neg (by omega),if_pos h2] at hs
   refine ⟨by rw [he];exact hd,?_⟩
   show d.length=_
   omega
  ·split
   ·rename_i h2 h3
    rw [if_neg (by omega),if_neg h2,if_pos h3] at hs
    have hf:Zc (gtd 0 o.2.2.2 0)=true:=by
     have:=QiE ho
     unfold Zs at this
     exact List.all_eq_true.1 this _ (Jt (by omega) 0)
    refine ⟨?_,?_⟩
    ·have:=Qpz hf hd'.1
     rw [hd'.2,← he] at this
     exact this
    ·show [(ZF d x).1].length=_
     simp;omega
   ·split
    ·rename_i h2 h3 h5
     rw [if_pos (.inr h5)] at hs
     have hm:=Qid ho (.inr h5)
     have hy:Qq (Z6 (Zp o) d).1 o.2.1=true:=Qp9 (m:=Zp o) (by rw [hm];simpa [Zp] using hd)
     refine ⟨?_,?_⟩
     ·rw [he] at hy
      have:=Qj2 (Qjc hd hy)
      rw [hd'.2,← he] at this
      exact this
     ·have:=QuU hd'.1 hx'.1
      show (ZT d x).1.2.2.length=_
      rw [this]
      have:((d.length*x.length:Nat):Int)=o.2.1*o.2.2.1:=by rw [Int.natCast_mul,hd'.2,hx'.2,Int.mul_comm]
      omega
    ·rename_i h2 h3 h5
     rw [if_neg (by omega),if_neg h2,if_neg h3] at hs
     have hp:Yb x d=true:=Qa7.2 ⟨hx'.1,hd'.1,by omega⟩
     refine ⟨?_,by simp;omega⟩
     have:=QJR hp
     rw [hx'.2] at this
     exact this
theorem Qdv:∀ (ops:List TOp') (x:List Int),(Qw ops x).1.length=ops.length+1
 | [],x=>rfl
 | o::r,x=>by simp [Qw,Qdv r]
def ZO (ops:List TOp') (x:List Int):List Int:=gtd [] (Qw ops x).1 ops.length
theorem QfS (x:List Int):ZO [] x=x:=rfl
theorem Qfg (o:TOp') (r:List TOp') (x:List Int):ZO (o::r) x=ZO r (Y3 o x).1:=by
 unfold ZO;rw [Qw];simp [gtd]
theorem Qjq:∀ (a b:List TOp') (x:List Int),Qw (a++b) x=((Qw a x).1.take a.length++(Qw b (ZO a x)).1,(Qw a x).2||(Qw b (ZO a x)).2)
 | [],b,x=>by simp [Qw,QfS]
 | o::a,b,x=>by
  rw [List.cons_append,Qw,Qjq a b,Qfg,Qw]
  simp [Bool.or_assoc]
theorem QGZ (a b:List TOp') (x:List Int):ZO (a++b) x=ZO b (ZO a x):=by
 induction a generalizing x with
 | nil=>rfl
 | cons o a ih=>rw [List.cons_append,Qfg,Qfg,ih]
theorem QCz (ops:List TOp') (x:List Int):gtd [] (Qw ops x).1 0=x:=by cases ops <;> simp [Qw,gtd]
theorem QCw (ops:List TOp') (x:List Int):(Qw ops x).1.take ops.length++[ZO ops x]=(Qw ops x).1:=by
 unfold ZO
 have hl:=Qdv ops x
 have:gtd [] (Qw ops x).1 ops.length=(Qw ops x).1[ops.length]'(by omega):=Qa5 (List.getElem?_eq_getElem (by omega)) []
 rw [this,List.take_append_getElem (by omega),List.take_of_length_le (by omega)]
theorem QjO:∀ (ops:List TOp') (rows:List (List Int)) (d:List Int),ops.length≤rows.length→(QN ops rows d).1.length=ops.length
 | [],rows,d,_=>by simp [QN]
 | o::os,[],d,h=>by simp at h
 | o::os,r::rs,d,h=>by simp [QN,QjO os rs d (by simpa using h)]
theorem Qi6:∀ (a b:List TOp') (ra rb:List (List Int)) (d:List Int),ra.length=a.length →
  QN (a++b) (ra++rb) d=((QN a ra (QN b rb d).2.1).1++(QN b rb d).1,(QN a ra (QN b rb d).2.1).2.1,(QN a ra (QN b rb d).2.1).2.2||(QN b rb d).2.2)
 | [],b,ra,rb,d,h=>by
  have:ra=[]:=List.eq_nil_of_length_eq_zero (by simpa using h)
  subst this
  simp [QN]
 | o::a,b,[],rb,d,h=>by simp at h
 | o::a,b,r::ra,rb,d,h=>by
  rw [List.cons_append,List.cons_append,QN,Qi6 a b ra rb d (by simpa using h),QN]
  simp [Bool.or_assoc]
theorem QKR:∀ (ops:List TOp') (rows more:List (List Int)) (d:List Int),rows.length=ops.length→QN ops (rows++more) d=QN ops rows d:=by
 intro ops rows more d h
 have:=Qi6 ops [] rows more d h
 rw [List.append_nil] at this
 rw [this]
 simp [QN]
end Go.Proofs.YtjbdljkhbglnhaaGreat.Am
namespace Go.Proofs.YtjbdljkhbglnhaaGreat.Am
open Go Sz
def Z5:Int→List TOp'→Int→Prop
 | i,[],o=>i=o
 | i,a::r,o=>Ze a=true∧a.2.1=i∧Z5 a.2.2.1 r o
theorem Z5.append:∀ {a b:List TOp'} {i o:Int},Z5 i (a++b) o↔∃ k,Z5 i a k∧Z5 k b o
 | [],b,i,o=>by simp [Z5]
 | x::a,b,i,o=>by
  rw [List.cons_append,Z5,Z5.append]
  constructor
  ·rintro ⟨h1,h2,k,h3,h4⟩;exact ⟨k,⟨h1,h2,h3⟩,h4⟩
  ·rintro ⟨k,⟨h1,h2,h3⟩,h4⟩;exact ⟨h1,h2,k,h3,h4⟩
theorem Qy9:∀ {l:List TOp'} {p:Option Int},Ym p l=true→∃ i o,Z5 i l o∧(∀ q,p=some q→l≠[]→q=i)
 | [],p,h=>⟨0,0,rfl,fun q _ h=>absurd rfl h⟩
 | a::r,p,h=>by
  simp only [Ym,Bool.and_eq_true] at h
  obtain ⟨i,o,h1,h2⟩:=Qy9 h.2
  have hp:∀ q,p=some q→a::r≠[]→q=a.2.1:=fun q hq _=>by
   have:=h.1.2
   rw [hq] at this
   simpa using this
  cases r with
  | nil=>exact ⟨a.2.1,a.2.2.1,⟨h.1.1,rfl,rfl⟩,hp⟩
  | cons b r =>
   have:=h2 _ rfl (by simp)
   rw [← this] at h1
   exact ⟨a.2.1,o,⟨h.1.1,rfl,h1⟩,hp⟩
theorem Qv0:∀ {l:List TOp'} {i o:Int} {p:Option Int},Z5 i l o→(∀ q,p=some q→q=i)→Ym p l=true
 | [],i,o,p,h,hp=>rfl
 | a::r,i,o,p,h,hp=>by
  obtain ⟨h1,h2,h3⟩:=h
  simp only [Ym,Bool.and_eq_true]
  refine ⟨⟨h1,?_⟩,Qv0 h3 (fun q hq=>by cases hq;rfl)⟩
  cases p with
  | none=>rfl
  | some q=>simp [hp q rfl,h2]
theorem Z5.out_eq:∀ {l:List TOp'} {i o:Int},Z5 i l o→l≠[]→(gtd dOp l (l.length-1)).2.2.1=o
 | [],i,o,h,hn=>absurd rfl hn
 | [a],i,o,h,hn=>h.2.2
 | a::b::r,i,o,h,hn=>by
  have:=Z5.out_eq h.2.2 (by simp)
  simpa [gtd] using this
theorem Qgh {l:List TOp'} {i o:Int} (h:Z5 i l o) (h1:1≤l.length) (h2:l.length≤8):QE l=true∧QX l=i∧Q1 l=o:=by
 have hm:QE l=true:=by
  simp only [QE,Bool.and_eq_true,QL]
  exact ⟨by omega,Qv0 h (by simp)⟩
 refine ⟨hm,?_,?_⟩
 ·unfold QX;rw [if_pos hm]
  cases l with
  | nil=>simp at h1
  | cons a r=>exact h.2.1
 ·unfold Q1;rw [if_pos hm]
  exact h.out_eq (by intro e;rw [e] at h1;simp at h1)
theorem QGp {l:List TOp'} (h:QE l=true):1≤l.length∧l.length≤8∧Z5 (QX l) l (Q1 l):=by
 have hl:=YM h
 refine ⟨hl.1,hl.2,?_⟩
 have h':=h
 simp only [QE,Bool.and_eq_true] at h'
 obtain ⟨i,o,h1,_⟩:=Qy9 h'.2
 have:=Qgh h1 hl.1 hl.2
 rw [this.2.1,this.2.2]
 exact h1
theorem QsM:∀ {l:List TOp'} {i o:Int} {x:List Int},Z5 i l o→Qq x i=true→Qq (ZO l x) o=true
 | [],i,o,x,h,hx=>by rw [QfS,← show i=o from h];exact hx
 | a::r,i,o,x,h,hx=>by
  obtain ⟨h1,h2,h3⟩:=h
  rw [Qfg]
  exact QsM h3 (Qmg h1 (by rw [h2];exact hx))
theorem Qku:∀ {l:List TOp'} {i o:Int} {x d:List Int},Z5 i l o→Qq x i=true→Qq d o=true →
  Qq (QN l (Qw l x).1 d).2.1 i=true∧ZQ l (QN l (Qw l x).1 d).1=true
 | [],i,o,x,d,h,hx,hd=>by
  refine ⟨?_,rfl⟩
  show Qq d i=true
  rw [show i=o from h];exact hd
 | a::r,i,o,x,d,h,hx,hd=>by
  obtain ⟨h1,h2,h3⟩:=h
  rw [Qw]
  have hx':Qq x a.2.1=true:=by rw [h2];exact hx
  have ih:=Qku h3 (Qmg h1 hx') hd
  have:=QAO h1 hx' ih.1
  rw [QN]
  refine ⟨by rw [← h2];exact this.1,?_⟩
  simp only [ZQ,Bool.and_eq_true,beq_iff_eq]
  exact ⟨this.2,ih.2⟩
theorem QyK (all:List TOp') {o:Int}:∀ {l:List TOp'} {i:Int} {x:List Int} {k:Nat},Z5 i l o→all.drop k=l→k≤all.length→(l=[]→Jd all k=i)→Qq x i=true→YB all k (Qw l x).1=true
 | [],i,x,k,h,hk,hle,hs,hx=>by
  simp only [Qw,YB,Bool.and_true]
  rw [hs rfl];exact hx
 | a::r,i,x,k,h,hk,hle,hs,hx=>by
  obtain ⟨h1,h2,h3⟩:=h
  have hlt:=Qe6 hk
  have hx':Qq x a.2.1=true:=by rw [h2];exact hx
  simp only [Qw,YB,Bool.and_eq_true]
  refine ⟨?_,QyK all h3 (YL hk) hlt (fun hr=>?_) (Qmg h1 hx')⟩
  ·unfold Jd;rw [if_pos hlt,Y1 hk];exact hx'
  ·have:all.length=k+1:=by have:=Qza hk;rw [hr] at this;simp at this;omega
   unfold Jd
   rw [if_neg (by omega),show all.length-1=k by omega,Y1 hk]
theorem QIp {l:List TOp'} {i o:Int} {x:List Int} (h:Z5 i l o) (hl:l≠[]) (hx:Qq x i=true):YB l 0 (Qw l x).1=true :=
 QyK l h (by simp) (by simp) (fun h0=>absurd h0 hl) hx
theorem Qet:∀ (ops:List TOp') (rows:List (List Int)) (k n:Nat),YB ops k rows=true→YB ops k (rows.take n)=true
 | ops,[],k,n,h=>by simp [YB]
 | ops,r::rs,k,0,h=>by simp [YB]
 | ops,r::rs,k,n+1,h=>by
  simp only [YB,List.take_succ_cons,Bool.and_eq_true] at h ⊢
  exact ⟨h.1,Qet ops rs (k+1) n h.2⟩
theorem QDx (a b:List TOp') (x d:List Int) :
  QN (a++b) (Qw (a++b) x).1 d =
   ((QN a (Qw a x).1 (QN b (Qw b (ZO a x)).1 d).2.1).1++(QN b (Qw b (ZO a x)).1 d).1,
    (QN a (Qw a x).1 (QN b (Qw b (ZO a x)).1 d).2.1).2.1,
    (QN a (Qw a x).1 (QN b (Qw b (ZO a x)).1 d).2.1).2.2||(QN b (Qw b (ZO a x)).1 d).2.2):=by
 have hl:=Qdv a x
 have ht:((Qw a x).1.take a.length).length=a.length:=by simp;omega
 rw [Qjq]
 simp only
 rw [Qi6 a b _ _ d ht]
 have e:∀ d',QN a ((Qw a x).1.take a.length) d'=QN a (Qw a x).1 d':=fun d'=>by
  rw [← QKR a _ [ZO a x] d' ht,QCw]
 rw [e]
theorem QyZ:∀ (a b c d:List (List Int)),a.length=c.length→Zk (a++b) (c++d)=((Zk a c).1++(Zk b d).1,(Zk a c).2||(Zk b d).2)
 | [],b,c,d,h=>by
  have:c=[]:=List.eq_nil_of_length_eq_zero (by simpa using h.symm)
  subst this
  simp [Zk]
 | x::a,b,[],d,h=>by simp at h
 | x::a,b,y::c,d,h=>by
  rw [List.cons_append,List.cons_append,Zk,QyZ a b c d (by simpa using h),Zk]
  simp [Bool.or_assoc]
theorem Qo0:∀ (a b:List (List Int)),(Zk a b).1.length=min a.length b.length
 | [],b=>by simp [Zk]
 | x::a,[]=>by simp [Zk]
 | x::a,y::b=>by simp [Zk,Qo0 a b]
theorem Qpd:∀ {ops:List TOp'} {a b:List (List Int)},a.length=ops.length→b.length=ops.length→ZQ ops a=true→ZQ ops b=true→ZQ ops (Zk a b).1=true
 | [],a,b,h1,h2,h3,h4=>by
  have:a=[]:=List.eq_nil_of_length_eq_zero (by simpa using h1)
  subst this
  simp [Zk,ZQ]
 | o::ops,[],b,h1,h2,h3,h4=>by simp at h1
 | o::ops,x::a,[],h1,h2,h3,h4=>by simp at h2
 | o::ops,x::a,y::b,h1,h2,h3,h4=>by
  simp only [ZQ,Bool.and_eq_true,beq_iff_eq] at h3 h4
  simp only [Zk,ZQ,Bool.and_eq_true,beq_iff_eq]
  refine ⟨?_,Qpd (by simpa using h1) (by simpa using h2) h3.2 h4.2⟩
  rw [Qnn];omega
end Go.Proofs.YtjbdljkhbglnhaaGreat.Am
namespace Go.Proofs.YtjbdljkhbglnhaaGreat.Am
open Go Sz
def QJ {α:Type} [Sz α] (x:α):Prop:=sz x≤2147483648
def JS {α β:Type} [Sz α] [Sz β] (x:α) (y:β):Prop:=sz x+sz y≤2147483648
def p_st (st s m:Int):Prop:=-1000≤st∧st≤1000
def Qky (st s m:Int) (_:Bool):Prop:=p_st st s m
@[simp] theorem Zx {α:Type} (v:List α) (e:α):List.take (v.length+1) (List.take v.length v++[e])=v++[e]:=by
 rw [List.take_length,List.take_of_length_le (by simp)]
@[simp] theorem QwH {α:Type} (v xs:List α):List.take (v.length+xs.length) (List.take v.length v++xs)=v++xs:=by
 rw [List.take_length,List.take_of_length_le (by simp)]
theorem Qbo {α:Type} {l:List α} {k:Nat} (h:k<l.length):∃ y q,l.drop k=y::q:=by
 cases hq:l.drop k with
 | nil=>have:=congrArg List.length hq;simp at this;omega
 | cons y q=>exact ⟨y,q,rfl⟩
theorem JR {α:Type} {v:List α} {k:Nat} {x:α} (h:v.length=k):(v++[x]).length=k+1:=by simp [h]
theorem room {n:Nat} (h:n+1≤2147483648):(n=n∨n+1≤n)∧n+1≤big:=⟨.inl rfl,by rw [Zw];omega⟩
theorem sc1 {k:Nat} (h:k<9223372036854775807):w64 ((k:Int)+1)=((k+1:Nat):Int):=by rw [Qp (by omega) (by omega)];omega
theorem QGL (a b:Int):-4611686018427387904≤Zg a*Zg b∧Zg a*Zg b≤4611686018427387904:=by
 obtain ⟨h1,h2⟩:=QbS a
 obtain ⟨h3,h4⟩:=QbS b
 generalize Zg a=x at *
 generalize Zg b=y at *
 have hx:x.natAbs≤2147483647:=by omega
 have hy:y.natAbs≤2147483647:=by omega
 have h:=Nat.mul_le_mul hx hy
 rw [← Int.natAbs_mul] at h
 omega
theorem QHS (x:Int):(if 2147483647<(if x < -2147483647 then -2147483647 else x) then 2147483647 else (if x < -2147483647 then -2147483647 else x))=Zg x:=by
 unfold Zg iMin iMax;repeat' split
 all_goals omega
theorem idx {r R C:Int} (h1:0≤r) (h2:r<R) (h3:0≤C):0≤r*C∧r*C+C≤R*C∧(r+1)*C=r*C+C:=by
 have h4:(r+1)*C=r*C+C:=by rw [Int.add_mul,Int.one_mul]
 have h5:=Int.mul_le_mul_of_nonneg_right (show r+1≤R by omega) h3
 exact ⟨Int.mul_nonneg h1 h3,by omega,h4⟩
theorem QgY {m:TMat} (h:ZN m=true):1≤m.1∧m.1≤6∧1≤m.2.1∧m.2.1≤6∧(m.2.2.length:Int)=m.1*m.2.1∧m.1*m.2.1≤36∧Zs m.2.2=true:=by
 simp only [ZN,Bool.and_eq_true,QL,beq_iff_eq] at h
 have:=Qe9 h.1.1.1.1 h.1.1.1.2 h.1.1.2.1 h.1.1.2.2
 exact ⟨h.1.1.1.1,h.1.1.1.2,h.1.1.2.1,h.1.1.2.2,h.1.2,this.2,h.2⟩
theorem QBy {f:Nat→Bool} {k:Nat}:(List.range (k+1)).any f=((List.range k).any f||f k):=by rw [List.range_succ,List.any_append];simp
theorem Qvj {α:Type} {f:Nat→α} {k:Nat}:(List.range (k+1)).map f=(List.range k).map f++[f k]:=by rw [List.range_succ,List.map_append];rfl
theorem Qdy {α:Type} {f:Nat→List α} {k:Nat}:(List.range (k+1)).flatMap f=(List.range k).flatMap f++f k:=by rw [List.range_succ,List.flatMap_append];simp
theorem QjF {α:Type} {f:Nat→List α} {R:Nat} (n:Nat) (h:∀ k,k<n→(f k).length=R):((List.range n).flatMap f).length=n*R:=by
 induction n with
 | zero=>simp
 | succ n ih=>rw [Qdy,List.length_append,ih (fun k hk=>h k (by omega)),h n (by omega),Nat.add_mul];omega
theorem QuB {α:Type} {f:Nat→List α} {R:Nat} {k:Nat}:∀ (n:Nat),k<n→(∀ k,k<n→(f k).length=R)→(((List.range n).flatMap f).drop (k*R)).take R=f k
 | 0,hk,_=>by omega
 | n+1,hk,h=>by
  have hl:=QjF n (fun k hk=>h k (by omega))
  rw [Qdy]
  by_cases e:k=n
  ·subst e
   rw [List.drop_append,List.drop_eq_nil_of_le (by omega),hl,Nat.sub_self,List.drop_zero,List.nil_append,List.take_of_length_le (by rw [h k (by omega)];exact Nat.le_refl _)]
  ·have ih:=QuB (k:=k) n (by omega) (fun k hk=>h k (by omega))
   have:(k+1)*R≤n*R:=Nat.mul_le_mul_right R (show k+1≤n by omega)
   rw [Nat.add_mul,Nat.one_mul] at this
   rw [List.drop_append_of_le_length (by omega),List.take_append_of_le_length (by rw [List.length_drop,hl];omega),ih]
theorem QjS (m:TMat) (k:Int):(Jf m k).length=m.1.toNat:=by simp [Jf]
theorem QDQ {m:TMat} (h:ZN m=true) {k:Nat} (hk:(k:Int)<m.2.1):Zs (Jf m k)=true:=by
 obtain ⟨h1,h2,h3,h4,h5,h6,h7⟩:=QgY h
 unfold Zs Jf
 rw [List.all_eq_true]
 intro x hx
 obtain ⟨i,hi,rfl⟩:=List.mem_map.1 hx
 have hi:=List.mem_range.1 hi
 have hd:=idx (r:=i) (R:=m.1) (C:=m.2.1) (by omega) (by omega) (by omega)
 unfold Zs at h7
 generalize (i:Int)*m.2.1=z at *
 generalize m.1*m.2.1=y at *
 exact List.all_eq_true.1 h7 _ (Jt (show Int.toNat (z+k)<m.2.2.length by omega) 0)
theorem QE9 {m:TMat} (h:ZN m=true):ZN (YP m)=true∧(YP m).1=m.2.1∧(YP m).2.1=m.1∧∀ k:Nat,(k:Int)<m.2.1→QaA (YP m) k=Jf m k:=by
 obtain ⟨h1,h2,h3,h4,h5,h6,h7⟩:=QgY h
 have ht:YP m=(m.2.1,m.1,(List.range m.2.1.toNat).flatMap fun k:Nat=>Jf m k):=by unfold YP;rw [if_pos h]
 have hl:=QjF (f:=fun k:Nat=>Jf m k) m.2.1.toNat (fun k hk=>QjS m k)
 have hn:((m.2.1.toNat*m.1.toNat:Nat):Int)=m.2.1*m.1:=by rw [Int.natCast_mul,Int.toNat_of_nonneg (by omega),Int.toNat_of_nonneg (by omega)]
 rw [ht]
 refine ⟨?_,rfl,rfl,fun k hk=>?_⟩
 ·simp only [ZN,Bool.and_eq_true,QL,beq_iff_eq]
  refine ⟨⟨⟨⟨h3,h4⟩,h1,h2⟩,by rw [hl,hn]⟩,?_⟩
  unfold Zs
  rw [List.all_eq_true]
  intro x hx
  obtain ⟨k,hk,hx⟩:=List.mem_flatMap.1 hx
  have:=QDQ h (k:=k) (by have:=List.mem_range.1 hk;omega)
  unfold Zs at this
  exact List.all_eq_true.1 this x hx
 ·have hs:=QuB (f:=fun k:Nat=>Jf m k) (k:=k) m.2.1.toNat (by omega) (fun k hk=>QjS m k)
  have hd:=idx (r:=k) (R:=m.2.1) (C:=m.1) (by omega) hk (by omega)
  have e1:Int.toNat ((k:Int)*m.1)=k*m.1.toNat:=by
   have:((k*m.1.toNat:Nat):Int)=(k:Int)*m.1:=by rw [Int.natCast_mul,Int.toNat_of_nonneg (by omega)]
   omega
  unfold QaA slice
  simp only
  rw [show Int.toNat (((k:Int)+1)*m.1)-Int.toNat ((k:Int)*m.1)=m.1.toNat by omega,e1]
  exact hs
theorem QFv {m:TMat} {d:List Int} (h:ZN m=true) (hd:Qq d m.1=true):ZK (YP m) d=Z6 m d:=by
 obtain ⟨h1,h2,h3,h4⟩:=QE9 h
 unfold ZK Z6
 rw [if_pos (by rw [h1,h3,hd];rfl),if_pos (by rw [h,hd];rfl),h2]
 have e:∀ i,i∈List.range m.2.1.toNat→QaA (YP m) (i:Nat)=Jf m (i:Nat):=fun i hi=>h4 i (by have:=List.mem_range.1 hi;omega)
 refine Prod.ext (List.map_congr_left fun i hi=>by rw [e i hi]) ?_
 show (List.range m.2.1.toNat).any _=(List.range m.2.1.toNat).any _
 rw [Bool.eq_iff_iff,List.any_eq_true,List.any_eq_true]
 constructor
 ·rintro ⟨i,hi,h⟩;exact ⟨i,hi,by rw [← e i hi];exact h⟩
 ·rintro ⟨i,hi,h⟩;exact ⟨i,hi,by rw [e i hi];exact h⟩
theorem QLZ {m:TMat} {d:List Int} (h:¬ (ZN m=true∧Qq d m.1=true)):Z6 m d=([],false):=by unfold Z6;rw [if_neg (by simpa using h)]
theorem QNU {m:TMat} {d:List Int} (h:¬ (ZN m=true∧Qq d m.2.1=true)):ZK m d=([],false):=by unfold ZK;rw [if_neg (by simpa using h)]
theorem QrF {o:TOp'} (h:Ze o=true) (h4:o.1=4):0<o.2.2.2.length:=by
 have:=QdE h
 rw [if_neg (by omega),if_neg (by omega),if_pos h4] at this
 omega
theorem QH7 {o:TOp'} {x:List Int} (h:¬ (Ze o=true∧Qq x o.2.1=true)):Y3 o x=([],false):=by unfold Y3;rw [if_neg (by simpa using h)]
theorem QPz {o:TOp'} {x d:List Int} (h:¬ ((Ze o=true∧Qq x o.2.1=true)∧Qq d o.2.2.1=true)):YV o x d=([],[],false):=by unfold YV;rw [if_neg (by simpa using h)]
theorem Qwm {o:TOp'} (h:Ze o=true):1≤o.1∧o.1≤5:=by simp only [Ze,Bool.and_eq_true,QL] at h;exact h.1.1.1.1.1
theorem QdZ {α:Type} (v:List α):List.take (id v).length (List.drop 0 (id v))=v:=by simp
theorem QdR {α:Type} (v:List α):List.take v.length (List.drop 0 v)=v:=by simp
theorem Qsn {α:Type} {l:List α} {k:Nat} (h:l.length≤k):l.drop k=[]:=List.drop_eq_nil_of_le h
theorem QER (n:Nat) (x:Int):List.take n (List.drop 0 (List.replicate n x))=List.replicate n x:=by rw [List.drop_zero,List.take_of_length_le (by simp)]
theorem Qbs {α:Type} [Sz α] {l:List α} {A:Int→List α→Prop} {Q:List α→Prop} (hs:sz l≤2147483648)
  (hA:∀ (k:Nat) (x:α) (v:List α),k<l.length→l.length≤2147483648→(∀ d,gtd d l k=x)→v.length=k→sz x≤2147483648→A ((k+1:Nat):Int) (v++[x])→A (k:Nat) v)
  (hE:Q l→A (l.length:Nat) l) (hq:Q l):A 0 []:=by
 have hl:=Qad l
 refine Zz l (fun r k=>∀ v,v.length=k→v++r=l→A k v) ?_ ?_ [] rfl rfl
 ·intro v hv he
  rw [List.append_nil] at he
  subst he
  exact hE hq
 ·intro k x r hk hlt hg ih v hv he
  have hx:=QvV hk
  exact hA k x v hlt (by omega) hg hv (by omega) (ih _ (JR hv) (by rw [← he];simp))
theorem QkW {o:TOp'} (h:Ze o=true):o.2.2.2.length≤36:=by
 have h1:=QdE h
 have h2:=QaO h
 have h3:=Qe9 h2.1 h2.2.1 h2.2.2.1 h2.2.2.2
 split at h1
 ·omega
 ·split at h1
  ·omega
  ·split at h1 <;> omega
theorem Qe8 {m:Q3} (h:QE m=true) {k:Nat} (hk:k<m.length):Ze (gtd dOp m k)=true:=by
 simp only [QE,Bool.and_eq_true] at h
 exact (Qd9 h.2 k _ (Y7 hk dOp)).1
theorem Qvc {α:Type} (d:α) {v:List α} {k:Nat} (h:v.length=k+1):v.take k++[gtd d v k]=v:=by
 have h1:gtd d v k=v[k]'(by omega):=Qa5 (List.getElem?_eq_getElem (by omega)) d
 rw [h1,List.take_append_getElem (by omega),List.take_of_length_le (by omega)]
theorem QO2 {α:Type} (d:α) {v:List α} {n:Nat} (y:α) (h:v.length=n):gtd d (v++[y]) n=y:=by
 refine Qa5 ?_ d
 rw [List.getElem?_append_right (by omega)];simp [h]
theorem QH5 {α:Type} {v:List α} {n:Nat} (y:α) (h:v.length=n):(v++[y]).take n=v:=by
 rw [List.take_append_of_le_length (by omega),List.take_of_length_le (by omega)]
theorem QDr {α:Type} (n:Nat) (e g:α) (l:List α):(List.replicate (n+1) e++l).set n g=List.replicate n e++g::l:=by
 rw [List.replicate_succ',List.append_assoc,List.set_append_right _ _ (by simp)]
 simp
theorem QkO {m:Q3} {x:List Int} (h1:QE m=true) (h2:Qq x (QX m)=true):Jn m x=Qw m x:=by unfold Jn;rw [if_pos (by rw [h1,h2];rfl)]
theorem QyT:∀ {ops:List TOp'} {rows:List (List Int)},rows.length=ops.length→(∀ o,o∈ops→Ze o=true)→ZQ ops rows=true→sz rows≤37*ops.length
 | [],[],_,_,_=>by simp
 | [],r::rs,h,_,_=>by simp at h
 | o::os,[],h,_,_=>by simp at h
 | o::os,r::rs,h,ho,hg=>by
  simp only [ZQ,Bool.and_eq_true,beq_iff_eq] at hg
  have h1:=QkW (ho o List.mem_cons_self)
  have h2:=QyT (by simpa using h) (fun p hp=>ho p (List.mem_cons_of_mem _ hp)) hg.2
  have h3:=Jc r
  rw [Jm,List.length_cons];omega
theorem Qlz {m:Q3} (h:QE m=true):∀ o,o∈m→Ze o=true:=by
 intro o ho
 obtain ⟨i,hi⟩:=List.getElem?_of_mem ho
 simp only [QE,Bool.and_eq_true] at h
 exact (Qd9 h.2 i o hi).1
theorem QGX {m:Q3} (h:QE m=true):(ZU m).1.length=m.length∧ZQ m (ZU m).1=true:=by
 unfold ZU
 rw [if_pos h]
 simp only [List.length_map,true_and]
 clear h
 induction m with
 | nil=>rfl
 | cons o l ih=>simp [ZQ,ih]
theorem Qqx {m:Q3} (h:QE m=true) {a:Za} (h1:a.1.length=m.length∧ZQ m a.1=true):sz a≤296:=by
 have:=QyT h1.1 (Qlz h) h1.2
 have:=YM h
 simp only [YA,Yd,Qbi];omega
end Go.Proofs.YtjbdljkhbglnhaaGreat.Am

