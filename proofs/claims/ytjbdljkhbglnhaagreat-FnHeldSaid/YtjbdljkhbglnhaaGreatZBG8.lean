/- -/
import Derived.Test.YtjbdljkhbglnhaaGreatZBG7
set_option linter.all false
namespace Go.Proofs.YtjbdljkhbglnhaaGreat.Am
open Go Sz
def tm (ds n M s:Int) (i:TIns):Int :=
 let F:=s+2*i.2
 let B:=(if ds=2 then 2*n-1 else 2*n-1+2*M)-s+2*i.2
 if i.1=1 then 8*F else if i.1=2 then 8*F+1 else if i.1=3 then 8*F+2
 else if i.1=4 then 8*B else if i.1=5 then 8*B+1 else if i.1=6 then 8*B+2 else if i.1=7 then 8*B+3 else 1000000
def rcOf (f:Nat) (k1:Int):Nat:=if k1=1 then f+1 else f
def scOf (f:Nat) (k1:Int):Nat:=if k1=2 then f-1 else f
def rgOf (n s:Int) (g:Nat) (k1:Int):Nat:=if k1=4∨(k1=5∧s<n-1) then g+1 else g
def sgQ (g:Nat) (k1:Int):Nat:=if k1=6 then g-1 else g
def Qhz (ds n M s:Int) (rd:Bool) (f g:Nat) (k1:Int) (i:TIns) (last:Bool):Bool :=
 decide (g≤f∧(f:Int)≤M∧1≤i.1∧i.1≤8∧0≤i.2∧i.2<M∧(i.1=8↔last=true)∧i≠(0,0)) &&
 decide (i.1=1→0<s∧i.2=f∧k1≠1) &&
 decide (i.1=2→i.2=f∧(0<s→k1=1)) &&
 decide (i.1=3→s<n-1∧i.2=(f:Int)-1∧k1=2) &&
 decide (i.1=4→s<n-1∧i.2=g) &&
 decide (i.1=5→rd=true∧i.2=g∧g<f∧(s<n-1→k1=4)) &&
 decide (i.1=6→i.2=g∧g<f∧(rd=true→k1=5)∧(rd=false→s<n-1→k1=4)) &&
 decide (i.1=7→0<s∧i.2=(g:Int)-1∧k1=6) &&
 decide (i.1=8→(f:Int)=M∧(g:Int)=M∧k1≠0) &&
 decide (k1=1→i.1=2)&&decide (k1=2→s<n-1→i.1=3)&&decide (k1=4→i.1=5∨i.1=6)&&decide (k1=5→i.1=6)&&decide (k1=6→0<s→i.1=7) &&
 decide (k1=5→rd=true)&&decide (k1=6→1≤g)&&decide (k1=2→1≤f)&&decide (k1≠8)&&decide (k1=4→s<n-1)&&decide (k1=1→0<s) &&
 decide (k1=4∨k1=5→g<f)&&decide (k1=1→(f:Int)<M) &&
 decide (s<n-1→(scOf f k1:Int)<M→tm ds n M s i≤tm ds n M s (3,(scOf f k1:Int))) &&
 decide (0<s→(rcOf f k1:Int)<M→tm ds n M s i≤tm ds n M s (1,(rcOf f k1:Int))) &&
 decide (s<n-1→(rgOf n s g k1:Int)<M→tm ds n M s i≤tm ds n M s (4,(rgOf n s g k1:Int))) &&
 decide (0<s→(sgQ g k1:Int)<M→tm ds n M s i≤tm ds n M s (7,(sgQ g k1:Int))) &&
 decide (ds=2→(f:Int)-g≤n-s)&&decide (ds=2→i.1=2→(f:Int)-g<n-s)
def QjA (M:Int) (f g:Nat) (k1:Int):Bool:=decide ((f:Int)=M∧(g:Int)=M∧k1=8)
def kf (i:TIns):Nat:=if i.1=2 then 1 else 0
def kg (i:TIns):Nat:=if i.1=6 then 1 else 0
def Qci (ds n M s:Int) (rd:Bool):List TIns→Nat→Nat→Int→Bool
 | [],f,g,k1=>QjA M f g k1
 | i::r,f,g,k1=>Qhz ds n M s rd f g k1 i r.isEmpty&&Qci ds n M s rd r (f+kf i) (g+kg i) i.1
def QoU:Bool:=[1,2].all fun ds:Int=>[1,2,3,4].all fun n:Int=>[0,1,2,3].all fun s:Int=>[1,2,3,4,5].all fun M:Int=>[true,false].all fun rd =>
 !(decide (s<n))||Qci ds n M s rd (Yn ds n s M rd) 0 0 0
set_option maxRecDepth 100000 in
theorem QAv:QoU=true:=by kernel_rfl
theorem QHR {ds n s M:Int} (rd:Bool) (h1:1≤ds) (h2:ds≤2) (h3:n≤4) (h4:0≤s) (h5:s<n) (h6:1≤M) (h7:M≤5):Qci ds n M s rd (Yn ds n s M rd) 0 0 0=true:=by
 have h:=QAv
 unfold QoU at h
 rw [List.all_eq_true] at h
 have h:=h ds (by have:ds=1∨ds=2:=(by omega);rcases this with rfl | rfl <;> simp)
 rw [List.all_eq_true] at h
 have h:=h n (by have:n=1∨n=2∨n=3∨n=4:=(by omega);rcases this with rfl | rfl | rfl | rfl <;> simp)
 rw [List.all_eq_true] at h
 have h:=h s (by have:s=0∨s=1∨s=2∨s=3:=(by omega);rcases this with rfl | rfl | rfl | rfl <;> simp)
 rw [List.all_eq_true] at h
 have h:=h M (by have:M=1∨M=2∨M=3∨M=4∨M=5:=(by omega);rcases this with rfl | rfl | rfl | rfl | rfl <;> simp)
 rw [List.all_eq_true] at h
 have h:=h rd (by cases rd <;> simp)
 simpa [h5] using h
def cf (l:List TIns):Nat:=(l.map kf).sum
def cg (l:List TIns):Nat:=(l.map kg).sum
def Y5 (l:List TIns) (k:Nat):Int:=if k=0 then 0 else (gtd dIns l (k-1)).1
theorem Ql5 {ds n M s:Int} {rd:Bool}:∀ (l:List TIns) (f g:Nat) (k1:Int),Qci ds n M s rd l f g k1=true→∀ k,k≤l.length →
  (∀ i,l[k]? = some i→Qhz ds n M s rd (f+cf (l.take k)) (g+cg (l.take k)) (if k=0 then k1 else Y5 l k) i (decide (k+1=l.length))=true) ∧
  (k=l.length→QjA M (f+cf (l.take k)) (g+cg (l.take k)) (if k=0 then k1 else Y5 l k)=true)
 | [],f,g,k1,h,k,hk=>by
  have:k=0:=by simpa using hk
  subst this
  simp only [Qci] at h
  exact ⟨fun i hi=>by simp at hi,fun _=>by simpa [cf,cg] using h⟩
 | i::r,f,g,k1,h,k,hk=>by
  simp only [Qci,Bool.and_eq_true] at h
  cases k with
  | zero =>
   refine ⟨fun j hj=>?_,fun h0=>by simp at h0⟩
   simp at hj
   subst hj
   have:r.isEmpty=decide (0+1=(i::r).length):=by cases r <;> simp
   rw [← this]
   simpa [cf,cg] using h.1
  | succ k =>
   have ih:=Ql5 r (f+kf i) (g+kg i) i.1 h.2 k (by simpa using hk)
   have e1:f+cf ((i::r).take (k+1))=f+kf i+cf (r.take k):=by simp [cf];omega
   have e2:g+cg ((i::r).take (k+1))=g+kg i+cg (r.take k):=by simp [cg];omega
   have e3:(if k=0 then i.1 else Y5 r k)=Y5 (i::r) (k+1):=by
    unfold Y5
    cases k with
    | zero=>simp [gtd]
    | succ k=>simp [gtd]
   rw [e1,e2,if_neg (by omega),← e3]
   refine ⟨fun j hj=>?_,fun h0=>ih.2 (by simpa using h0)⟩
   have:=ih.1 j (by simpa using hj)
   rw [show decide (k+1+1=(i::r).length)=decide (k+1=r.length) by simp]
   exact this
end Go.Proofs.YtjbdljkhbglnhaaGreat.Am
namespace Go.Proofs.YtjbdljkhbglnhaaGreat.Am
open Go Sz
theorem QbB (x:Int):-2147483647≤Za x∧Za x≤2147483647:=by unfold Za iMin iMax;split <;> split <;> omega
theorem Qm3 {x:Int}:Q5 x=true↔-2147483647≤x∧x≤2147483647:=by simp [Q5]
theorem QMR (x:Int):Q5 (Za x)=true:=Qm3.2 (QbB x)
theorem Qtu {x:Int} (h:Q5 x=true):Za x=x:=by
 have:=Qm3.1 h
 unfold Za iMin iMax;split <;> split <;> omega
theorem QnJ (x:Int):Q5 (Jz x).1=true:=QMR x
theorem QkQ (a b:Int):Q5 (Ze a b).1=true:=QnJ _
theorem QC7 (a b:Int):Q5 (QbM a b).1=true:=QnJ _
theorem QFT (a b:Int):Q5 (ZQ a b).1=true:=QnJ _
theorem QJi (a:Int):Q5 (Qc4 a)=true:=by
 have:=QbB a
 rw [Qm3];unfold Qc4 iMax;split <;> omega
theorem QAK {a:Int} (h:Q5 a=true):Ze a 0=(a,false):=by
 have e:Za 0=0:=rfl
 unfold Ze Jz
 rw [e,Int.add_zero,Qtu h,Qtu h,h];rfl
theorem QuN {x:Int} {l:List Int}:Zo (x::l)=(Q5 x&&Zo l):=rfl
theorem Yz {v:List Int}:Q3 v=true↔(1≤v.length∧v.length≤6)∧Zo v=true:=by
 simp only [Q3,Bool.and_eq_true,QS]
 constructor
 ·rintro ⟨h1,h2⟩;exact ⟨by omega,h2⟩
 ·rintro ⟨h1,h2⟩;exact ⟨by omega,h2⟩
theorem Z2 {v:List Int} {n:Int}:Qs v n=true↔Q3 v=true∧(v.length:Int)=n:=by simp [Qs]
theorem Qke (f:Int→Int→Int × Bool):∀ a b:List Int,(vz f a b).1.length=min a.length b.length
 | [],b=>by simp [vz]
 | a::aa,[]=>by simp [vz]
 | a::aa,b::bb=>by simp [vz,Qke f aa bb]
theorem Qq8 {f:Int→Int→Int × Bool} (hf:∀ a b,Q5 (f a b).1=true):∀ a b:List Int,Zo (vz f a b).1=true
 | [],b=>by simp [vz,Zo]
 | a::aa,[]=>by simp [vz,Zo]
 | a::aa,b::bb=>by simp only [vz,QuN,hf,Qq8 hf aa bb,Bool.and_self]
theorem QpI (f:Int→Int × Bool):∀ a:List Int,(v1 f a).1.length=a.length
 | []=>rfl
 | a::aa=>by simp [v1,QpI f aa]
theorem QqP {f:Int→Int × Bool} (hf:∀ a,Q5 (f a).1=true):∀ a:List Int,Zo (v1 f a).1=true
 | []=>rfl
 | a::aa=>by simp only [v1,QuN,hf,QqP hf aa,Bool.and_self]
theorem QrT:∀ (a b:List Int) (z:Int),Q5 z=true→Q5 (Qaj a b z).1=true
 | [],b,z,h=>by simpa [Qaj] using h
 | a::aa,[],z,h=>by simpa [Qaj] using h
 | a::aa,b::bb,z,h=>by rw [Qaj];exact QrT aa bb _ (QkQ _ _)
theorem Qxd (a b:List Int):Q5 (Zy a b).1=true:=by
 unfold Zy;split
 ·exact QrT _ _ _ rfl
 ·rfl
theorem Qbf {a b:List Int}:Yf a b=true↔Q3 a=true∧Q3 b=true∧b.length=a.length:=by
 unfold Yf;rw [Bool.and_eq_true,Z2]
 constructor <;> (intro h;exact ⟨h.1,h.2.1,by omega⟩)
theorem Qr6 {f:Int→Int→Int × Bool} (hf:∀ a b,Q5 (f a b).1=true) {a b:List Int} (h:Yf a b=true):Qs (vz f a b).1 a.length=true:=by
 obtain ⟨h1,h2,h3⟩:=Qbf.1 h
 have:=(Yz.1 h1).1
 have hl:=Qke f a b
 exact Z2.2 ⟨Yz.2 ⟨by omega,Qq8 hf a b⟩,by omega⟩
theorem Qj7 {a b:List Int} (h:Yf a b=true):Qs (ZV a b).1 a.length=true:=by unfold ZV;rw [if_pos h];exact Qr6 QkQ h
theorem QOE {a b:List Int} (h:Yf a b=true):Qs (ZH a b).1 a.length=true:=by unfold ZH;rw [if_pos h];exact Qr6 QC7 h
theorem Qmd {a b:List Int} {n:Int} (h1:Qs a n=true) (h2:Qs b n=true):Yf a b=true:=by
 obtain ⟨h3,h4⟩:=Z2.1 h1
 obtain ⟨h5,h6⟩:=Z2.1 h2
 exact Qbf.2 ⟨h3,h5,by omega⟩
theorem Qrq {c:Int} {a:List Int} (hc:Q5 c=true) (h:Q3 a=true):Qs (Yo c a).1 a.length=true:=by
 unfold Yo
 rw [hc,h,Bool.and_self,if_pos rfl]
 have:=(Yz.1 h).1
 have hl:=QpI (ZQ c) a
 exact Z2.2 ⟨Yz.2 ⟨by omega,QqP (QFT c) a⟩,by omega⟩
theorem QDX {α:Type} {f:α→Int} (hf:∀ a,Q5 (f a)=true) (l:List α):Zo (l.map f)=true:=by
 unfold Zo;rw [List.all_eq_true];intro x hx
 obtain ⟨a,_,rfl⟩:=List.mem_map.1 hx
 exact hf a
theorem Qlo {α:Type} {f:α→Int} (hf:∀ a,Q5 (f a)=true) {l:List α} (h1:1≤l.length) (h2:l.length≤6):Qs (l.map f) l.length=true :=
 Z2.2 ⟨Yz.2 ⟨by simp;omega,QDX hf l⟩,by simp⟩
theorem QMZ {a:List Int} (h:Q3 a=true):Qs (Jo a) a.length=true:=by
 unfold Jo;rw [if_pos h]
 have:=(Yz.1 h).1
 exact Qlo QJi (by omega) (by omega)
theorem Qyv {m:TMat} {x:List Int} (h:(ZL m&&Qs x m.2.1)=true):Qs (ZF m x).1 m.1=true:=by
 unfold ZF;rw [if_pos h]
 have h1:1≤m.1∧m.1≤6:=by simp only [ZL,Bool.and_eq_true,QS] at h;omega
 have:=Qlo (f:=fun i:Nat=>(Zy (QaD m i) x).1) (fun i=>Qxd _ _) (l:=List.range m.1.toNat) (by simp;omega) (by simp;omega)
 rw [List.length_range,show ((m.1.toNat:Nat):Int)=m.1 by omega] at this
 exact this
theorem Qzv {m:TMat} {x:List Int} (h:(ZL m&&Qs x m.1)=true):Qs (Z3 m x).1 m.2.1=true:=by
 unfold Z3;rw [if_pos h]
 have h1:1≤m.2.1∧m.2.1≤6:=by simp only [ZL,Bool.and_eq_true,QS] at h;omega
 have:=Qlo (f:=fun i:Nat=>(Zy (Ja m i) x).1) (fun i=>Qxd _ _) (l:=List.range m.2.1.toNat) (by simp;omega) (by simp;omega)
 rw [List.length_range,show ((m.2.1.toNat:Nat):Int)=m.2.1 by omega] at this
 exact this
theorem QK9 {x d:List Int} (h:Yf x d=true):Qs (Jk x d) x.length=true:=by
 unfold Jk;rw [if_pos h]
 obtain ⟨h1,h2,h3⟩:=Qbf.1 h
 have hl:=(Yz.1 h1).1
 have hf:=(Yz.1 h2).2
 refine Z2.2 ⟨Yz.2 ⟨by simp;omega,?_⟩,by simp;omega⟩
 unfold Zo at hf ⊢
 rw [List.all_eq_true] at hf ⊢
 intro y hy
 rw [List.mem_iff_getElem?] at hy
 obtain ⟨i,hi⟩:=hy
 rw [List.getElem?_zipWith] at hi
 split at hi
 ·rename_i a b ha hb
  cases hi
  split
  ·exact hf b (List.mem_of_getElem? hb)
  ·rfl
 ·cases hi
theorem Qqn {d x:List Int} (hd:Q3 d=true) (hx:Q3 x=true):(ZM d x).1.2.2.length=d.length*x.length:=by
 unfold ZM;rw [hd,hx,Bool.and_self,if_pos rfl]
 simp only
 generalize d=l
 clear hd
 induction l with
 | nil=>simp
 | cons a l ih=>rw [List.flatMap_cons,List.length_append,ih];simp [Nat.add_mul];omega
theorem Qdc {o:TOp'} (h:Q8 o=true):(o.2.2.2.length:Int)=(if o.1=1∨o.1=5 then o.2.1*o.2.2.1 else if o.1=2 then o.2.1 else if o.1=4 then 1 else 0):=by
 have h1:=QbR h
 simp only [Q8,Bool.and_eq_true,beq_iff_eq] at h
 rw [h.1.2]
 unfold Z1
 rw [show m_in o.2.1 1 6=true from QS.2 ⟨h1.1,h1.2.1⟩,show m_in o.2.2.1 1 6=true from QS.2 ⟨h1.2.2.1,h1.2.2.2⟩]
 rfl
theorem Qhu {o:TOp'} (h:Q8 o=true):Zo o.2.2.2=true:=by simp only [Q8,Bool.and_eq_true] at h;exact h.2
theorem opEq {o:TOp'} (h:Q8 o=true) (h1:o.1≠1):o.2.1=o.2.2.1:=by
 simp only [Q8,Bool.and_eq_true,Bool.or_eq_true,beq_iff_eq] at h
 rcases h.1.1.2 with h | h
 ·exact absurd h h1
 ·exact h
theorem QhZ {o:TOp'} (h:Q8 o=true) (h1:o.1=1∨o.1=5):ZL (Zg o)=true:=by
 have h2:=QbR h
 have h3:=Qdc h
 rw [if_pos h1] at h3
 simp only [ZL,Zg,Bool.and_eq_true,QS,beq_iff_eq]
 refine ⟨⟨⟨⟨by omega,by omega⟩,by omega,by omega⟩,?_⟩,Qhu h⟩
 rw [h3,Int.mul_comm]
theorem QfU {o:TOp'} {x:List Int} (ho:Q8 o=true) (hx:Qs x o.2.1=true):Qs (YZ o x).1 o.2.2.1=true:=by
 have hx':=Z2.1 hx
 unfold YZ
 rw [ho,hx,Bool.and_self,if_pos rfl]
 split
 ·rename_i h1
  exact Qyv (m:=Zg o) (by rw [QhZ ho (.inl h1)];simpa [Zg] using hx)
 ·rename_i h1
  have he:=opEq ho h1
  rw [← he]
  split
  ·rename_i h2
   have h3:=Qdc ho
   rw [if_neg (by omega),if_pos h2] at h3
   have h4:=QbR ho
   have hp:Yf x o.2.2.2=true:=Qbf.2 ⟨hx'.1,Yz.2 ⟨by omega,Qhu ho⟩,by omega⟩
   rw [← hx'.2]
   exact Qj7 hp
  ·split
   ·rename_i h2 h3
    have h4:=Qdc ho
    rw [if_neg (by omega),if_neg h2,if_pos h3] at h4
    have hf:Q5 (gtd 0 o.2.2.2 0)=true:=by
     have:=Qhu ho
     unfold Zo at this
     exact List.all_eq_true.1 this _ (JH (by omega) 0)
    rw [← hx'.2]
    exact Qrq hf hx'.1
   ·split
    ·rename_i h5
     have hm:=QhZ ho (.inr h5)
     have hy:Qs (ZF (Zg o) x).1 o.2.2.1=true:=Qyv (m:=Zg o) (by rw [hm];simpa [Zg] using hx)
     rw [← he] at hy
     have:=Qj7 (Qmd hx hy)
     rwa [hx'.2] at this
    ·have:=QMZ hx'.1
     rwa [hx'.2] at this
theorem QMz {o:TOp'} {x d:List Int} (ho:Q8 o=true) (hx:Qs x o.2.1=true) (hd:Qs d o.2.2.1=true) :
  Qs (YK o x d).1 o.2.1=true∧(YK o x d).2.1.length=o.2.2.2.length:=by
 have hx':=Z2.1 hx
 have hd':=Z2.1 hd
 have hs:=Qdc ho
 unfold YK
 rw [ho,hx,hd,Bool.and_self,Bool.and_self,if_pos rfl]
 split
 ·rename_i h1
  rw [if_pos (.inl h1)] at hs
  refine ⟨Qzv (m:=Zg o) (by rw [QhZ ho (.inl h1)];simpa [Zg] using hd),?_⟩
  have:=Qqn hd'.1 hx'.1
  show (ZM d x).1.2.2.length=_
  rw [this]
  have:((d.length*x.length:Nat):Int)=o.2.1*o.2.2.1:=by rw [Int.natCast_mul,hd'.2,hx'.2,Int.mul_comm]
  omega
 ·rename_i h1
  have he:=opEq ho h1
  split
  ·rename_i h2
   rw [if_neg (by omega),if_pos h2] at hs
   refine ⟨by rw [he];exact hd,?_⟩
   show d.length=_
   omega
  ·split
   ·rename_i h2 h3
    rw [if_neg (by omega),if_neg h2,if_pos h3] at hs
    have hf:Q5 (gtd 0 o.2.2.2 0)=true:=by
     have:=Qhu ho
     unfold Zo at this
     exact List.all_eq_true.1 this _ (JH (by omega) 0)
    refine ⟨?_,?_⟩
    ·have:=Qrq hf hd'.1
     rw [hd'.2,← he] at this
     exact this
    ·show [(Zy d x).1].length=_
     simp;omega
   ·split
    ·rename_i h2 h3 h5
     rw [if_pos (.inr h5)] at hs
     have hm:=QhZ ho (.inr h5)
     have hy:Qs (Z3 (Zg o) d).1 o.2.1=true:=Qzv (m:=Zg o) (by rw [hm];simpa [Zg] using hd)
     refine ⟨?_,?_⟩
     ·rw [he] at hy
      have:=Qj7 (Qmd hd hy)
      rw [hd'.2,← he] at this
      exact this
     ·have:=Qqn hd'.1 hx'.1
      show (ZM d x).1.2.2.length=_
      rw [this]
      have:((d.length*x.length:Nat):Int)=o.2.1*o.2.2.1:=by rw [Int.natCast_mul,hd'.2,hx'.2,Int.mul_comm]
      omega
    ·rename_i h2 h3 h5
     rw [if_neg (by omega),if_neg h2,if_neg h3] at hs
     have hp:Yf x d=true:=Qbf.2 ⟨hx'.1,hd'.1,by omega⟩
     refine ⟨?_,by simp;omega⟩
     have:=QK9 hp
     rw [hx'.2] at this
     exact this
theorem Qd2:∀ (ops:List TOp') (x:List Int),(Qz ops x).1.length=ops.length+1
 | [],x=>rfl
 | o::r,x=>by simp [Qz,Qd2 r]
def ZW (ops:List TOp') (x:List Int):List Int:=gtd [] (Qz ops x).1 ops.length
theorem QfM (x:List Int):ZW [] x=x:=rfl
theorem Qeg (o:TOp') (r:List TOp') (x:List Int):ZW (o::r) x=ZW r (YZ o x).1:=by
 unfold ZW;rw [Qz];simp [gtd]
theorem Qtb:∀ (a b:List TOp') (x:List Int),Qz (a++b) x=((Qz a x).1.take a.length++(Qz b (ZW a x)).1,(Qz a x).2||(Qz b (ZW a x)).2)
 | [],b,x=>by simp [Qz,QfM]
 | o::a,b,x=>by
  rw [List.cons_append,Qz,Qtb a b,Qeg,Qz]
  simp [Bool.or_assoc]
theorem QPd (a b:List TOp') (x:List Int):ZW (a++b) x=ZW b (ZW a x):=by
 induction a generalizing x with
 | nil=>rfl
 | cons o a ih=>rw [List.cons_append,Qeg,Qeg,ih]
theorem QHG (ops:List TOp') (x:List Int):gtd [] (Qz ops x).1 0=x:=by cases ops <;> simp [Qz,gtd]
theorem QAA (ops:List TOp') (x:List Int):(Qz ops x).1.take ops.length++[ZW ops x]=(Qz ops x).1:=by
 unfold ZW
 have hl:=Qd2 ops x
 have:gtd [] (Qz ops x).1 ops.length=(Qz ops x).1[ops.length]'(by omega):=Qcg (List.getElem?_eq_getElem (by omega)) []
 rw [this,List.take_append_getElem (by omega),List.take_of_length_le (by omega)]
theorem QmO:∀ (ops:List TOp') (rows:List (List Int)) (d:List Int),ops.length≤rows.length→(QP ops rows d).1.length=ops.length
 | [],rows,d,_=>by simp [QP]
 | o::os,[],d,h=>by simp at h
 | o::os,r::rs,d,h=>by simp [QP,QmO os rs d (by simpa using h)]
theorem QlT:∀ (a b:List TOp') (ra rb:List (List Int)) (d:List Int),ra.length=a.length →
  QP (a++b) (ra++rb) d=((QP a ra (QP b rb d).2.1).1++(QP b rb d).1,(QP a ra (QP b rb d).2.1).2.1,(QP a ra (QP b rb d).2.1).2.2||(QP b rb d).2.2)
 | [],b,ra,rb,d,h=>by
  have:ra=[]:=List.eq_nil_of_length_eq_zero (by simpa using h)
  subst this
  simp [QP]
 | o::a,b,[],rb,d,h=>by simp at h
 | o::a,b,r::ra,rb,d,h=>by
  rw [List.cons_append,List.cons_append,QP,QlT a b ra rb d (by simpa using h),QP]
  simp [Bool.or_assoc]
theorem QPr:∀ (ops:List TOp') (rows more:List (List Int)) (d:List Int),rows.length=ops.length→QP ops (rows++more) d=QP ops rows d:=by
 intro ops rows more d h
 have:=QlT ops [] rows more d h
 rw [List.append_nil] at this
 rw [this]
 simp [QP]
end Go.Proofs.YtjbdljkhbglnhaaGreat.Am
namespace Go.Proofs.YtjbdljkhbglnhaaGreat.Am
open Go Sz
def ZI:Int→List TOp'→Int→Prop
 | i,[],o=>i=o
 | i,a::r,o=>Q8 a=true∧a.2.1=i∧ZI a.2.2.1 r o
theorem ZI.append:∀ {a b:List TOp'} {i o:Int},ZI i (a++b) o↔∃ k,ZI i a k∧ZI k b o
 | [],b,i,o=>by simp [ZI]
 | x::a,b,i,o=>by
  rw [List.cons_append,ZI,ZI.append]
  constructor
  ·rintro ⟨h1,h2,k,h3,h4⟩;exact ⟨k,⟨h1,h2,h3⟩,h4⟩
  ·rintro ⟨k,⟨h1,h2,h3⟩,h4⟩;exact ⟨h1,h2,k,h3,h4⟩
theorem Qv1:∀ {l:List TOp'} {p:Option Int},Yk p l=true→∃ i o,ZI i l o∧(∀ q,p=some q→l≠[]→q=i)
 | [],p,h=>⟨0,0,rfl,fun q _ h=>absurd rfl h⟩
 | a::r,p,h=>by
  simp only [Yk,Bool.and_eq_true] at h
  obtain ⟨i,o,h1,h2⟩:=Qv1 h.2
  have hp:∀ q,p=some q→a::r≠[]→q=a.2.1:=fun q hq _=>by
   have:=h.1.2
   rw [hq] at this
   simpa using this
  cases r with
  | nil=>exact ⟨a.2.1,a.2.2.1,⟨h.1.1,rfl,rfl⟩,hp⟩
  | cons b r =>
   have:=h2 _ rfl (by simp)
   rw [← this] at h1
   exact ⟨a.2.1,o,⟨h.1.1,rfl,h1⟩,hp⟩
theorem Qt3:∀ {l:List TOp'} {i o:Int} {p:Option Int},ZI i l o→(∀ q,p=some q→q=i)→Yk p l=true
 | [],i,o,p,h,hp=>rfl
 | a::r,i,o,p,h,hp=>by
  obtain ⟨h1,h2,h3⟩:=h
  simp only [Yk,Bool.and_eq_true]
  refine ⟨⟨h1,?_⟩,Qt3 h3 (fun q hq=>by cases hq;rfl)⟩
  cases p with
  | none=>rfl
  | some q=>simp [hp q rfl,h2]
theorem ZI.out_eq:∀ {l:List TOp'} {i o:Int},ZI i l o→l≠[]→(gtd dOp l (l.length-1)).2.2.1=o
 | [],i,o,h,hn=>absurd rfl hn
 | [a],i,o,h,hn=>h.2.2
 | a::b::r,i,o,h,hn=>by
  have:=ZI.out_eq h.2.2 (by simp)
  simpa [gtd] using this
theorem QgB {l:List TOp'} {i o:Int} (h:ZI i l o) (h1:1≤l.length) (h2:l.length≤8):QN l=true∧QZ l=i∧Q1 l=o:=by
 have hm:QN l=true:=by
  simp only [QN,Bool.and_eq_true,QS]
  exact ⟨by omega,Qt3 h (by simp)⟩
 refine ⟨hm,?_,?_⟩
 ·unfold QZ;rw [if_pos hm]
  cases l with
  | nil=>simp at h1
  | cons a r=>exact h.2.1
 ·unfold Q1;rw [if_pos hm]
  exact h.out_eq (by intro e;rw [e] at h1;simp at h1)
theorem QJq {l:List TOp'} (h:QN l=true):1≤l.length∧l.length≤8∧ZI (QZ l) l (Q1 l):=by
 have hl:=YY h
 refine ⟨hl.1,hl.2,?_⟩
 have h':=h
 simp only [QN,Bool.and_eq_true] at h'
 obtain ⟨i,o,h1,_⟩:=Qv1 h'.2
 have:=QgB h1 hl.1 hl.2
 rw [this.2.1,this.2.2]
 exact h1
theorem Qwl:∀ {l:List TOp'} {i o:Int} {x:List Int},ZI i l o→Qs x i=true→Qs (ZW l x) o=true
 | [],i,o,x,h,hx=>by rw [QfM,← show i=o from h];exact hx
 | a::r,i,o,x,h,hx=>by
  obtain ⟨h1,h2,h3⟩:=h
  rw [Qeg]
  exact Qwl h3 (QfU h1 (by rw [h2];exact hx))
theorem Qm7:∀ {l:List TOp'} {i o:Int} {x d:List Int},ZI i l o→Qs x i=true→Qs d o=true →
  Qs (QP l (Qz l x).1 d).2.1 i=true∧Z9 l (QP l (Qz l x).1 d).1=true
 | [],i,o,x,d,h,hx,hd=>by
  refine ⟨?_,rfl⟩
  show Qs d i=true
  rw [show i=o from h];exact hd
 | a::r,i,o,x,d,h,hx,hd=>by
  obtain ⟨h1,h2,h3⟩:=h
  rw [Qz]
  have hx':Qs x a.2.1=true:=by rw [h2];exact hx
  have ih:=Qm7 h3 (QfU h1 hx') hd
  have:=QMz h1 hx' ih.1
  rw [QP]
  refine ⟨by rw [← h2];exact this.1,?_⟩
  simp only [Z9,Bool.and_eq_true,beq_iff_eq]
  exact ⟨this.2,ih.2⟩
theorem Qra (all:List TOp') {o:Int}:∀ {l:List TOp'} {i:Int} {x:List Int} {k:Nat},ZI i l o→all.drop k=l→k≤all.length→(l=[]→QaU all k=i)→Qs x i=true→Jf all k (Qz l x).1=true
 | [],i,x,k,h,hk,hle,hs,hx=>by
  simp only [Qz,Jf,Bool.and_true]
  rw [hs rfl];exact hx
 | a::r,i,x,k,h,hk,hle,hs,hx=>by
  obtain ⟨h1,h2,h3⟩:=h
  have hlt:=Qfa hk
  have hx':Qs x a.2.1=true:=by rw [h2];exact hx
  simp only [Qz,Jf,Bool.and_eq_true]
  refine ⟨?_,Qra all h3 (YS hk) hlt (fun hr=>?_) (QfU h1 hx')⟩
  ·unfold QaU;rw [if_pos hlt,Y1 hk];exact hx'
  ·have:all.length=k+1:=by have:=Qqh hk;rw [hr] at this;simp at this;omega
   unfold QaU
   rw [if_neg (by omega),show all.length-1=k by omega,Y1 hk]
theorem QPy {l:List TOp'} {i o:Int} {x:List Int} (h:ZI i l o) (hl:l≠[]) (hx:Qs x i=true):Jf l 0 (Qz l x).1=true :=
 Qra l h (by simp) (by simp) (fun h0=>absurd h0 hl) hx
theorem QeT:∀ (ops:List TOp') (rows:List (List Int)) (k n:Nat),Jf ops k rows=true→Jf ops k (rows.take n)=true
 | ops,[],k,n,h=>by simp [Jf]
 | ops,r::rs,k,0,h=>by simp [Jf]
 | ops,r::rs,k,n+1,h=>by
  simp only [Jf,List.take_succ_cons,Bool.and_eq_true] at h ⊢
  exact ⟨h.1,QeT ops rs (k+1) n h.2⟩
theorem QCN (a b:List TOp') (x d:List Int) :
  QP (a++b) (Qz (a++b) x).1 d =
   ((QP a (Qz a x).1 (QP b (Qz b (ZW a x)).1 d).2.1).1++(QP b (Qz b (ZW a x)).1 d).1,
    (QP a (Qz a x).1 (QP b (Qz b (ZW a x)).1 d).2.1).2.1,
    (QP a (Qz a x).1 (QP b (Qz b (ZW a x)).1 d).2.1).2.2||(QP b (Qz b (ZW a x)).1 d).2.2):=by
 have hl:=Qd2 a x
 have ht:((Qz a x).1.take a.length).length=a.length:=by simp;omega
 rw [Qtb]
 simp only
 rw [QlT a b _ _ d ht]
 have e:∀ d',QP a ((Qz a x).1.take a.length) d'=QP a (Qz a x).1 d':=fun d'=>by
  rw [← QPr a _ [ZW a x] d' ht,QAA]
 rw [e]
theorem Quy:∀ (a b:List (List Int)),(ZG a b).1.length=min a.length b.length
 | [],b=>by simp [ZG]
 | x::a,[]=>by simp [ZG]
 | x::a,y::b=>by simp [ZG,Quy a b]
theorem QwR:∀ {ops:List TOp'} {a b:List (List Int)},a.length=ops.length→b.length=ops.length→Z9 ops a=true→Z9 ops b=true→Z9 ops (ZG a b).1=true
 | [],a,b,h1,h2,h3,h4=>by
  have:a=[]:=List.eq_nil_of_length_eq_zero (by simpa using h1)
  subst this
  simp [ZG,Z9]
 | o::ops,[],b,h1,h2,h3,h4=>by simp at h1
 | o::ops,x::a,[],h1,h2,h3,h4=>by simp at h2
 | o::ops,x::a,y::b,h1,h2,h3,h4=>by
  simp only [Z9,Bool.and_eq_true,beq_iff_eq] at h3 h4
  simp only [ZG,Z9,Bool.and_eq_true,beq_iff_eq]
  refine ⟨?_,QwR (by simpa using h1) (by simpa using h2) h3.2 h4.2⟩
  rw [Qke];omega
end Go.Proofs.YtjbdljkhbglnhaaGreat.Am
namespace Go.Proofs.YtjbdljkhbglnhaaGreat.Am
open Go Sz
def QC {α:Type} [Sz α] (x:α):Prop:=sz x≤2147483648
def JO {α β:Type} [Sz α] [Sz β] (x:α) (y:β):Prop:=sz x+sz y≤2147483648
def p_st (st s m:Int):Prop:=-1000≤st∧st≤1000
def QkZ (st s m:Int) (_:Bool):Prop:=p_st st s m
@[simp] theorem Zn {α:Type} (v:List α) (e:α):List.take (v.length+1) (List.take v.length v++[e])=v++[e]:=by
 rw [List.take_length,List.take_of_length_le (by simp)]
@[simp] theorem QI8 {α:Type} (v xs:List α):List.take (v.length+xs.length) (List.take v.length v++xs)=v++xs:=by
 rw [List.take_length,List.take_of_length_le (by simp)]
theorem QbA {α:Type} {l:List α} {k:Nat} (h:k<l.length):∃ y q,l.drop k=y::q:=by
 cases hq:l.drop k with
 | nil=>have:=congrArg List.length hq;simp at this;omega
 | cons y q=>exact ⟨y,q,rfl⟩
theorem JQ {α:Type} {v:List α} {k:Nat} {x:α} (h:v.length=k):(v++[x]).length=k+1:=by simp [h]
theorem room {n:Nat} (h:n+1≤2147483648):(n=n∨n+1≤n)∧n+1≤big:=⟨.inl rfl,by rw [Zv];omega⟩
theorem sc1 {k:Nat} (h:k<9223372036854775807):w64 ((k:Int)+1)=((k+1:Nat):Int):=by rw [Qp (by omega) (by omega)];omega
theorem QLq (a b:Int):-4611686018427387904≤Za a*Za b∧Za a*Za b≤4611686018427387904:=by
 obtain ⟨h1,h2⟩:=QbB a
 obtain ⟨h3,h4⟩:=QbB b
 generalize Za a=x at *
 generalize Za b=y at *
 have hx:x.natAbs≤2147483647:=by omega
 have hy:y.natAbs≤2147483647:=by omega
 have h:=Nat.mul_le_mul hx hy
 rw [← Int.natAbs_mul] at h
 omega
theorem QDB (x:Int):(if 2147483647<(if x < -2147483647 then -2147483647 else x) then 2147483647 else (if x < -2147483647 then -2147483647 else x))=Za x:=by
 unfold Za iMin iMax;repeat' split
 all_goals omega
theorem idx {r R C:Int} (h1:0≤r) (h2:r<R) (h3:0≤C):0≤r*C∧r*C+C≤R*C∧(r+1)*C=r*C+C:=by
 have h4:(r+1)*C=r*C+C:=by rw [Int.add_mul,Int.one_mul]
 have h5:=Int.mul_le_mul_of_nonneg_right (show r+1≤R by omega) h3
 exact ⟨Int.mul_nonneg h1 h3,by omega,h4⟩
theorem Qio {m:TMat} (h:ZL m=true):1≤m.1∧m.1≤6∧1≤m.2.1∧m.2.1≤6∧(m.2.2.length:Int)=m.1*m.2.1∧m.1*m.2.1≤36∧Zo m.2.2=true:=by
 simp only [ZL,Bool.and_eq_true,QS,beq_iff_eq] at h
 have:=Qea h.1.1.1.1 h.1.1.1.2 h.1.1.2.1 h.1.1.2.2
 exact ⟨h.1.1.1.1,h.1.1.1.2,h.1.1.2.1,h.1.1.2.2,h.1.2,this.2,h.2⟩
theorem QKu {f:Nat→Bool} {k:Nat}:(List.range (k+1)).any f=((List.range k).any f||f k):=by rw [List.range_succ,List.any_append];simp
theorem Qxe {α:Type} {f:Nat→α} {k:Nat}:(List.range (k+1)).map f=(List.range k).map f++[f k]:=by rw [List.range_succ,List.map_append];rfl
theorem QdH {α:Type} {f:Nat→List α} {k:Nat}:(List.range (k+1)).flatMap f=(List.range k).flatMap f++f k:=by rw [List.range_succ,List.flatMap_append];simp
theorem Qmi {α:Type} {f:Nat→List α} {R:Nat} (n:Nat) (h:∀ k,k<n→(f k).length=R):((List.range n).flatMap f).length=n*R:=by
 induction n with
 | zero=>simp
 | succ n ih=>rw [QdH,List.length_append,ih (fun k hk=>h k (by omega)),h n (by omega),Nat.add_mul];omega
theorem Qop {α:Type} {f:Nat→List α} {R:Nat} {k:Nat}:∀ (n:Nat),k<n→(∀ k,k<n→(f k).length=R)→(((List.range n).flatMap f).drop (k*R)).take R=f k
 | 0,hk,_=>by omega
 | n+1,hk,h=>by
  have hl:=Qmi n (fun k hk=>h k (by omega))
  rw [QdH]
  by_cases e:k=n
  ·subst e
   rw [List.drop_append,List.drop_eq_nil_of_le (by omega),hl,Nat.sub_self,List.drop_zero,List.nil_append,List.take_of_length_le (by rw [h k (by omega)];exact Nat.le_refl _)]
  ·have ih:=Qop (k:=k) n (by omega) (fun k hk=>h k (by omega))
   have:(k+1)*R≤n*R:=Nat.mul_le_mul_right R (show k+1≤n by omega)
   rw [Nat.add_mul,Nat.one_mul] at this
   rw [List.drop_append_of_le_length (by omega),List.take_append_of_le_length (by rw [List.length_drop,hl];omega),ih]
theorem QjO (m:TMat) (k:Int):(Ja m k).length=m.1.toNat:=by simp [Ja]
theorem QL7 {m:TMat} (h:ZL m=true) {k:Nat} (hk:(k:Int)<m.2.1):Zo (Ja m k)=true:=by
 obtain ⟨h1,h2,h3,h4,h5,h6,h7⟩:=Qio h
 unfold Zo Ja
 rw [List.all_eq_true]
 intro x hx
 obtain ⟨i,hi,rfl⟩:=List.mem_map.1 hx
 have hi:=List.mem_range.1 hi
 have hd:=idx (r:=i) (R:=m.1) (C:=m.2.1) (by omega) (by omega) (by omega)
 unfold Zo at h7
 generalize (i:Int)*m.2.1=z at *
 generalize m.1*m.2.1=y at *
 exact List.all_eq_true.1 h7 _ (JH (show Int.toNat (z+k)<m.2.2.length by omega) 0)
theorem QF8 {m:TMat} (h:ZL m=true):ZL (YF m)=true∧(YF m).1=m.2.1∧(YF m).2.1=m.1∧∀ k:Nat,(k:Int)<m.2.1→QaD (YF m) k=Ja m k:=by
 obtain ⟨h1,h2,h3,h4,h5,h6,h7⟩:=Qio h
 have ht:YF m=(m.2.1,m.1,(List.range m.2.1.toNat).flatMap fun k:Nat=>Ja m k):=by unfold YF;rw [if_pos h]
 have hl:=Qmi (f:=fun k:Nat=>Ja m k) m.2.1.toNat (fun k hk=>QjO m k)
 have hn:((m.2.1.toNat*m.1.toNat:Nat):Int)=m.2.1*m.1:=by rw [Int.natCast_mul,Int.toNat_of_nonneg (by omega),Int.toNat_of_nonneg (by omega)]
 rw [ht]
 refine ⟨?_,rfl,rfl,fun k hk=>?_⟩
 ·simp only [ZL,Bool.and_eq_true,QS,beq_iff_eq]
  refine ⟨⟨⟨⟨h3,h4⟩,h1,h2⟩,by rw [hl,hn]⟩,?_⟩
  unfold Zo
  rw [List.all_eq_true]
  intro x hx
  obtain ⟨k,hk,hx⟩:=List.mem_flatMap.1 hx
  have:=QL7 h (k:=k) (by have:=List.mem_range.1 hk;omega)
  unfold Zo at this
  exact List.all_eq_true.1 this x hx
 ·have hs:=Qop (f:=fun k:Nat=>Ja m k) (k:=k) m.2.1.toNat (by omega) (fun k hk=>QjO m k)
  have hd:=idx (r:=k) (R:=m.2.1) (C:=m.1) (by omega) hk (by omega)
  have e1:Int.toNat ((k:Int)*m.1)=k*m.1.toNat:=by
   have:((k*m.1.toNat:Nat):Int)=(k:Int)*m.1:=by rw [Int.natCast_mul,Int.toNat_of_nonneg (by omega)]
   omega
  unfold QaD slice
  simp only
  rw [show Int.toNat (((k:Int)+1)*m.1)-Int.toNat ((k:Int)*m.1)=m.1.toNat by omega,e1]
  exact hs
theorem QM5 {m:TMat} {d:List Int} (h:ZL m=true) (hd:Qs d m.1=true):ZF (YF m) d=Z3 m d:=by
 obtain ⟨h1,h2,h3,h4⟩:=QF8 h
 unfold ZF Z3
 rw [if_pos (by rw [h1,h3,hd];rfl),if_pos (by rw [h,hd];rfl),h2]
 have e:∀ i,i∈List.range m.2.1.toNat→QaD (YF m) (i:Nat)=Ja m (i:Nat):=fun i hi=>h4 i (by have:=List.mem_range.1 hi;omega)
 refine Prod.ext (List.map_congr_left fun i hi=>by rw [e i hi]) ?_
 show (List.range m.2.1.toNat).any _=(List.range m.2.1.toNat).any _
 rw [Bool.eq_iff_iff,List.any_eq_true,List.any_eq_true]
 constructor
 ·rintro ⟨i,hi,h⟩;exact ⟨i,hi,by rw [← e i hi];exact h⟩
 ·rintro ⟨i,hi,h⟩;exact ⟨i,hi,by rw [e i hi];exact h⟩
theorem QHN {m:TMat} {d:List Int} (h:¬ (ZL m=true∧Qs d m.1=true)):Z3 m d=([],false):=by unfold Z3;rw [if_neg (by simpa using h)]
theorem QMs {m:TMat} {d:List Int} (h:¬ (ZL m=true∧Qs d m.2.1=true)):ZF m d=([],false):=by unfold ZF;rw [if_neg (by simpa using h)]
theorem Qv3 {o:TOp'} (h:Q8 o=true) (h4:o.1=4):0<o.2.2.2.length:=by
 have:=Qdc h
 rw [if_neg (by omega),if_neg (by omega),if_pos h4] at this
 omega
theorem QIa {o:TOp'} {x:List Int} (h:¬ (Q8 o=true∧Qs x o.2.1=true)):YZ o x=([],false):=by unfold YZ;rw [if_neg (by simpa using h)]
theorem QCH {o:TOp'} {x d:List Int} (h:¬ ((Q8 o=true∧Qs x o.2.1=true)∧Qs d o.2.2.1=true)):YK o x d=([],[],false):=by unfold YK;rw [if_neg (by simpa using h)]
theorem Qsb {o:TOp'} (h:Q8 o=true):1≤o.1∧o.1≤5:=by simp only [Q8,Bool.and_eq_true,QS] at h;exact h.1.1.1.1.1
theorem QdT {α:Type} (v:List α):List.take (id v).length (List.drop 0 (id v))=v:=by simp
theorem QdP {α:Type} (v:List α):List.take v.length (List.drop 0 v)=v:=by simp
theorem Qo3 {α:Type} {l:List α} {k:Nat} (h:l.length≤k):l.drop k=[]:=List.drop_eq_nil_of_le h
theorem QJQ (n:Nat) (x:Int):List.take n (List.drop 0 (List.replicate n x))=List.replicate n x:=by rw [List.drop_zero,List.take_of_length_le (by simp)]
theorem QbX {α:Type} [Sz α] {l:List α} {A:Int→List α→Prop} {Q:List α→Prop} (hs:sz l≤2147483648)
  (hA:∀ (k:Nat) (x:α) (v:List α),k<l.length→l.length≤2147483648→(∀ d,gtd d l k=x)→v.length=k→sz x≤2147483648→A ((k+1:Nat):Int) (v++[x])→A (k:Nat) v)
  (hE:Q l→A (l.length:Nat) l) (hq:Q l):A 0 []:=by
 have hl:=QaS l
 refine Zt l (fun r k=>∀ v,v.length=k→v++r=l→A k v) ?_ ?_ [] rfl rfl
 ·intro v hv he
  rw [List.append_nil] at he
  subst he
  exact hE hq
 ·intro k x r hk hlt hg ih v hv he
  have hx:=Qpy hk
  exact hA k x v hlt (by omega) hg hv (by omega) (ih _ (JQ hv) (by rw [← he];simp))
theorem Qna {o:TOp'} (h:Q8 o=true):o.2.2.2.length≤36:=by
 have h1:=Qdc h
 have h2:=QbR h
 have h3:=Qea h2.1 h2.2.1 h2.2.2.1 h2.2.2.2
 split at h1
 ·omega
 ·split at h1
  ·omega
  ·split at h1 <;> omega
theorem Qmy {m:Q6} (h:QN m=true) {k:Nat} (hk:k<m.length):Q8 (gtd dOp m k)=true:=by
 simp only [QN,Bool.and_eq_true] at h
 exact (QgF h.2 k _ (Y6 hk dOp)).1
theorem Qou {α:Type} (d:α) {v:List α} {k:Nat} (h:v.length=k+1):v.take k++[gtd d v k]=v:=by
 have h1:gtd d v k=v[k]'(by omega):=Qcg (List.getElem?_eq_getElem (by omega)) d
 rw [h1,List.take_append_getElem (by omega),List.take_of_length_le (by omega)]
theorem QBj {α:Type} (d:α) {v:List α} {n:Nat} (y:α) (h:v.length=n):gtd d (v++[y]) n=y:=by
 refine Qcg ?_ d
 rw [List.getElem?_append_right (by omega)];simp [h]
theorem QMV {α:Type} {v:List α} {n:Nat} (y:α) (h:v.length=n):(v++[y]).take n=v:=by
 rw [List.take_append_of_le_length (by omega),List.take_of_length_le (by omega)]
theorem QCP {α:Type} (n:Nat) (e g:α) (l:List α):(List.replicate (n+1) e++l).set n g=List.replicate n e++g::l:=by
 rw [List.replicate_succ',List.append_assoc,List.set_append_right _ _ (by simp)]
 simp
theorem QjQ {m:Q6} {x:List Int} (h1:QN m=true) (h2:Qs x (QZ m)=true):Jn m x=Qz m x:=by unfold Jn;rw [if_pos (by rw [h1,h2];rfl)]
theorem Qvh:∀ {ops:List TOp'} {rows:List (List Int)},rows.length=ops.length→(∀ o,o∈ops→Q8 o=true)→Z9 ops rows=true→sz rows≤37*ops.length
 | [],[],_,_,_=>by simp
 | [],r::rs,h,_,_=>by simp at h
 | o::os,[],h,_,_=>by simp at h
 | o::os,r::rs,h,ho,hg=>by
  simp only [Z9,Bool.and_eq_true,beq_iff_eq] at hg
  have h1:=Qna (ho o List.mem_cons_self)
  have h2:=Qvh (by simpa using h) (fun p hp=>ho p (List.mem_cons_of_mem _ hp)) hg.2
  have h3:=Jb r
  rw [Jw,List.length_cons];omega
theorem Qsz {m:Q6} (h:QN m=true):∀ o,o∈m→Q8 o=true:=by
 intro o ho
 obtain ⟨i,hi⟩:=List.getElem?_of_mem ho
 simp only [QN,Bool.and_eq_true] at h
 exact (QgF h.2 i o hi).1
theorem QLz {m:Q6} (h:QN m=true):(Yl m).1.length=m.length∧Z9 m (Yl m).1=true:=by
 unfold Yl
 rw [if_pos h]
 simp only [List.length_map,true_and]
 clear h
 induction m with
 | nil=>rfl
 | cons o l ih=>simp [Z9,ih]
theorem Qvm {m:Q6} (h:QN m=true) {a:Zi} (h1:a.1.length=m.length∧Z9 m a.1=true):sz a≤296:=by
 have:=Qvh h1.1 (Qsz h) h1.2
 have:=YY h
 simp only [Yx,Yi,Qbo];omega
end Go.Proofs.YtjbdljkhbglnhaaGreat.Am

