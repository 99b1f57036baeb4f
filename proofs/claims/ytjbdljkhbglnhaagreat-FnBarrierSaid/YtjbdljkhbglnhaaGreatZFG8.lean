/- -/
import Derived.Test.YtjbdljkhbglnhaaGreatZFG7
set_option linter.all false
namespace Go.Proofs.YtjbdljkhbglnhaaGreat.Am
open Go Sz
def tm (ds n M s:Int) (i:TIns):Int :=
 let F:=s+2*i.2
 let B:=(if ds=2 then 2*n-1 else 2*n-1+2*M)-s+2*i.2
 if i.1=1 then 8*F else if i.1=2 then 8*F+1 else if i.1=3 then 8*F+2
 else if i.1=4 then 8*B else if i.1=5 then 8*B+1 else if i.1=6 then 8*B+2 else if i.1=7 then 8*B+3 else 1000000
def rcOf (f:Nat) (k1:Int):Nat:=if k1=1 then f+1 else f
def scOf (f:Nat) (k1:Int):Nat:=if k1=2 then f-1 else f
def rgOf (n s:Int) (g:Nat) (k1:Int):Nat:=if k1=4∨(k1=5∧s<n-1) then g+1 else g
def sgQ (g:Nat) (k1:Int):Nat:=if k1=6 then g-1 else g
def QiY (ds n M s:Int) (rd:Bool) (f g:Nat) (k1:Int) (i:TIns) (last:Bool):Bool :=
 decide (g≤f∧(f:Int)≤M∧1≤i.1∧i.1≤8∧0≤i.2∧i.2<M∧(i.1=8↔last=true)∧i≠(0,0)) &&
 decide (i.1=1→0<s∧i.2=f∧k1≠1) &&
 decide (i.1=2→i.2=f∧(0<s→k1=1)) &&
 decide (i.1=3→s<n-1∧i.2=(f:Int)-1∧k1=2) &&
 decide (i.1=4→s<n-1∧i.2=g) &&
 decide (i.1=5→rd=true∧i.2=g∧g<f∧(s<n-1→k1=4)) &&
 decide (i.1=6→i.2=g∧g<f∧(rd=true→k1=5)∧(rd=false→s<n-1→k1=4)) &&
 decide (i.1=7→0<s∧i.2=(g:Int)-1∧k1=6) &&
 decide (i.1=8→(f:Int)=M∧(g:Int)=M∧k1≠0) &&
 decide (k1=1→i.1=2)&&decide (k1=2→s<n-1→i.1=3)&&decide (k1=4→i.1=5∨i.1=6)&&decide (k1=5→i.1=6)&&decide (k1=6→0<s→i.1=7) &&
 decide (k1=5→rd=true)&&decide (k1=6→1≤g)&&decide (k1=2→1≤f)&&decide (k1≠8)&&decide (k1=4→s<n-1)&&decide (k1=1→0<s) &&
 decide (k1=4∨k1=5→g<f)&&decide (k1=1→(f:Int)<M) &&
 decide (s<n-1→(scOf f k1:Int)<M→tm ds n M s i≤tm ds n M s (3,(scOf f k1:Int))) &&
 decide (0<s→(rcOf f k1:Int)<M→tm ds n M s i≤tm ds n M s (1,(rcOf f k1:Int))) &&
 decide (s<n-1→(rgOf n s g k1:Int)<M→tm ds n M s i≤tm ds n M s (4,(rgOf n s g k1:Int))) &&
 decide (0<s→(sgQ g k1:Int)<M→tm ds n M s i≤tm ds n M s (7,(sgQ g k1:Int))) &&
 decide (ds=2→(f:Int)-g≤n-s)&&decide (ds=2→i.1=2→(f:Int)-g<n-s)
def Qql (M:Int) (f g:Nat) (k1:Int):Bool:=decide ((f:Int)=M∧(g:Int)=M∧k1=8)
def kf (i:TIns):Nat:=if i.1=2 then 1 else 0
def kg (i:TIns):Nat:=if i.1=6 then 1 else 0
def Qdb (ds n M s:Int) (rd:Bool):List TIns→Nat→Nat→Int→Bool
 | [],f,g,k1=>Qql M f g k1
 | i::r,f,g,k1=>QiY ds n M s rd f g k1 i r.isEmpty&&Qdb ds n M s rd r (f+kf i) (g+kg i) i.1
def Qzw:Bool:=[1,2].all fun ds:Int=>[1,2,3,4].all fun n:Int=>[0,1,2,3].all fun s:Int=>[1,2,3,4,5].all fun M:Int=>[true,false].all fun rd =>
 !(decide (s<n))||Qdb ds n M s rd (ZL ds n s M rd) 0 0 0
set_option maxRecDepth 100000 in
theorem QVe:Qzw=true:=by kernel_rfl
theorem QUW {ds n s M:Int} (rd:Bool) (h1:1≤ds) (h2:ds≤2) (h3:n≤4) (h4:0≤s) (h5:s<n) (h6:1≤M) (h7:M≤5):Qdb ds n M s rd (ZL ds n s M rd) 0 0 0=true:=by
 have h:=QVe
 unfold Qzw at h
 rw [List.all_eq_true] at h
 have h:=h ds (by have:ds=1∨ds=2:=(by omega);rcases this with rfl | rfl <;> simp)
 rw [List.all_eq_true] at h
 have h:=h n (by have:n=1∨n=2∨n=3∨n=4:=(by omega);rcases this with rfl | rfl | rfl | rfl <;> simp)
 rw [List.all_eq_true] at h
 have h:=h s (by have:s=0∨s=1∨s=2∨s=3:=(by omega);rcases this with rfl | rfl | rfl | rfl <;> simp)
 rw [List.all_eq_true] at h
 have h:=h M (by have:M=1∨M=2∨M=3∨M=4∨M=5:=(by omega);rcases this with rfl | rfl | rfl | rfl | rfl <;> simp)
 rw [List.all_eq_true] at h
 have h:=h rd (by cases rd <;> simp)
 simpa [h5] using h
def cf (l:List TIns):Nat:=(l.map kf).sum
def cg (l:List TIns):Nat:=(l.map kg).sum
def Jl (l:List TIns) (k:Nat):Int:=if k=0 then 0 else (gtd dIns l (k-1)).1
theorem Qm7 {ds n M s:Int} {rd:Bool}:∀ (l:List TIns) (f g:Nat) (k1:Int),Qdb ds n M s rd l f g k1=true→∀ k,k≤l.length →
  (∀ i,l[k]? = some i→QiY ds n M s rd (f+cf (l.take k)) (g+cg (l.take k)) (if k=0 then k1 else Jl l k) i (decide (k+1=l.length))=true) ∧
  (k=l.length→Qql M (f+cf (l.take k)) (g+cg (l.take k)) (if k=0 then k1 else Jl l k)=true)
 | [],f,g,k1,h,k,hk=>by
  have:k=0:=by simpa using hk
  subst this
  simp only [Qdb] at h
  exact ⟨fun i hi=>by simp at hi,fun _=>by simpa [cf,cg] using h⟩
 | i::r,f,g,k1,h,k,hk=>by
  simp only [Qdb,Bool.and_eq_true] at h
  cases k with
  | zero =>
   refine ⟨fun j hj=>?_,fun h0=>by simp at h0⟩
   simp at hj
   subst hj
   have:r.isEmpty=decide (0+1=(i::r).length):=by cases r <;> simp
   rw [← this]
   simpa [cf,cg] using h.1
  | succ k =>
   have ih:=Qm7 r (f+kf i) (g+kg i) i.1 h.2 k (by simpa using hk)
   have e1:f+cf ((i::r).take (k+1))=f+kf i+cf (r.take k):=by simp [cf];omega
   have e2:g+cg ((i::r).take (k+1))=g+kg i+cg (r.take k):=by simp [cg];omega
   have e3:(if k=0 then i.1 else Jl r k)=Jl (i::r) (k+1):=by
    unfold Jl
    cases k with
    | zero=>simp [gtd]
    | succ k=>simp [gtd]
   rw [e1,e2,if_neg (by omega),← e3]
   refine ⟨fun j hj=>?_,fun h0=>ih.2 (by simpa using h0)⟩
   have:=ih.1 j (by simpa using hj)
   rw [show decide (k+1+1=(i::r).length)=decide (k+1=r.length) by simp]
   exact this
end Go.Proofs.YtjbdljkhbglnhaaGreat.Am
namespace Go.Proofs.YtjbdljkhbglnhaaGreat.Am
open Go Sz
theorem Qav (x:Int):-2147483647≤QW x∧QW x≤2147483647:=by unfold QW iMin iMax;split <;> split <;> omega
theorem QiR {x:Int}:Zc x=true↔-2147483647≤x∧x≤2147483647:=by simp [Zc]
theorem Q16 (x:Int):Zc (QW x)=true:=QiR.2 (Qav x)
theorem QsN {x:Int} (h:Zc x=true):QW x=x:=by
 have:=QiR.1 h
 unfold QW iMin iMax;split <;> split <;> omega
theorem QlI (x:Int):Zc (YI x).1=true:=Q16 x
theorem Qn3 (a b:Int):Zc (Q9 a b).1=true:=QlI _
theorem Q3w (a b:Int):Zc (JK a b).1=true:=QlI _
theorem QLn (a b:Int):Zc (Zq a b).1=true:=QlI _
theorem QYW (a:Int):Zc (QaH a)=true:=by
 have:=Qav a
 rw [QiR];unfold QaH iMax;split <;> omega
theorem QJ1 {a:Int} (h:Zc a=true):Q9 a 0=(a,false):=by
 have e:QW 0=0:=rfl
 unfold Q9 YI
 rw [e,Int.add_zero,QsN h,QsN h,h];rfl
theorem QBt {x:Int} {l:List Int}:ZE (x::l)=(Zc x&&ZE l):=rfl
theorem Z5 {v:List Int}:QN v=true↔(1≤v.length∧v.length≤6)∧ZE v=true:=by
 simp only [QN,Bool.and_eq_true,QV]
 constructor
 ·rintro ⟨h1,h2⟩;exact ⟨by omega,h2⟩
 ·rintro ⟨h1,h2⟩;exact ⟨by omega,h2⟩
theorem Y0 {v:List Int} {n:Int}:Qt v n=true↔QN v=true∧(v.length:Int)=n:=by simp [Qt]
theorem QpX (f:Int→Int→Int × Bool):∀ a b:List Int,(vz f a b).1.length=min a.length b.length
 | [],b=>by simp [vz]
 | a::aa,[]=>by simp [vz]
 | a::aa,b::bb=>by simp [vz,QpX f aa bb]
theorem Qyj {f:Int→Int→Int × Bool} (hf:∀ a b,Zc (f a b).1=true):∀ a b:List Int,ZE (vz f a b).1=true
 | [],b=>by simp [vz,ZE]
 | a::aa,[]=>by simp [vz,ZE]
 | a::aa,b::bb=>by simp only [vz,QBt,hf,Qyj hf aa bb,Bool.and_self]
theorem QxS (f:Int→Int × Bool):∀ a:List Int,(v1 f a).1.length=a.length
 | []=>rfl
 | a::aa=>by simp [v1,QxS f aa]
theorem Qsu {f:Int→Int × Bool} (hf:∀ a,Zc (f a).1=true):∀ a:List Int,ZE (v1 f a).1=true
 | []=>rfl
 | a::aa=>by simp only [v1,QBt,hf,Qsu hf aa,Bool.and_self]
theorem QuN:∀ (a b:List Int) (z:Int),Zc z=true→Zc (Jf a b z).1=true
 | [],b,z,h=>by simpa [Jf] using h
 | a::aa,[],z,h=>by simpa [Jf] using h
 | a::aa,b::bb,z,h=>by rw [Jf];exact QuN aa bb _ (Qn3 _ _)
theorem QrS (a b:List Int):Zc (Q3 a b).1=true:=by
 unfold Q3;split
 ·exact QuN _ _ _ rfl
 ·rfl
theorem JZ {a b:List Int}:ZN a b=true↔QN a=true∧QN b=true∧b.length=a.length:=by
 unfold ZN;rw [Bool.and_eq_true,Y0]
 constructor <;> (intro h;exact ⟨h.1,h.2.1,by omega⟩)
theorem QAX {f:Int→Int→Int × Bool} (hf:∀ a b,Zc (f a b).1=true) {a b:List Int} (h:ZN a b=true):Qt (vz f a b).1 a.length=true:=by
 obtain ⟨h1,h2,h3⟩:=JZ.1 h
 have:=(Z5.1 h1).1
 have hl:=QpX f a b
 exact Y0.2 ⟨Z5.2 ⟨by omega,Qyj hf a b⟩,by omega⟩
theorem Qru {a b:List Int} (h:ZN a b=true):Qt (Zn a b).1 a.length=true:=by unfold Zn;rw [if_pos h];exact QAX Qn3 h
theorem QLF {a b:List Int} (h:ZN a b=true):Qt (Zi a b).1 a.length=true:=by unfold Zi;rw [if_pos h];exact QAX Q3w h
theorem Ql3 {a b:List Int} {n:Int} (h1:Qt a n=true) (h2:Qt b n=true):ZN a b=true:=by
 obtain ⟨h3,h4⟩:=Y0.1 h1
 obtain ⟨h5,h6⟩:=Y0.1 h2
 exact JZ.2 ⟨h3,h5,by omega⟩
theorem Qyb {c:Int} {a:List Int} (hc:Zc c=true) (h:QN a=true):Qt (ZD c a).1 a.length=true:=by
 unfold ZD
 rw [hc,h,Bool.and_self,if_pos rfl]
 have:=(Z5.1 h).1
 have hl:=QxS (Zq c) a
 exact Y0.2 ⟨Z5.2 ⟨by omega,Qsu (QLn c) a⟩,by omega⟩
theorem QWE {α:Type} {f:α→Int} (hf:∀ a,Zc (f a)=true) (l:List α):ZE (l.map f)=true:=by
 unfold ZE;rw [List.all_eq_true];intro x hx
 obtain ⟨a,_,rfl⟩:=List.mem_map.1 hx
 exact hf a
theorem QrK {α:Type} {f:α→Int} (hf:∀ a,Zc (f a)=true) {l:List α} (h1:1≤l.length) (h2:l.length≤6):Qt (l.map f) l.length=true :=
 Y0.2 ⟨Z5.2 ⟨by simp;omega,QWE hf l⟩,by simp⟩
theorem QSc {a:List Int} (h:QN a=true):Qt (Yr a) a.length=true:=by
 unfold Yr;rw [if_pos h]
 have:=(Z5.1 h).1
 exact QrK QYW (by omega) (by omega)
theorem QEG {m:TMat} {x:List Int} (h:(ZA m&&Qt x m.2.1)=true):Qt (Zo m x).1 m.1=true:=by
 unfold Zo;rw [if_pos h]
 have h1:1≤m.1∧m.1≤6:=by simp only [ZA,Bool.and_eq_true,QV] at h;omega
 have:=QrK (f:=fun i:Nat=>(Q3 (Je m i) x).1) (fun i=>QrS _ _) (l:=List.range m.1.toNat) (by simp;omega) (by simp;omega)
 rw [List.length_range,show ((m.1.toNat:Nat):Int)=m.1 by omega] at this
 exact this
theorem QtE {m:TMat} {x:List Int} (h:(ZA m&&Qt x m.1)=true):Qt (Zw m x).1 m.2.1=true:=by
 unfold Zw;rw [if_pos h]
 have h1:1≤m.2.1∧m.2.1≤6:=by simp only [ZA,Bool.and_eq_true,QV] at h;omega
 have:=QrK (f:=fun i:Nat=>(Q3 (Yd m i) x).1) (fun i=>QrS _ _) (l:=List.range m.2.1.toNat) (by simp;omega) (by simp;omega)
 rw [List.length_range,show ((m.2.1.toNat:Nat):Int)=m.2.1 by omega] at this
 exact this
theorem QJ9 {x d:List Int} (h:ZN x d=true):Qt (Yv x d) x.length=true:=by
 unfold Yv;rw [if_pos h]
 obtain ⟨h1,h2,h3⟩:=JZ.1 h
 have hl:=(Z5.1 h1).1
 have hf:=(Z5.1 h2).2
 refine Y0.2 ⟨Z5.2 ⟨by simp;omega,?_⟩,by simp;omega⟩
 unfold ZE at hf ⊢
 rw [List.all_eq_true] at hf ⊢
 intro y hy
 rw [List.mem_iff_getElem?] at hy
 obtain ⟨i,hi⟩:=hy
 rw [List.getElem?_zipWith] at hi
 split at hi
 ·rename_i a b ha hb
  cases hi
  split
  ·exact hf b (List.mem_of_getElem? hb)
  ·rfl
 ·cases hi
theorem Qup {d x:List Int} (hd:QN d=true) (hx:QN x=true):(Zm d x).1.2.2.length=d.length*x.length:=by
 unfold Zm;rw [hd,hx,Bool.and_self,if_pos rfl]
 simp only
 generalize d=l
 clear hd
 induction l with
 | nil=>simp
 | cons a l ih=>rw [List.flatMap_cons,List.length_append,ih];simp [Nat.add_mul];omega
theorem QeM {o:TOp'} (h:Zf o=true):(o.2.2.2.length:Int)=(if o.1=1∨o.1=5 then o.2.1*o.2.2.1 else if o.1=2 then o.2.1 else if o.1=4 then 1 else 0):=by
 have h1:=QcC h
 simp only [Zf,Bool.and_eq_true,beq_iff_eq] at h
 rw [h.1.2]
 unfold Yp
 rw [show m_in o.2.1 1 6=true from QV.2 ⟨h1.1,h1.2.1⟩,show m_in o.2.2.1 1 6=true from QV.2 ⟨h1.2.2.1,h1.2.2.2⟩]
 rfl
theorem Qiw {o:TOp'} (h:Zf o=true):ZE o.2.2.2=true:=by simp only [Zf,Bool.and_eq_true] at h;exact h.2
theorem opEq {o:TOp'} (h:Zf o=true) (h1:o.1≠1):o.2.1=o.2.2.1:=by
 simp only [Zf,Bool.and_eq_true,Bool.or_eq_true,beq_iff_eq] at h
 rcases h.1.1.2 with h | h
 ·exact absurd h h1
 ·exact h
theorem QkQ {o:TOp'} (h:Zf o=true) (h1:o.1=1∨o.1=5):ZA (Q5 o)=true:=by
 have h2:=QcC h
 have h3:=QeM h
 rw [if_pos h1] at h3
 simp only [ZA,Q5,Bool.and_eq_true,QV,beq_iff_eq]
 refine ⟨⟨⟨⟨by omega,by omega⟩,by omega,by omega⟩,?_⟩,Qiw h⟩
 rw [h3,Int.mul_comm]
theorem QqT {o:TOp'} {x:List Int} (ho:Zf o=true) (hx:Qt x o.2.1=true):Qt (YJ o x).1 o.2.2.1=true:=by
 have hx':=Y0.1 hx
 unfold YJ
 rw [ho,hx,Bool.and_self,if_pos rfl]
 split
 ·rename_i h1
  exact QEG (m:=Q5 o) (by rw [QkQ ho (.inl h1)];simpa [Q5] using hx)
 ·rename_i h1
  have he:=opEq ho h1
  rw [← he]
  split
  ·rename_i h2
   have h3:=QeM ho
   rw [if_neg (by omega),if_pos h2] at h3
   have h4:=QcC ho
   have hp:ZN x o.2.2.2=true:=JZ.2 ⟨hx'.1,Z5.2 ⟨by omega,Qiw ho⟩,by omega⟩
   rw [← hx'.2]
   exact Qru hp
  ·split
   ·rename_i h2 h3
    have h4:=QeM ho
    rw [if_neg (by omega),if_neg h2,if_pos h3] at h4
    have hf:Zc (gtd 0 o.2.2.2 0)=true:=by
     have:=Qiw ho
     unfold ZE at this
     exact List.all_eq_true.1 this _ (Jh (by omega) 0)
    rw [← hx'.2]
    exact Qyb hf hx'.1
   ·split
    ·rename_i h5
     have hm:=QkQ ho (.inr h5)
     have hy:Qt (Zo (Q5 o) x).1 o.2.2.1=true:=QEG (m:=Q5 o) (by rw [hm];simpa [Q5] using hx)
     rw [← he] at hy
     have:=Qru (Ql3 hx hy)
     rwa [hx'.2] at this
    ·have:=QSc hx'.1
     rwa [hx'.2] at this
theorem QSY {o:TOp'} {x d:List Int} (ho:Zf o=true) (hx:Qt x o.2.1=true) (hd:Qt d o.2.2.1=true) :
  Qt (Yt o x d).1 o.2.1=true∧(Yt o x d).2.1.length=o.2.2.2.length:=by
 have hx':=Y0.1 hx
 have hd':=Y0.1 hd
 have hs:=QeM ho
 unfold Yt
 rw [ho,hx,hd,Bool.and_self,Bool.and_self,if_pos rfl]
 split
 ·rename_i h1
  rw [if_pos (.inl h1)] at hs
  refine ⟨QtE (m:=Q5 o) (by rw [QkQ ho (.inl h1)];simpa [Q5] using hd),?_⟩
  have:=Qup hd'.1 hx'.1
  show (Zm d x).1.2.2.length=_
  rw [this]
  have:((d.length*x.length:Nat):Int)=o.2.1*o.2.2.1:=by rw [Int.natCast_mul,hd'.2,hx'.2,Int.mul_comm]
  omega
 ·rename_i h1
  have he:=opEq ho h1
  split
  ·rename_i h2
   rw [if_neg (by omega),if_pos h2] at hs
   refine ⟨by rw [he];exact hd,?_⟩
   show d.length=_
   omega
  ·split
   ·rename_i h2 h3
    rw [if_neg (by omega),if_neg h2,if_pos h3] at hs
    have hf:Zc (gtd 0 o.2.2.2 0)=true:=by
     have:=Qiw ho
     unfold ZE at this
     exact List.all_eq_true.1 this _ (Jh (by omega) 0)
    refine ⟨?_,?_⟩
    ·have:=Qyb hf hd'.1
     rw [hd'.2,← he] at this
     exact this
    ·show [(Q3 d x).1].length=_
     simp;omega
   ·split
    ·rename_i h2 h3 h5
     rw [if_pos (.inr h5)] at hs
     have hm:=QkQ ho (.inr h5)
     have hy:Qt (Zw (Q5 o) d).1 o.2.1=true:=QtE (m:=Q5 o) (by rw [hm];simpa [Q5] using hd)
     refine ⟨?_,?_⟩
     ·rw [he] at hy
      have:=Qru (Ql3 hd hy)
      rw [hd'.2,← he] at this
      exact this
     ·have:=Qup hd'.1 hx'.1
      show (Zm d x).1.2.2.length=_
      rw [this]
      have:((d.length*x.length:Nat):Int)=o.2.1*o.2.2.1:=by rw [Int.natCast_mul,hd'.2,hx'.2,Int.mul_comm]
      omega
    ·rename_i h2 h3 h5
     rw [if_neg (by omega),if_neg h2,if_neg h3] at hs
     have hp:ZN x d=true:=JZ.2 ⟨hx'.1,hd'.1,by omega⟩
     refine ⟨?_,by simp;omega⟩
     have:=QJ9 hp
     rw [hx'.2] at this
     exact this
theorem Qdp:∀ (ops:List TOp') (x:List Int),(QI ops x).1.length=ops.length+1
 | [],x=>rfl
 | o::r,x=>by simp [QI,Qdp r]
def Yg (ops:List TOp') (x:List Int):List Int:=gtd [] (QI ops x).1 ops.length
theorem Qky (x:List Int):Yg [] x=x:=rfl
theorem Qf6 (o:TOp') (r:List TOp') (x:List Int):Yg (o::r) x=Yg r (YJ o x).1:=by
 unfold Yg;rw [QI];simp [gtd]
theorem QGw:∀ (a b:List TOp') (x:List Int),QI (a++b) x=((QI a x).1.take a.length++(QI b (Yg a x)).1,(QI a x).2||(QI b (Yg a x)).2)
 | [],b,x=>by simp [QI,Qky]
 | o::a,b,x=>by
  rw [List.cons_append,QI,QGw a b,Qf6,QI]
  simp [Bool.or_assoc]
theorem QOG (a b:List TOp') (x:List Int):Yg (a++b) x=Yg b (Yg a x):=by
 induction a generalizing x with
 | nil=>rfl
 | cons o a ih=>rw [List.cons_append,Qf6,Qf6,ih]
theorem QUc (ops:List TOp') (x:List Int):gtd [] (QI ops x).1 0=x:=by cases ops <;> simp [QI,gtd]
theorem QYr (ops:List TOp') (x:List Int):(QI ops x).1.take ops.length++[Yg ops x]=(QI ops x).1:=by
 unfold Yg
 have hl:=Qdp ops x
 have:gtd [] (QI ops x).1 ops.length=(QI ops x).1[ops.length]'(by omega):=QeO (List.getElem?_eq_getElem (by omega)) []
 rw [this,List.take_append_getElem (by omega),List.take_of_length_le (by omega)]
theorem Qlb:∀ (ops:List TOp') (rows:List (List Int)) (d:List Int),ops.length≤rows.length→(QS ops rows d).1.length=ops.length
 | [],rows,d,_=>by simp [QS]
 | o::os,[],d,h=>by simp at h
 | o::os,r::rs,d,h=>by simp [QS,Qlb os rs d (by simpa using h)]
theorem QqA:∀ (a b:List TOp') (ra rb:List (List Int)) (d:List Int),ra.length=a.length →
  QS (a++b) (ra++rb) d=((QS a ra (QS b rb d).2.1).1++(QS b rb d).1,(QS a ra (QS b rb d).2.1).2.1,(QS a ra (QS b rb d).2.1).2.2||(QS b rb d).2.2)
 | [],b,ra,rb,d,h=>by
  have:ra=[]:=List.eq_nil_of_length_eq_zero (by simpa using h)
  subst this
  simp [QS]
 | o::a,b,[],rb,d,h=>by simp at h
 | o::a,b,r::ra,rb,d,h=>by
  rw [List.cons_append,List.cons_append,QS,QqA a b ra rb d (by simpa using h),QS]
  simp [Bool.or_assoc]
theorem QO5:∀ (ops:List TOp') (rows more:List (List Int)) (d:List Int),rows.length=ops.length→QS ops (rows++more) d=QS ops rows d:=by
 intro ops rows more d h
 have:=QqA ops [] rows more d h
 rw [List.append_nil] at this
 rw [this]
 simp [QS]
end Go.Proofs.YtjbdljkhbglnhaaGreat.Am
namespace Go.Proofs.YtjbdljkhbglnhaaGreat.Am
open Go Sz
def Yl:Int→List TOp'→Int→Prop
 | i,[],o=>i=o
 | i,a::r,o=>Zf a=true∧a.2.1=i∧Yl a.2.2.1 r o
theorem Yl.append:∀ {a b:List TOp'} {i o:Int},Yl i (a++b) o↔∃ k,Yl i a k∧Yl k b o
 | [],b,i,o=>by simp [Yl]
 | x::a,b,i,o=>by
  rw [List.cons_append,Yl,Yl.append]
  constructor
  ·rintro ⟨h1,h2,k,h3,h4⟩;exact ⟨k,⟨h1,h2,h3⟩,h4⟩
  ·rintro ⟨k,⟨h1,h2,h3⟩,h4⟩;exact ⟨h1,h2,k,h3,h4⟩
theorem Qv5:∀ {l:List TOp'} {p:Option Int},YG p l=true→∃ i o,Yl i l o∧(∀ q,p=some q→l≠[]→q=i)
 | [],p,h=>⟨0,0,rfl,fun q _ h=>absurd rfl h⟩
 | a::r,p,h=>by
  simp only [YG,Bool.and_eq_true] at h
  obtain ⟨i,o,h1,h2⟩:=Qv5 h.2
  have hp:∀ q,p=some q→a::r≠[]→q=a.2.1:=fun q hq _=>by
   have:=h.1.2
   rw [hq] at this
   simpa using this
  cases r with
  | nil=>exact ⟨a.2.1,a.2.2.1,⟨h.1.1,rfl,rfl⟩,hp⟩
  | cons b r =>
   have:=h2 _ rfl (by simp)
   rw [← this] at h1
   exact ⟨a.2.1,o,⟨h.1.1,rfl,h1⟩,hp⟩
theorem QxB:∀ {l:List TOp'} {i o:Int} {p:Option Int},Yl i l o→(∀ q,p=some q→q=i)→YG p l=true
 | [],i,o,p,h,hp=>rfl
 | a::r,i,o,p,h,hp=>by
  obtain ⟨h1,h2,h3⟩:=h
  simp only [YG,Bool.and_eq_true]
  refine ⟨⟨h1,?_⟩,QxB h3 (fun q hq=>by cases hq;rfl)⟩
  cases p with
  | none=>rfl
  | some q=>simp [hp q rfl,h2]
theorem Yl.out_eq:∀ {l:List TOp'} {i o:Int},Yl i l o→l≠[]→(gtd dOp l (l.length-1)).2.2.1=o
 | [],i,o,h,hn=>absurd rfl hn
 | [a],i,o,h,hn=>h.2.2
 | a::b::r,i,o,h,hn=>by
  have:=Yl.out_eq h.2.2 (by simp)
  simpa [gtd] using this
theorem Qho {l:List TOp'} {i o:Int} (h:Yl i l o) (h1:1≤l.length) (h2:l.length≤8):QT l=true∧Za l=i∧Q8 l=o:=by
 have hm:QT l=true:=by
  simp only [QT,Bool.and_eq_true,QV]
  exact ⟨by omega,QxB h (by simp)⟩
 refine ⟨hm,?_,?_⟩
 ·unfold Za;rw [if_pos hm]
  cases l with
  | nil=>simp at h1
  | cons a r=>exact h.2.1
 ·unfold Q8;rw [if_pos hm]
  exact h.out_eq (by intro e;rw [e] at h1;simp at h1)
theorem QQm {l:List TOp'} (h:QT l=true):1≤l.length∧l.length≤8∧Yl (Za l) l (Q8 l):=by
 have hl:=Yh h
 refine ⟨hl.1,hl.2,?_⟩
 have h':=h
 simp only [QT,Bool.and_eq_true] at h'
 obtain ⟨i,o,h1,_⟩:=Qv5 h'.2
 have:=Qho h1 hl.1 hl.2
 rw [this.2.1,this.2.2]
 exact h1
theorem QBL:∀ {l:List TOp'} {i o:Int} {x:List Int},Yl i l o→Qt x i=true→Qt (Yg l x) o=true
 | [],i,o,x,h,hx=>by rw [Qky,← show i=o from h];exact hx
 | a::r,i,o,x,h,hx=>by
  obtain ⟨h1,h2,h3⟩:=h
  rw [Qf6]
  exact QBL h3 (QqT h1 (by rw [h2];exact hx))
theorem Qoa:∀ {l:List TOp'} {i o:Int} {x d:List Int},Yl i l o→Qt x i=true→Qt d o=true →
  Qt (QS l (QI l x).1 d).2.1 i=true∧Z7 l (QS l (QI l x).1 d).1=true
 | [],i,o,x,d,h,hx,hd=>by
  refine ⟨?_,rfl⟩
  show Qt d i=true
  rw [show i=o from h];exact hd
 | a::r,i,o,x,d,h,hx,hd=>by
  obtain ⟨h1,h2,h3⟩:=h
  rw [QI]
  have hx':Qt x a.2.1=true:=by rw [h2];exact hx
  have ih:=Qoa h3 (QqT h1 hx') hd
  have:=QSY h1 hx' ih.1
  rw [QS]
  refine ⟨by rw [← h2];exact this.1,?_⟩
  simp only [Z7,Bool.and_eq_true,beq_iff_eq]
  exact ⟨this.2,ih.2⟩
theorem QuF (all:List TOp') {o:Int}:∀ {l:List TOp'} {i:Int} {x:List Int} {k:Nat},Yl i l o→all.drop k=l→k≤all.length→(l=[]→Jo all k=i)→Qt x i=true→Yu all k (QI l x).1=true
 | [],i,x,k,h,hk,hle,hs,hx=>by
  simp only [QI,Yu,Bool.and_true]
  rw [hs rfl];exact hx
 | a::r,i,x,k,h,hk,hle,hs,hx=>by
  obtain ⟨h1,h2,h3⟩:=h
  have hlt:=QgJ hk
  have hx':Qt x a.2.1=true:=by rw [h2];exact hx
  simp only [QI,Yu,Bool.and_eq_true]
  refine ⟨?_,QuF all h3 (Z3 hk) hlt (fun hr=>?_) (QqT h1 hx')⟩
  ·unfold Jo;rw [if_pos hlt,Yo hk];exact hx'
  ·have:all.length=k+1:=by have:=QzQ hk;rw [hr] at this;simp at this;omega
   unfold Jo
   rw [if_neg (by omega),show all.length-1=k by omega,Yo hk]
theorem QXK {l:List TOp'} {i o:Int} {x:List Int} (h:Yl i l o) (hl:l≠[]) (hx:Qt x i=true):Yu l 0 (QI l x).1=true :=
 QuF l h (by simp) (by simp) (fun h0=>absurd h0 hl) hx
theorem Qgm:∀ (ops:List TOp') (rows:List (List Int)) (k n:Nat),Yu ops k rows=true→Yu ops k (rows.take n)=true
 | ops,[],k,n,h=>by simp [Yu]
 | ops,r::rs,k,0,h=>by simp [Yu]
 | ops,r::rs,k,n+1,h=>by
  simp only [Yu,List.take_succ_cons,Bool.and_eq_true] at h ⊢
  exact ⟨h.1,Qgm ops rs (k+1) n h.2⟩
theorem QU7 (a b:List TOp') (x d:List Int) :
  QS (a++b) (QI (a++b) x).1 d =
   ((QS a (QI a x).1 (QS b (QI b (Yg a x)).1 d).2.1).1++(QS b (QI b (Yg a x)).1 d).1,
    (QS a (QI a x).1 (QS b (QI b (Yg a x)).1 d).2.1).2.1,
    (QS a (QI a x).1 (QS b (QI b (Yg a x)).1 d).2.1).2.2||(QS b (QI b (Yg a x)).1 d).2.2):=by
 have hl:=Qdp a x
 have ht:((QI a x).1.take a.length).length=a.length:=by simp;omega
 rw [QGw]
 simp only
 rw [QqA a b _ _ d ht]
 have e:∀ d',QS a ((QI a x).1.take a.length) d'=QS a (QI a x).1 d':=fun d'=>by
  rw [← QO5 a _ [Yg a x] d' ht,QYr]
 rw [e]
theorem QF0:∀ (a b:List (List Int)),(ZG a b).1.length=min a.length b.length
 | [],b=>by simp [ZG]
 | x::a,[]=>by simp [ZG]
 | x::a,y::b=>by simp [ZG,QF0 a b]
theorem QvY:∀ {ops:List TOp'} {a b:List (List Int)},a.length=ops.length→b.length=ops.length→Z7 ops a=true→Z7 ops b=true→Z7 ops (ZG a b).1=true
 | [],a,b,h1,h2,h3,h4=>by
  have:a=[]:=List.eq_nil_of_length_eq_zero (by simpa using h1)
  subst this
  simp [ZG,Z7]
 | o::ops,[],b,h1,h2,h3,h4=>by simp at h1
 | o::ops,x::a,[],h1,h2,h3,h4=>by simp at h2
 | o::ops,x::a,y::b,h1,h2,h3,h4=>by
  simp only [Z7,Bool.and_eq_true,beq_iff_eq] at h3 h4
  simp only [ZG,Z7,Bool.and_eq_true,beq_iff_eq]
  refine ⟨?_,QvY (by simpa using h1) (by simpa using h2) h3.2 h4.2⟩
  rw [QpX];omega
end Go.Proofs.YtjbdljkhbglnhaaGreat.Am
namespace Go.Proofs.YtjbdljkhbglnhaaGreat.Am
open Go Sz
def Qv {α:Type} [Sz α] (x:α):Prop:=sz x≤2147483648
def Z9 {α β:Type} [Sz α] [Sz β] (x:α) (y:β):Prop:=sz x+sz y≤2147483648
def p_st (st s m:Int):Prop:=-1000≤st∧st≤1000
def Qrk (st s m:Int) (_:Bool):Prop:=p_st st s m
def Qde (l:List TIns) (st s m:Int):List TIns:=l++Ye st s m
def QeZ (l:List TIns) (st s m:Int) (redo:Bool):List TIns:=l++YD st s m redo
def p_l9 (l:List TIns) (st s m:Int):Prop:=p_st st s m∧l.length≤1000000
def QmL (l:List TIns) (st s m:Int) (_:Bool):Prop:=p_l9 l st s m
def Qij (ops:List TOp') (x:List Int):Prop:=ops.length≤1000000∧x.length≤1000000
def Qnv (m:TMat) (i:Int):Prop:=0≤m.2.1∧m.2.1≤6∧0≤i∧i<m.1∧m.1≤6∧(m.2.2.length:Int)=m.1*m.2.1
def Qpc (m:TMat) (k:Int):Prop:=m.2.1≤6∧0≤k∧k<m.2.1∧0≤m.1∧m.1≤6∧(m.2.2.length:Int)=m.1*m.2.1
@[simp] theorem Q7 {α:Type} (v:List α) (e:α):List.take (v.length+1) (List.take v.length v++[e])=v++[e]:=by
 rw [List.take_length,List.take_of_length_le (by simp)]
@[simp] theorem QX4 {α:Type} (v xs:List α):List.take (v.length+xs.length) (List.take v.length v++xs)=v++xs:=by
 rw [List.take_length,List.take_of_length_le (by simp)]
theorem Jt {α:Type} {l:List α} {k:Nat} (h:k<l.length):∃ y q,l.drop k=y::q:=by
 cases hq:l.drop k with
 | nil=>have:=congrArg List.length hq;simp at this;omega
 | cons y q=>exact ⟨y,q,rfl⟩
theorem YQ {α:Type} {v:List α} {k:Nat} {x:α} (h:v.length=k):(v++[x]).length=k+1:=by simp [h]
theorem room {n:Nat} (h:n+1≤2147483648):(n=n∨n+1≤n)∧n+1≤big:=⟨.inl rfl,by rw [Q1];omega⟩
theorem sc1 {k:Nat} (h:k<9223372036854775807):w64 ((k:Int)+1)=((k+1:Nat):Int):=by rw [Qq (by omega) (by omega)];omega
theorem QC4 (a b:Int):-4611686018427387904≤QW a*QW b∧QW a*QW b≤4611686018427387904:=by
 obtain ⟨h1,h2⟩:=Qav a
 obtain ⟨h3,h4⟩:=Qav b
 generalize QW a=x at *
 generalize QW b=y at *
 have hx:x.natAbs≤2147483647:=by omega
 have hy:y.natAbs≤2147483647:=by omega
 have h:=Nat.mul_le_mul hx hy
 rw [← Int.natAbs_mul] at h
 omega
theorem QLh (x:Int):(if 2147483647<(if x < -2147483647 then -2147483647 else x) then 2147483647 else (if x < -2147483647 then -2147483647 else x))=QW x:=by
 unfold QW iMin iMax;repeat' split
 all_goals omega
theorem QOx (a:Int):(if ((Int.tmod a 65536 != 0)&&(!(decide (a<0)==decide ((65536:Int)<0))))=true then Int.tdiv a 65536-1 else Int.tdiv a 65536)=Int.fdiv a 65536:=by
 rw [Int.fdiv_eq_ediv_of_nonneg _ (by omega),Int.tmod_eq_emod,Int.tdiv_eq_ediv]
 have hs:Int.sign 65536=1:=rfl
 rw [hs]
 by_cases h:0≤a
 ·have:decide (a<0)=false:=by simp;omega
  simp [h,this]
 ·have:decide (a<0)=true:=by simp;omega
  by_cases h2:(65536:Int) ∣ a
  ·have:a % 65536=0:=Int.emod_eq_zero_of_dvd h2
   simp [h,h2,this]
  ·have:a % 65536≠0:=fun e=>h2 (Int.dvd_of_emod_eq_zero e)
   simp [h,h2,this]
   omega
theorem idx {r R C:Int} (h1:0≤r) (h2:r<R) (h3:0≤C):0≤r*C∧r*C+C≤R*C∧(r+1)*C=r*C+C:=by
 have h4:(r+1)*C=r*C+C:=by rw [Int.add_mul,Int.one_mul]
 have h5:=Int.mul_le_mul_of_nonneg_right (show r+1≤R by omega) h3
 exact ⟨Int.mul_nonneg h1 h3,by omega,h4⟩
theorem Qdj {m:TMat} (h:ZA m=true):1≤m.1∧m.1≤6∧1≤m.2.1∧m.2.1≤6∧(m.2.2.length:Int)=m.1*m.2.1∧m.1*m.2.1≤36∧ZE m.2.2=true:=by
 simp only [ZA,Bool.and_eq_true,QV,beq_iff_eq] at h
 have:=QdJ h.1.1.1.1 h.1.1.1.2 h.1.1.2.1 h.1.1.2.2
 exact ⟨h.1.1.1.1,h.1.1.1.2,h.1.1.2.1,h.1.1.2.2,h.1.2,this.2,h.2⟩
theorem Qro {f:Nat→Bool} {k:Nat}:(List.range (k+1)).any f=((List.range k).any f||f k):=by rw [List.range_succ,List.any_append];simp
theorem QgS {α:Type} {f:Nat→α} {k:Nat}:(List.range (k+1)).map f=(List.range k).map f++[f k]:=by rw [List.range_succ,List.map_append];rfl
theorem Qen {α:Type} {f:Nat→List α} {k:Nat}:(List.range (k+1)).flatMap f=(List.range k).flatMap f++f k:=by rw [List.range_succ,List.flatMap_append];simp
theorem QpQ {α:Type} {f:Nat→List α} {R:Nat} (n:Nat) (h:∀ k,k<n→(f k).length=R):((List.range n).flatMap f).length=n*R:=by
 induction n with
 | zero=>simp
 | succ n ih=>rw [Qen,List.length_append,ih (fun k hk=>h k (by omega)),h n (by omega),Nat.add_mul];omega
theorem Qtb {α:Type} {f:Nat→List α} {R:Nat} {k:Nat}:∀ (n:Nat),k<n→(∀ k,k<n→(f k).length=R)→(((List.range n).flatMap f).drop (k*R)).take R=f k
 | 0,hk,_=>by omega
 | n+1,hk,h=>by
  have hl:=QpQ n (fun k hk=>h k (by omega))
  rw [Qen]
  by_cases e:k=n
  ·subst e
   rw [List.drop_append,List.drop_eq_nil_of_le (by omega),hl,Nat.sub_self,List.drop_zero,List.nil_append,List.take_of_length_le (by rw [h k (by omega)];exact Nat.le_refl _)]
  ·have ih:=Qtb (k:=k) n (by omega) (fun k hk=>h k (by omega))
   have:(k+1)*R≤n*R:=Nat.mul_le_mul_right R (show k+1≤n by omega)
   rw [Nat.add_mul,Nat.one_mul] at this
   rw [List.drop_append_of_le_length (by omega),List.take_append_of_le_length (by rw [List.length_drop,hl];omega),ih]
theorem Qof (m:TMat) (k:Int):(Yd m k).length=m.1.toNat:=by simp [Yd]
theorem QUE {m:TMat} (h:ZA m=true) {k:Nat} (hk:(k:Int)<m.2.1):ZE (Yd m k)=true:=by
 obtain ⟨h1,h2,h3,h4,h5,h6,h7⟩:=Qdj h
 unfold ZE Yd
 rw [List.all_eq_true]
 intro x hx
 obtain ⟨i,hi,rfl⟩:=List.mem_map.1 hx
 have hi:=List.mem_range.1 hi
 have hd:=idx (r:=i) (R:=m.1) (C:=m.2.1) (by omega) (by omega) (by omega)
 unfold ZE at h7
 generalize (i:Int)*m.2.1=z at *
 generalize m.1*m.2.1=y at *
 exact List.all_eq_true.1 h7 _ (Jh (show Int.toNat (z+k)<m.2.2.length by omega) 0)
theorem QWZ {m:TMat} (h:ZA m=true):ZA (YX m)=true∧(YX m).1=m.2.1∧(YX m).2.1=m.1∧∀ k:Nat,(k:Int)<m.2.1→Je (YX m) k=Yd m k:=by
 obtain ⟨h1,h2,h3,h4,h5,h6,h7⟩:=Qdj h
 have ht:YX m=(m.2.1,m.1,(List.range m.2.1.toNat).flatMap fun k:Nat=>Yd m k):=by unfold YX;rw [if_pos h]
 have hl:=QpQ (f:=fun k:Nat=>Yd m k) m.2.1.toNat (fun k hk=>Qof m k)
 have hn:((m.2.1.toNat*m.1.toNat:Nat):Int)=m.2.1*m.1:=by rw [Int.natCast_mul,Int.toNat_of_nonneg (by omega),Int.toNat_of_nonneg (by omega)]
 rw [ht]
 refine ⟨?_,rfl,rfl,fun k hk=>?_⟩
 ·simp only [ZA,Bool.and_eq_true,QV,beq_iff_eq]
  refine ⟨⟨⟨⟨h3,h4⟩,h1,h2⟩,by rw [hl,hn]⟩,?_⟩
  unfold ZE
  rw [List.all_eq_true]
  intro x hx
  obtain ⟨k,hk,hx⟩:=List.mem_flatMap.1 hx
  have:=QUE h (k:=k) (by have:=List.mem_range.1 hk;omega)
  unfold ZE at this
  exact List.all_eq_true.1 this x hx
 ·have hs:=Qtb (f:=fun k:Nat=>Yd m k) (k:=k) m.2.1.toNat (by omega) (fun k hk=>Qof m k)
  have hd:=idx (r:=k) (R:=m.2.1) (C:=m.1) (by omega) hk (by omega)
  have e1:Int.toNat ((k:Int)*m.1)=k*m.1.toNat:=by
   have:((k*m.1.toNat:Nat):Int)=(k:Int)*m.1:=by rw [Int.natCast_mul,Int.toNat_of_nonneg (by omega)]
   omega
  unfold Je slice
  simp only
  rw [show Int.toNat (((k:Int)+1)*m.1)-Int.toNat ((k:Int)*m.1)=m.1.toNat by omega,e1]
  exact hs
theorem QM6 {m:TMat} {d:List Int} (h:ZA m=true) (hd:Qt d m.1=true):Zo (YX m) d=Zw m d:=by
 obtain ⟨h1,h2,h3,h4⟩:=QWZ h
 unfold Zo Zw
 rw [if_pos (by rw [h1,h3,hd];rfl),if_pos (by rw [h,hd];rfl),h2]
 have e:∀ i,i∈List.range m.2.1.toNat→Je (YX m) (i:Nat)=Yd m (i:Nat):=fun i hi=>h4 i (by have:=List.mem_range.1 hi;omega)
 refine Prod.ext (List.map_congr_left fun i hi=>by rw [e i hi]) ?_
 show (List.range m.2.1.toNat).any _=(List.range m.2.1.toNat).any _
 rw [Bool.eq_iff_iff,List.any_eq_true,List.any_eq_true]
 constructor
 ·rintro ⟨i,hi,h⟩;exact ⟨i,hi,by rw [← e i hi];exact h⟩
 ·rintro ⟨i,hi,h⟩;exact ⟨i,hi,by rw [e i hi];exact h⟩
theorem Qv4 {m:TMat} {d:List Int} (h:¬ (ZA m=true∧Qt d m.1=true)):Zw m d=([],false):=by unfold Zw;rw [if_neg (by simpa using h)]
theorem Qxg {m:TMat} {d:List Int} (h:¬ (ZA m=true∧Qt d m.2.1=true)):Zo m d=([],false):=by unfold Zo;rw [if_neg (by simpa using h)]
theorem QhY {x:Int} (h:0≤x):0≤QW x:=by
 unfold QW iMin iMax
 repeat' split
 all_goals omega
theorem QFh:∀ (a:List Int) (z:Int),0≤z→0≤(Jf a a z).1
 | [],z,h=>by simpa [Jf] using h
 | x::r,z,h=>by
  rw [Jf]
  refine QFh r _ ?_
  have h1:0≤QW x*QW x:=by
   rcases Int.le_total 0 (QW x) with h2 | h2
   ·exact Int.mul_nonneg h2 h2
   ·exact Int.mul_nonneg_of_nonpos_of_nonpos h2 h2
  have h3:0≤Int.fdiv (QW x*QW x) 65536:=by rw [Int.fdiv_eq_ediv_of_nonneg _ (by omega)];omega
  have h4:0≤(Zq x x).1:=QhY h3
  have h5:=QhY h
  have h6:=QhY h4
  exact QhY (by omega)
theorem QLl (a:List Int):0≤(Q3 a a).1:=by
 unfold Q3;split
 ·exact QFh a 0 (by omega)
 ·show (0:Int)≤0;omega
theorem Qnp (x:List Int) (n:Int):(!(QN x)||((x.length:Int) != n)) = !(Qt x n):=by unfold Qt;simp [bne]
theorem QiP {o:TOp'} (h:Zf o=true) (h4:o.1=4):0<o.2.2.2.length:=by
 have:=QeM h
 rw [if_neg (by omega),if_neg (by omega),if_pos h4] at this
 omega
theorem QDp {o:TOp'} {x:List Int} (h:¬ (Zf o=true∧Qt x o.2.1=true)):YJ o x=([],false):=by unfold YJ;rw [if_neg (by simpa using h)]
theorem Qyt {o:TOp'} {x d:List Int} (h:¬ ((Zf o=true∧Qt x o.2.1=true)∧Qt d o.2.2.1=true)):Yt o x d=([],[],false):=by unfold Yt;rw [if_neg (by simpa using h)]
theorem QhO {o:TOp'} (h:Zf o=true):1≤o.1∧o.1≤5:=by simp only [Zf,Bool.and_eq_true,QV] at h;exact h.1.1.1.1.1
theorem Qep {α:Type} (v:List α):List.take (id v).length (List.drop 0 (id v))=v:=by simp
theorem Qcu {α:Type} (v:List α):List.take (0+v.length) (List.drop 0 v)=v:=by simp
theorem QbP {α:Type} (v:List α):List.take v.length (List.drop 0 v)=v:=by simp
theorem Qj0 {α:Type} {l:List α} {k:Nat} (h:l.length≤k):l.drop k=[]:=List.drop_eq_nil_of_le h
theorem Qvo (n:Nat) (x:Int):List.take n (List.drop 0 (List.replicate n x))=List.replicate n x:=by rw [List.drop_zero,List.take_of_length_le (by simp)]
theorem Jx {α:Type} [Sz α] {l:List α} {A:Int→List α→Prop} {Q:List α→Prop} (hs:sz l≤2147483648)
  (hA:∀ (k:Nat) (x:α) (v:List α),k<l.length→l.length≤2147483648→(∀ d,gtd d l k=x)→v.length=k→sz x≤2147483648→A ((k+1:Nat):Int) (v++[x])→A (k:Nat) v)
  (hE:Q l→A (l.length:Nat) l) (hq:Q l):A 0 []:=by
 have hl:=YT l
 refine Zk l (fun r k=>∀ v,v.length=k→v++r=l→A k v) ?_ ?_ [] rfl rfl
 ·intro v hv he
  rw [List.append_nil] at he
  subst he
  exact hE hq
 ·intro k x r hk hlt hg ih v hv he
  have hx:=QgL hk
  exact hA k x v hlt (by omega) hg hv (by omega) (ih _ (YQ hv) (by rw [← he];simp))
theorem Qhk {o:TOp'} (h:Zf o=true):o.2.2.2.length≤36:=by
 have h1:=QeM h
 have h2:=QcC h
 have h3:=QdJ h2.1 h2.2.1 h2.2.2.1 h2.2.2.2
 split at h1
 ·omega
 ·split at h1
  ·omega
  ·split at h1 <;> omega
theorem Qlc {m:Zh} (h:QT m=true) {k:Nat} (hk:k<m.length):Zf (gtd dOp m k)=true:=by
 simp only [QT,Bool.and_eq_true] at h
 exact (QfN h.2 k _ (Y4 hk dOp)).1
theorem QiU {α:Type} (d:α) {v:List α} {k:Nat} (h:v.length=k+1):v.take k++[gtd d v k]=v:=by
 have h1:gtd d v k=v[k]'(by omega):=QeO (List.getElem?_eq_getElem (by omega)) d
 rw [h1,List.take_append_getElem (by omega),List.take_of_length_le (by omega)]
theorem QGy {α:Type} (d:α) {v:List α} {n:Nat} (y:α) (h:v.length=n):gtd d (v++[y]) n=y:=by
 refine QeO ?_ d
 rw [List.getElem?_append_right (by omega)];simp [h]
theorem QuS {α:Type} {v:List α} {n:Nat} (y:α) (h:v.length=n):(v++[y]).take n=v:=by
 rw [List.take_append_of_le_length (by omega),List.take_of_length_le (by omega)]
theorem QFs {α:Type} (n:Nat) (e g:α) (l:List α):(List.replicate (n+1) e++l).set n g=List.replicate n e++g::l:=by
 rw [List.replicate_succ',List.append_assoc,List.set_append_right _ _ (by simp)]
 simp
theorem QmV {m:Zh} {x:List Int} (h1:QT m=true) (h2:Qt x (Za m)=true):JD m x=QI m x:=by unfold JD;rw [if_pos (by rw [h1,h2];rfl)]
theorem QtM:∀ {ops:List TOp'} {rows:List (List Int)},rows.length=ops.length→(∀ o,o∈ops→Zf o=true)→Z7 ops rows=true→sz rows≤37*ops.length
 | [],[],_,_,_=>by simp
 | [],r::rs,h,_,_=>by simp at h
 | o::os,[],h,_,_=>by simp at h
 | o::os,r::rs,h,ho,hg=>by
  simp only [Z7,Bool.and_eq_true,beq_iff_eq] at hg
  have h1:=Qhk (ho o List.mem_cons_self)
  have h2:=QtM (by simpa using h) (fun p hp=>ho p (List.mem_cons_of_mem _ hp)) hg.2
  have h3:=ZW r
  rw [JS,List.length_cons];omega
theorem QBo {m:Zh} (h:QT m=true):∀ o,o∈m→Zf o=true:=by
 intro o ho
 obtain ⟨i,hi⟩:=List.getElem?_of_mem ho
 simp only [QT,Bool.and_eq_true] at h
 exact (QfN h.2 i o hi).1
theorem QQh {m:Zh} (h:QT m=true):(ZO m).1.length=m.length∧Z7 m (ZO m).1=true:=by
 unfold ZO
 rw [if_pos h]
 simp only [List.length_map,true_and]
 clear h
 induction m with
 | nil=>rfl
 | cons o l ih=>simp [Z7,ih]
theorem QpR {m:Zh} (h:QT m=true) {a:Q2} (h1:a.1.length=m.length∧Z7 m a.1=true):sz a≤296:=by
 have:=QtM h1.1 (QBo h) h1.2
 have:=Yh h
 simp only [ZU,ZK,J7];omega
end Go.Proofs.YtjbdljkhbglnhaaGreat.Am

