/- -/
import Derived.Test.YtjbdljkhbglnhaaGreatZEG7
set_option linter.all false
namespace Go.Proofs.YtjbdljkhbglnhaaGreat.Am
open Go Sz
def tm (ds n M s:Int) (i:TIns):Int :=
 let F:=s+2*i.2
 let B:=(if ds=2 then 2*n-1 else 2*n-1+2*M)-s+2*i.2
 if i.1=1 then 8*F else if i.1=2 then 8*F+1 else if i.1=3 then 8*F+2
 else if i.1=4 then 8*B else if i.1=5 then 8*B+1 else if i.1=6 then 8*B+2 else if i.1=7 then 8*B+3 else 1000000
def rcOf (f:Nat) (k1:Int):Nat:=if k1=1 then f+1 else f
def scOf (f:Nat) (k1:Int):Nat:=if k1=2 then f-1 else f
def rgOf (n s:Int) (g:Nat) (k1:Int):Nat:=if k1=4∨(k1=5∧s<n-1) then g+1 else g
def sgQ (g:Nat) (k1:Int):Nat:=if k1=6 then g-1 else g
def QgD (ds n M s:Int) (rd:Bool) (f g:Nat) (k1:Int) (i:TIns) (last:Bool):Bool :=
 decide (g≤f∧(f:Int)≤M∧1≤i.1∧i.1≤8∧0≤i.2∧i.2<M∧(i.1=8↔last=true)∧i≠(0,0)) &&
 decide (i.1=1→0<s∧i.2=f∧k1≠1) &&
 decide (i.1=2→i.2=f∧(0<s→k1=1)) &&
 decide (i.1=3→s<n-1∧i.2=(f:Int)-1∧k1=2) &&
 decide (i.1=4→s<n-1∧i.2=g) &&
 decide (i.1=5→rd=true∧i.2=g∧g<f∧(s<n-1→k1=4)) &&
 decide (i.1=6→i.2=g∧g<f∧(rd=true→k1=5)∧(rd=false→s<n-1→k1=4)) &&
 decide (i.1=7→0<s∧i.2=(g:Int)-1∧k1=6) &&
 decide (i.1=8→(f:Int)=M∧(g:Int)=M∧k1≠0) &&
 decide (k1=1→i.1=2)&&decide (k1=2→s<n-1→i.1=3)&&decide (k1=4→i.1=5∨i.1=6)&&decide (k1=5→i.1=6)&&decide (k1=6→0<s→i.1=7) &&
 decide (k1=5→rd=true)&&decide (k1=6→1≤g)&&decide (k1=2→1≤f)&&decide (k1≠8)&&decide (k1=4→s<n-1)&&decide (k1=1→0<s) &&
 decide (k1=4∨k1=5→g<f)&&decide (k1=1→(f:Int)<M) &&
 decide (s<n-1→(scOf f k1:Int)<M→tm ds n M s i≤tm ds n M s (3,(scOf f k1:Int))) &&
 decide (0<s→(rcOf f k1:Int)<M→tm ds n M s i≤tm ds n M s (1,(rcOf f k1:Int))) &&
 decide (s<n-1→(rgOf n s g k1:Int)<M→tm ds n M s i≤tm ds n M s (4,(rgOf n s g k1:Int))) &&
 decide (0<s→(sgQ g k1:Int)<M→tm ds n M s i≤tm ds n M s (7,(sgQ g k1:Int))) &&
 decide (ds=2→(f:Int)-g≤n-s)&&decide (ds=2→i.1=2→(f:Int)-g<n-s)
def Qli (M:Int) (f g:Nat) (k1:Int):Bool:=decide ((f:Int)=M∧(g:Int)=M∧k1=8)
def kf (i:TIns):Nat:=if i.1=2 then 1 else 0
def kg (i:TIns):Nat:=if i.1=6 then 1 else 0
def QcY (ds n M s:Int) (rd:Bool):List TIns→Nat→Nat→Int→Bool
 | [],f,g,k1=>Qli M f g k1
 | i::r,f,g,k1=>QgD ds n M s rd f g k1 i r.isEmpty&&QcY ds n M s rd r (f+kf i) (g+kg i) i.1
def QsD:Bool:=[1,2].all fun ds:Int=>[1,2,3,4].all fun n:Int=>[0,1,2,3].all fun s:Int=>[1,2,3,4,5].all fun M:Int=>[true,false].all fun rd =>
 !(decide (s<n))||QcY ds n M s rd (YC ds n s M rd) 0 0 0
set_option maxRecDepth 100000 in
theorem QIZ:QsD=true:=by kernel_rfl
theorem QHV {ds n s M:Int} (rd:Bool) (h1:1≤ds) (h2:ds≤2) (h3:n≤4) (h4:0≤s) (h5:s<n) (h6:1≤M) (h7:M≤5):QcY ds n M s rd (YC ds n s M rd) 0 0 0=true:=by
 have h:=QIZ
 unfold QsD at h
 rw [List.all_eq_true] at h
 have h:=h ds (by have:ds=1∨ds=2:=(by omega);rcases this with rfl | rfl <;> simp)
 rw [List.all_eq_true] at h
 have h:=h n (by have:n=1∨n=2∨n=3∨n=4:=(by omega);rcases this with rfl | rfl | rfl | rfl <;> simp)
 rw [List.all_eq_true] at h
 have h:=h s (by have:s=0∨s=1∨s=2∨s=3:=(by omega);rcases this with rfl | rfl | rfl | rfl <;> simp)
 rw [List.all_eq_true] at h
 have h:=h M (by have:M=1∨M=2∨M=3∨M=4∨M=5:=(by omega);rcases this with rfl | rfl | rfl | rfl | rfl <;> simp)
 rw [List.all_eq_true] at h
 have h:=h rd (by cases rd <;> simp)
 simpa [h5] using h
def cf (l:List TIns):Nat:=(l.map kf).sum
def cg (l:List TIns):Nat:=(l.map kg).sum
def Jd (l:List TIns) (k:Nat):Int:=if k=0 then 0 else (gtd dIns l (k-1)).1
theorem Qlq {ds n M s:Int} {rd:Bool}:∀ (l:List TIns) (f g:Nat) (k1:Int),QcY ds n M s rd l f g k1=true→∀ k,k≤l.length →
  (∀ i,l[k]? = some i→QgD ds n M s rd (f+cf (l.take k)) (g+cg (l.take k)) (if k=0 then k1 else Jd l k) i (decide (k+1=l.length))=true) ∧
  (k=l.length→Qli M (f+cf (l.take k)) (g+cg (l.take k)) (if k=0 then k1 else Jd l k)=true)
 | [],f,g,k1,h,k,hk=>by
  have:k=0:=by simpa using hk
  subst this
  simp only [QcY] at h
  exact ⟨fun i hi=>by simp at hi,fun _=>by simpa [cf,cg] using h⟩
 | i::r,f,g,k1,h,k,hk=>by
  simp only [QcY,Bool.and_eq_true] at h
  cases k with
  | zero =>
   refine ⟨fun j hj=>?_,fun h0=>by simp at h0⟩
   simp at hj
   subst hj
   have:r.isEmpty=decide (0+1=(i::r).length):=by cases r <;> simp
   rw [← this]
   simpa [cf,cg] using h.1
  | succ k =>
   have ih:=Qlq r (f+kf i) (g+kg i) i.1 h.2 k (by simpa using hk)
   have e1:f+cf ((i::r).take (k+1))=f+kf i+cf (r.take k):=by simp [cf];omega
   have e2:g+cg ((i::r).take (k+1))=g+kg i+cg (r.take k):=by simp [cg];omega
   have e3:(if k=0 then i.1 else Jd r k)=Jd (i::r) (k+1):=by
    unfold Jd
    cases k with
    | zero=>simp [gtd]
    | succ k=>simp [gtd]
   rw [e1,e2,if_neg (by omega),← e3]
   refine ⟨fun j hj=>?_,fun h0=>ih.2 (by simpa using h0)⟩
   have:=ih.1 j (by simpa using hj)
   rw [show decide (k+1+1=(i::r).length)=decide (k+1=r.length) by simp]
   exact this
end Go.Proofs.YtjbdljkhbglnhaaGreat.Am
namespace Go.Proofs.YtjbdljkhbglnhaaGreat.Am
open Go Sz
theorem Qab (x:Int):-2147483647≤QS x∧QS x≤2147483647:=by unfold QS iMin iMax;split <;> split <;> omega
theorem Qh5 {x:Int}:Zc x=true↔-2147483647≤x∧x≤2147483647:=by simp [Zc]
theorem QHA (x:Int):Zc (QS x)=true:=Qh5.2 (Qab x)
theorem QAb {x:Int} (h:Zc x=true):QS x=x:=by
 have:=Qh5.1 h
 unfold QS iMin iMax;split <;> split <;> omega
theorem QqD (x:Int):Zc (YE x).1=true:=QHA x
theorem Qqu (a b:Int):Zc (Q4 a b).1=true:=QqD _
theorem QLs (a b:Int):Zc (JB a b).1=true:=QqD _
theorem QIL (a b:Int):Zc (Zr a b).1=true:=QqD _
theorem QMJ (a:Int):Zc (Qan a)=true:=by
 have:=Qab a
 rw [Qh5];unfold Qan iMax;split <;> omega
theorem QJu {a:Int} (h:Zc a=true):Q4 a 0=(a,false):=by
 have e:QS 0=0:=rfl
 unfold Q4 YE
 rw [e,Int.add_zero,QAb h,QAb h,h];rfl
theorem Qsh {x:Int} {l:List Int}:ZB (x::l)=(Zc x&&ZB l):=rfl
theorem Z0 {v:List Int}:QJ v=true↔(1≤v.length∧v.length≤6)∧ZB v=true:=by
 simp only [QJ,Bool.and_eq_true,QT]
 constructor
 ·rintro ⟨h1,h2⟩;exact ⟨by omega,h2⟩
 ·rintro ⟨h1,h2⟩;exact ⟨by omega,h2⟩
theorem YV {v:List Int} {n:Int}:Qq v n=true↔QJ v=true∧(v.length:Int)=n:=by simp [Qq]
theorem QnV (f:Int→Int→Int × Bool):∀ a b:List Int,(vz f a b).1.length=min a.length b.length
 | [],b=>by simp [vz]
 | a::aa,[]=>by simp [vz]
 | a::aa,b::bb=>by simp [vz,QnV f aa bb]
theorem QyS {f:Int→Int→Int × Bool} (hf:∀ a b,Zc (f a b).1=true):∀ a b:List Int,ZB (vz f a b).1=true
 | [],b=>by simp [vz,ZB]
 | a::aa,[]=>by simp [vz,ZB]
 | a::aa,b::bb=>by simp only [vz,Qsh,hf,QyS hf aa bb,Bool.and_self]
theorem QAZ (f:Int→Int × Bool):∀ a:List Int,(v1 f a).1.length=a.length
 | []=>rfl
 | a::aa=>by simp [v1,QAZ f aa]
theorem QCN {f:Int→Int × Bool} (hf:∀ a,Zc (f a).1=true):∀ a:List Int,ZB (v1 f a).1=true
 | []=>rfl
 | a::aa=>by simp only [v1,Qsh,hf,QCN hf aa,Bool.and_self]
theorem QBO:∀ (a b:List Int) (z:Int),Zc z=true→Zc (Jb a b z).1=true
 | [],b,z,h=>by simpa [Jb] using h
 | a::aa,[],z,h=>by simpa [Jb] using h
 | a::aa,b::bb,z,h=>by rw [Jb];exact QBO aa bb _ (Qqu _ _)
theorem Qne (a b:List Int):Zc (Q3 a b).1=true:=by
 unfold Q3;split
 ·exact QBO _ _ _ rfl
 ·rfl
theorem JX {a b:List Int}:ZH a b=true↔QJ a=true∧QJ b=true∧b.length=a.length:=by
 unfold ZH;rw [Bool.and_eq_true,YV]
 constructor <;> (intro h;exact ⟨h.1,h.2.1,by omega⟩)
theorem Qsc {f:Int→Int→Int × Bool} (hf:∀ a b,Zc (f a b).1=true) {a b:List Int} (h:ZH a b=true):Qq (vz f a b).1 a.length=true:=by
 obtain ⟨h1,h2,h3⟩:=JX.1 h
 have:=(Z0.1 h1).1
 have hl:=QnV f a b
 exact YV.2 ⟨Z0.2 ⟨by omega,QyS hf a b⟩,by omega⟩
theorem Qnm {a b:List Int} (h:ZH a b=true):Qq (Zl a b).1 a.length=true:=by unfold Zl;rw [if_pos h];exact Qsc Qqu h
theorem QHJ {a b:List Int} (h:ZH a b=true):Qq (Zi a b).1 a.length=true:=by unfold Zi;rw [if_pos h];exact Qsc QLs h
theorem Qp2 {a b:List Int} {n:Int} (h1:Qq a n=true) (h2:Qq b n=true):ZH a b=true:=by
 obtain ⟨h3,h4⟩:=YV.1 h1
 obtain ⟨h5,h6⟩:=YV.1 h2
 exact JX.2 ⟨h3,h5,by omega⟩
theorem Qxb {c:Int} {a:List Int} (hc:Zc c=true) (h:QJ a=true):Qq (ZE c a).1 a.length=true:=by
 unfold ZE
 rw [hc,h,Bool.and_self,if_pos rfl]
 have:=(Z0.1 h).1
 have hl:=QAZ (Zr c) a
 exact YV.2 ⟨Z0.2 ⟨by omega,QCN (QIL c) a⟩,by omega⟩
theorem QOM {α:Type} {f:α→Int} (hf:∀ a,Zc (f a)=true) (l:List α):ZB (l.map f)=true:=by
 unfold ZB;rw [List.all_eq_true];intro x hx
 obtain ⟨a,_,rfl⟩:=List.mem_map.1 hx
 exact hf a
theorem QnO {α:Type} {f:α→Int} (hf:∀ a,Zc (f a)=true) {l:List α} (h1:1≤l.length) (h2:l.length≤6):Qq (l.map f) l.length=true :=
 YV.2 ⟨Z0.2 ⟨by simp;omega,QOM hf l⟩,by simp⟩
theorem QXV {a:List Int} (h:QJ a=true):Qq (Yj a) a.length=true:=by
 unfold Yj;rw [if_pos h]
 have:=(Z0.1 h).1
 exact QnO QMJ (by omega) (by omega)
theorem QCG {m:TMat} {x:List Int} (h:(Zy m&&Qq x m.2.1)=true):Qq (Zo m x).1 m.1=true:=by
 unfold Zo;rw [if_pos h]
 have h1:1≤m.1∧m.1≤6:=by simp only [Zy,Bool.and_eq_true,QT] at h;omega
 have:=QnO (f:=fun i:Nat=>(Q3 (Y8 m i) x).1) (fun i=>Qne _ _) (l:=List.range m.1.toNat) (by simp;omega) (by simp;omega)
 rw [List.length_range,show ((m.1.toNat:Nat):Int)=m.1 by omega] at this
 exact this
theorem Qvj {m:TMat} {x:List Int} (h:(Zy m&&Qq x m.1)=true):Qq (Zw m x).1 m.2.1=true:=by
 unfold Zw;rw [if_pos h]
 have h1:1≤m.2.1∧m.2.1≤6:=by simp only [Zy,Bool.and_eq_true,QT] at h;omega
 have:=QnO (f:=fun i:Nat=>(Q3 (Ya m i) x).1) (fun i=>Qne _ _) (l:=List.range m.2.1.toNat) (by simp;omega) (by simp;omega)
 rw [List.length_range,show ((m.2.1.toNat:Nat):Int)=m.2.1 by omega] at this
 exact this
theorem QHa {x d:List Int} (h:ZH x d=true):Qq (Yn x d) x.length=true:=by
 unfold Yn;rw [if_pos h]
 obtain ⟨h1,h2,h3⟩:=JX.1 h
 have hl:=(Z0.1 h1).1
 have hf:=(Z0.1 h2).2
 refine YV.2 ⟨Z0.2 ⟨by simp;omega,?_⟩,by simp;omega⟩
 unfold ZB at hf ⊢
 rw [List.all_eq_true] at hf ⊢
 intro y hy
 rw [List.mem_iff_getElem?] at hy
 obtain ⟨i,hi⟩:=hy
 rw [List.getElem?_zipWith] at hi
 split at hi
 ·rename_i a b ha hb
  cases hi
  split
  ·exact hf b (List.mem_of_getElem? hb)
  ·rfl
 ·cases hi
theorem QvA {d x:List Int} (hd:QJ d=true) (hx:QJ x=true):(Zm d x).1.2.2.length=d.length*x.length:=by
 unfold Zm;rw [hd,hx,Bool.and_self,if_pos rfl]
 simp only
 generalize d=l
 clear hd
 induction l with
 | nil=>simp
 | cons a l ih=>rw [List.flatMap_cons,List.length_append,ih];simp [Nat.add_mul];omega
theorem Qey {o:TOp'} (h:Zf o=true):(o.2.2.2.length:Int)=(if o.1=1∨o.1=5 then o.2.1*o.2.2.1 else if o.1=2 then o.2.1 else if o.1=4 then 1 else 0):=by
 have h1:=QdC h
 simp only [Zf,Bool.and_eq_true,beq_iff_eq] at h
 rw [h.1.2]
 unfold Yg
 rw [show m_in o.2.1 1 6=true from QT.2 ⟨h1.1,h1.2.1⟩,show m_in o.2.2.1 1 6=true from QT.2 ⟨h1.2.2.1,h1.2.2.2⟩]
 rfl
theorem Qjl {o:TOp'} (h:Zf o=true):ZB o.2.2.2=true:=by simp only [Zf,Bool.and_eq_true] at h;exact h.2
theorem opEq {o:TOp'} (h:Zf o=true) (h1:o.1≠1):o.2.1=o.2.2.1:=by
 simp only [Zf,Bool.and_eq_true,Bool.or_eq_true,beq_iff_eq] at h
 rcases h.1.1.2 with h | h
 ·exact absurd h h1
 ·exact h
theorem QkG {o:TOp'} (h:Zf o=true) (h1:o.1=1∨o.1=5):Zy (Q2 o)=true:=by
 have h2:=QdC h
 have h3:=Qey h
 rw [if_pos h1] at h3
 simp only [Zy,Q2,Bool.and_eq_true,QT,beq_iff_eq]
 refine ⟨⟨⟨⟨by omega,by omega⟩,by omega,by omega⟩,?_⟩,Qjl h⟩
 rw [h3,Int.mul_comm]
theorem QqF {o:TOp'} {x:List Int} (ho:Zf o=true) (hx:Qq x o.2.1=true):Qq (YB o x).1 o.2.2.1=true:=by
 have hx':=YV.1 hx
 unfold YB
 rw [ho,hx,Bool.and_self,if_pos rfl]
 split
 ·rename_i h1
  exact QCG (m:=Q2 o) (by rw [QkG ho (.inl h1)];simpa [Q2] using hx)
 ·rename_i h1
  have he:=opEq ho h1
  rw [← he]
  split
  ·rename_i h2
   have h3:=Qey ho
   rw [if_neg (by omega),if_pos h2] at h3
   have h4:=QdC ho
   have hp:ZH x o.2.2.2=true:=JX.2 ⟨hx'.1,Z0.2 ⟨by omega,Qjl ho⟩,by omega⟩
   rw [← hx'.2]
   exact Qnm hp
  ·split
   ·rename_i h2 h3
    have h4:=Qey ho
    rw [if_neg (by omega),if_neg h2,if_pos h3] at h4
    have hf:Zc (gtd 0 o.2.2.2 0)=true:=by
     have:=Qjl ho
     unfold ZB at this
     exact List.all_eq_true.1 this _ (Y5 (by omega) 0)
    rw [← hx'.2]
    exact Qxb hf hx'.1
   ·split
    ·rename_i h5
     have hm:=QkG ho (.inr h5)
     have hy:Qq (Zo (Q2 o) x).1 o.2.2.1=true:=QCG (m:=Q2 o) (by rw [hm];simpa [Q2] using hx)
     rw [← he] at hy
     have:=Qnm (Qp2 hx hy)
     rwa [hx'.2] at this
    ·have:=QXV hx'.1
     rwa [hx'.2] at this
theorem QPs {o:TOp'} {x d:List Int} (ho:Zf o=true) (hx:Qq x o.2.1=true) (hd:Qq d o.2.2.1=true) :
  Qq (Yp o x d).1 o.2.1=true∧(Yp o x d).2.1.length=o.2.2.2.length:=by
 have hx':=YV.1 hx
 have hd':=YV.1 hd
 have hs:=Qey ho
 unfold Yp
 rw [ho,hx,hd,Bool.and_self,Bool.and_self,if_pos rfl]
 split
 ·rename_i h1
  rw [if_pos (.inl h1)] at hs
  refine ⟨Qvj (m:=Q2 o) (by rw [QkG ho (.inl h1)];simpa [Q2] using hd),?_⟩
  have:=QvA hd'.1 hx'.1
  show (Zm d x).1.2.2.length=_
  rw [this]
  have:((d.length*x.length:Nat):Int)=o.2.1*o.2.2.1:=by rw [Int.natCast_mul,hd'.2,hx'.2,Int.mul_comm]
  omega
 ·rename_i h1
  have he:=opEq ho h1
  split
  ·rename_i h2
   rw [if_neg (by omega),if_pos h2] at hs
   refine ⟨by rw [he];exact hd,?_⟩
   show d.length=_
   omega
  ·split
   ·rename_i h2 h3
    rw [if_neg (by omega),if_neg h2,if_pos h3] at hs
    have hf:Zc (gtd 0 o.2.2.2 0)=true:=by
     have:=Qjl ho
     unfold ZB at this
     exact List.all_eq_true.1 this _ (Y5 (by omega) 0)
    refine ⟨?_,?_⟩
    ·have:=Qxb hf hd'.1
     rw [hd'.2,← he] at this
     exact this
    ·show [(Q3 d x).1].length=_
     simp;omega
   ·split
    ·rename_i h2 h3 h5
     rw [if_pos (.inr h5)] at hs
     have hm:=QkG ho (.inr h5)
     have hy:Qq (Zw (Q2 o) d).1 o.2.1=true:=Qvj (m:=Q2 o) (by rw [hm];simpa [Q2] using hd)
     refine ⟨?_,?_⟩
     ·rw [he] at hy
      have:=Qnm (Qp2 hd hy)
      rw [hd'.2,← he] at this
      exact this
     ·have:=QvA hd'.1 hx'.1
      show (Zm d x).1.2.2.length=_
      rw [this]
      have:((d.length*x.length:Nat):Int)=o.2.1*o.2.2.1:=by rw [Int.natCast_mul,hd'.2,hx'.2,Int.mul_comm]
      omega
    ·rename_i h2 h3 h5
     rw [if_neg (by omega),if_neg h2,if_neg h3] at hs
     have hp:ZH x d=true:=JX.2 ⟨hx'.1,hd'.1,by omega⟩
     refine ⟨?_,by simp;omega⟩
     have:=QHa hp
     rw [hx'.2] at this
     exact this
theorem Qc6:∀ (ops:List TOp') (x:List Int),(QE ops x).1.length=ops.length+1
 | [],x=>rfl
 | o::r,x=>by simp [QE,Qc6 r]
def Z5 (ops:List TOp') (x:List Int):List Int:=gtd [] (QE ops x).1 ops.length
theorem Qh6 (x:List Int):Z5 [] x=x:=rfl
theorem QfJ (o:TOp') (r:List TOp') (x:List Int):Z5 (o::r) x=Z5 r (YB o x).1:=by
 unfold Z5;rw [QE];simp [gtd]
theorem QuP:∀ (a b:List TOp') (x:List Int),QE (a++b) x=((QE a x).1.take a.length++(QE b (Z5 a x)).1,(QE a x).2||(QE b (Z5 a x)).2)
 | [],b,x=>by simp [QE,Qh6]
 | o::a,b,x=>by
  rw [List.cons_append,QE,QuP a b,QfJ,QE]
  simp [Bool.or_assoc]
theorem QGx (a b:List TOp') (x:List Int):Z5 (a++b) x=Z5 b (Z5 a x):=by
 induction a generalizing x with
 | nil=>rfl
 | cons o a ih=>rw [List.cons_append,QfJ,QfJ,ih]
theorem QFe (ops:List TOp') (x:List Int):gtd [] (QE ops x).1 0=x:=by cases ops <;> simp [QE,gtd]
theorem QLH (ops:List TOp') (x:List Int):(QE ops x).1.take ops.length++[Z5 ops x]=(QE ops x).1:=by
 unfold Z5
 have hl:=Qc6 ops x
 have:gtd [] (QE ops x).1 ops.length=(QE ops x).1[ops.length]'(by omega):=Qb4 (List.getElem?_eq_getElem (by omega)) []
 rw [this,List.take_append_getElem (by omega),List.take_of_length_le (by omega)]
theorem QgB:∀ (ops:List TOp') (rows:List (List Int)) (d:List Int),ops.length≤rows.length→(QP ops rows d).1.length=ops.length
 | [],rows,d,_=>by simp [QP]
 | o::os,[],d,h=>by simp at h
 | o::os,r::rs,d,h=>by simp [QP,QgB os rs d (by simpa using h)]
theorem Qmv:∀ (a b:List TOp') (ra rb:List (List Int)) (d:List Int),ra.length=a.length →
  QP (a++b) (ra++rb) d=((QP a ra (QP b rb d).2.1).1++(QP b rb d).1,(QP a ra (QP b rb d).2.1).2.1,(QP a ra (QP b rb d).2.1).2.2||(QP b rb d).2.2)
 | [],b,ra,rb,d,h=>by
  have:ra=[]:=List.eq_nil_of_length_eq_zero (by simpa using h)
  subst this
  simp [QP]
 | o::a,b,[],rb,d,h=>by simp at h
 | o::a,b,r::ra,rb,d,h=>by
  rw [List.cons_append,List.cons_append,QP,Qmv a b ra rb d (by simpa using h),QP]
  simp [Bool.or_assoc]
theorem QHs:∀ (ops:List TOp') (rows more:List (List Int)) (d:List Int),rows.length=ops.length→QP ops (rows++more) d=QP ops rows d:=by
 intro ops rows more d h
 have:=Qmv ops [] rows more d h
 rw [List.append_nil] at this
 rw [this]
 simp [QP]
end Go.Proofs.YtjbdljkhbglnhaaGreat.Am
namespace Go.Proofs.YtjbdljkhbglnhaaGreat.Am
open Go Sz
def Ye:Int→List TOp'→Int→Prop
 | i,[],o=>i=o
 | i,a::r,o=>Zf a=true∧a.2.1=i∧Ye a.2.2.1 r o
theorem Ye.append:∀ {a b:List TOp'} {i o:Int},Ye i (a++b) o↔∃ k,Ye i a k∧Ye k b o
 | [],b,i,o=>by simp [Ye]
 | x::a,b,i,o=>by
  rw [List.cons_append,Ye,Ye.append]
  constructor
  ·rintro ⟨h1,h2,k,h3,h4⟩;exact ⟨k,⟨h1,h2,h3⟩,h4⟩
  ·rintro ⟨k,⟨h1,h2,h3⟩,h4⟩;exact ⟨h1,h2,k,h3,h4⟩
theorem QEw:∀ {l:List TOp'} {p:Option Int},YA p l=true→∃ i o,Ye i l o∧(∀ q,p=some q→l≠[]→q=i)
 | [],p,h=>⟨0,0,rfl,fun q _ h=>absurd rfl h⟩
 | a::r,p,h=>by
  simp only [YA,Bool.and_eq_true] at h
  obtain ⟨i,o,h1,h2⟩:=QEw h.2
  have hp:∀ q,p=some q→a::r≠[]→q=a.2.1:=fun q hq _=>by
   have:=h.1.2
   rw [hq] at this
   simpa using this
  cases r with
  | nil=>exact ⟨a.2.1,a.2.2.1,⟨h.1.1,rfl,rfl⟩,hp⟩
  | cons b r =>
   have:=h2 _ rfl (by simp)
   rw [← this] at h1
   exact ⟨a.2.1,o,⟨h.1.1,rfl,h1⟩,hp⟩
theorem QtC:∀ {l:List TOp'} {i o:Int} {p:Option Int},Ye i l o→(∀ q,p=some q→q=i)→YA p l=true
 | [],i,o,p,h,hp=>rfl
 | a::r,i,o,p,h,hp=>by
  obtain ⟨h1,h2,h3⟩:=h
  simp only [YA,Bool.and_eq_true]
  refine ⟨⟨h1,?_⟩,QtC h3 (fun q hq=>by cases hq;rfl)⟩
  cases p with
  | none=>rfl
  | some q=>simp [hp q rfl,h2]
theorem Ye.out_eq:∀ {l:List TOp'} {i o:Int},Ye i l o→l≠[]→(gtd dOp l (l.length-1)).2.2.1=o
 | [],i,o,h,hn=>absurd rfl hn
 | [a],i,o,h,hn=>h.2.2
 | a::b::r,i,o,h,hn=>by
  have:=Ye.out_eq h.2.2 (by simp)
  simpa [gtd] using this
theorem Qh1 {l:List TOp'} {i o:Int} (h:Ye i l o) (h1:1≤l.length) (h2:l.length≤8):QU l=true∧Q6 l=i∧Q5 l=o:=by
 have hm:QU l=true:=by
  simp only [QU,Bool.and_eq_true,QT]
  exact ⟨by omega,QtC h (by simp)⟩
 refine ⟨hm,?_,?_⟩
 ·unfold Q6;rw [if_pos hm]
  cases l with
  | nil=>simp at h1
  | cons a r=>exact h.2.1
 ·unfold Q5;rw [if_pos hm]
  exact h.out_eq (by intro e;rw [e] at h1;simp at h1)
theorem QSC {l:List TOp'} (h:QU l=true):1≤l.length∧l.length≤8∧Ye (Q6 l) l (Q5 l):=by
 have hl:=Ym h
 refine ⟨hl.1,hl.2,?_⟩
 have h':=h
 simp only [QU,Bool.and_eq_true] at h'
 obtain ⟨i,o,h1,_⟩:=QEw h'.2
 have:=Qh1 h1 hl.1 hl.2
 rw [this.2.1,this.2.2]
 exact h1
theorem Qt6:∀ {l:List TOp'} {i o:Int} {x:List Int},Ye i l o→Qq x i=true→Qq (Z5 l x) o=true
 | [],i,o,x,h,hx=>by rw [Qh6,← show i=o from h];exact hx
 | a::r,i,o,x,h,hx=>by
  obtain ⟨h1,h2,h3⟩:=h
  rw [QfJ]
  exact Qt6 h3 (QqF h1 (by rw [h2];exact hx))
theorem Ql9:∀ {l:List TOp'} {i o:Int} {x d:List Int},Ye i l o→Qq x i=true→Qq d o=true →
  Qq (QP l (QE l x).1 d).2.1 i=true∧Z1 l (QP l (QE l x).1 d).1=true
 | [],i,o,x,d,h,hx,hd=>by
  refine ⟨?_,rfl⟩
  show Qq d i=true
  rw [show i=o from h];exact hd
 | a::r,i,o,x,d,h,hx,hd=>by
  obtain ⟨h1,h2,h3⟩:=h
  rw [QE]
  have hx':Qq x a.2.1=true:=by rw [h2];exact hx
  have ih:=Ql9 h3 (QqF h1 hx') hd
  have:=QPs h1 hx' ih.1
  rw [QP]
  refine ⟨by rw [← h2];exact this.1,?_⟩
  simp only [Z1,Bool.and_eq_true,beq_iff_eq]
  exact ⟨this.2,ih.2⟩
theorem QBj (all:List TOp') {o:Int}:∀ {l:List TOp'} {i:Int} {x:List Int} {k:Nat},Ye i l o→all.drop k=l→k≤all.length→(l=[]→Jc all k=i)→Qq x i=true→Yr all k (QE l x).1=true
 | [],i,x,k,h,hk,hle,hs,hx=>by
  simp only [QE,Yr,Bool.and_true]
  rw [hs rfl];exact hx
 | a::r,i,x,k,h,hk,hle,hs,hx=>by
  obtain ⟨h1,h2,h3⟩:=h
  have hlt:=Qgu hk
  have hx':Qq x a.2.1=true:=by rw [h2];exact hx
  simp only [QE,Yr,Bool.and_eq_true]
  refine ⟨?_,QBj all h3 (ZY hk) hlt (fun hr=>?_) (QqF h1 hx')⟩
  ·unfold Jc;rw [if_pos hlt,Yb hk];exact hx'
  ·have:all.length=k+1:=by have:=Qr3 hk;rw [hr] at this;simp at this;omega
   unfold Jc
   rw [if_neg (by omega),show all.length-1=k by omega,Yb hk]
theorem QJ4 {l:List TOp'} {i o:Int} {x:List Int} (h:Ye i l o) (hl:l≠[]) (hx:Qq x i=true):Yr l 0 (QE l x).1=true :=
 QBj l h (by simp) (by simp) (fun h0=>absurd h0 hl) hx
theorem Qgc:∀ (ops:List TOp') (rows:List (List Int)) (k n:Nat),Yr ops k rows=true→Yr ops k (rows.take n)=true
 | ops,[],k,n,h=>by simp [Yr]
 | ops,r::rs,k,0,h=>by simp [Yr]
 | ops,r::rs,k,n+1,h=>by
  simp only [Yr,List.take_succ_cons,Bool.and_eq_true] at h ⊢
  exact ⟨h.1,Qgc ops rs (k+1) n h.2⟩
theorem QOC (a b:List TOp') (x d:List Int) :
  QP (a++b) (QE (a++b) x).1 d =
   ((QP a (QE a x).1 (QP b (QE b (Z5 a x)).1 d).2.1).1++(QP b (QE b (Z5 a x)).1 d).1,
    (QP a (QE a x).1 (QP b (QE b (Z5 a x)).1 d).2.1).2.1,
    (QP a (QE a x).1 (QP b (QE b (Z5 a x)).1 d).2.1).2.2||(QP b (QE b (Z5 a x)).1 d).2.2):=by
 have hl:=Qc6 a x
 have ht:((QE a x).1.take a.length).length=a.length:=by simp;omega
 rw [QuP]
 simp only
 rw [Qmv a b _ _ d ht]
 have e:∀ d',QP a ((QE a x).1.take a.length) d'=QP a (QE a x).1 d':=fun d'=>by
  rw [← QHs a _ [Z5 a x] d' ht,QLH]
 rw [e]
theorem QAN:∀ (a b:List (List Int)),(ZD a b).1.length=min a.length b.length
 | [],b=>by simp [ZD]
 | x::a,[]=>by simp [ZD]
 | x::a,y::b=>by simp [ZD,QAN a b]
theorem Qrl:∀ {ops:List TOp'} {a b:List (List Int)},a.length=ops.length→b.length=ops.length→Z1 ops a=true→Z1 ops b=true→Z1 ops (ZD a b).1=true
 | [],a,b,h1,h2,h3,h4=>by
  have:a=[]:=List.eq_nil_of_length_eq_zero (by simpa using h1)
  subst this
  simp [ZD,Z1]
 | o::ops,[],b,h1,h2,h3,h4=>by simp at h1
 | o::ops,x::a,[],h1,h2,h3,h4=>by simp at h2
 | o::ops,x::a,y::b,h1,h2,h3,h4=>by
  simp only [Z1,Bool.and_eq_true,beq_iff_eq] at h3 h4
  simp only [ZD,Z1,Bool.and_eq_true,beq_iff_eq]
  refine ⟨?_,Qrl (by simpa using h1) (by simpa using h2) h3.2 h4.2⟩
  rw [QnV];omega
end Go.Proofs.YtjbdljkhbglnhaaGreat.Am
namespace Go.Proofs.YtjbdljkhbglnhaaGreat.Am
open Go Sz
def Qu {α:Type} [Sz α] (x:α):Prop:=sz x≤2147483648
def ZZ {α β:Type} [Sz α] [Sz β] (x:α) (y:β):Prop:=sz x+sz y≤2147483648
def p_st (st s m:Int):Prop:=-1000≤st∧st≤1000
def Qcx (l:List TIns) (st s m:Int):List TIns:=l++QaE st s m
def QdZ (l:List TIns) (st s m:Int) (redo:Bool):List TIns:=l++QdY st s m redo
def p_l9 (l:List TIns) (st s m:Int):Prop:=p_st st s m∧l.length≤1000000
def Qnp (l:List TIns) (st s m:Int) (_:Bool):Prop:=p_l9 l st s m
def Qjv (ops:List TOp') (x:List Int):Prop:=ops.length≤1000000∧x.length≤1000000
def Qo6 (m:TMat) (i:Int):Prop:=0≤m.2.1∧m.2.1≤6∧0≤i∧i<m.1∧m.1≤6∧(m.2.2.length:Int)=m.1*m.2.1
def Qqv (m:TMat) (k:Int):Prop:=m.2.1≤6∧0≤k∧k<m.2.1∧0≤m.1∧m.1≤6∧(m.2.2.length:Int)=m.1*m.2.1
@[simp] theorem Q8 {α:Type} (v:List α) (e:α):List.take (v.length+1) (List.take v.length v++[e])=v++[e]:=by
 rw [List.take_length,List.take_of_length_le (by simp)]
@[simp] theorem QZb {α:Type} (v xs:List α):List.take (v.length+xs.length) (List.take v.length v++xs)=v++xs:=by
 rw [List.take_length,List.take_of_length_le (by simp)]
theorem Jl {α:Type} {l:List α} {k:Nat} (h:k<l.length):∃ y q,l.drop k=y::q:=by
 cases hq:l.drop k with
 | nil=>have:=congrArg List.length hq;simp at this;omega
 | cons y q=>exact ⟨y,q,rfl⟩
theorem YQ {α:Type} {v:List α} {k:Nat} {x:α} (h:v.length=k):(v++[x]).length=k+1:=by simp [h]
theorem room {n:Nat} (h:n+1≤2147483648):(n=n∨n+1≤n)∧n+1≤big:=⟨.inl rfl,by rw [Q9];omega⟩
theorem sc1 {k:Nat} (h:k<9223372036854775807):w64 ((k:Int)+1)=((k+1:Nat):Int):=by rw [Qr (by omega) (by omega)];omega
theorem QDU (a b:Int):-4611686018427387904≤QS a*QS b∧QS a*QS b≤4611686018427387904:=by
 obtain ⟨h1,h2⟩:=Qab a
 obtain ⟨h3,h4⟩:=Qab b
 generalize QS a=x at *
 generalize QS b=y at *
 have hx:x.natAbs≤2147483647:=by omega
 have hy:y.natAbs≤2147483647:=by omega
 have h:=Nat.mul_le_mul hx hy
 rw [← Int.natAbs_mul] at h
 omega
theorem QYs (x:Int):(if 2147483647<(if x < -2147483647 then -2147483647 else x) then 2147483647 else (if x < -2147483647 then -2147483647 else x))=QS x:=by
 unfold QS iMin iMax;repeat' split
 all_goals omega
theorem QH8 (a:Int):(if ((Int.tmod a 65536 != 0)&&(!(decide (a<0)==decide ((65536:Int)<0))))=true then Int.tdiv a 65536-1 else Int.tdiv a 65536)=Int.fdiv a 65536:=by
 rw [Int.fdiv_eq_ediv_of_nonneg _ (by omega),Int.tmod_eq_emod,Int.tdiv_eq_ediv]
 have hs:Int.sign 65536=1:=rfl
 rw [hs]
 by_cases h:0≤a
 ·have:decide (a<0)=false:=by simp;omega
  simp [h,this]
 ·have:decide (a<0)=true:=by simp;omega
  by_cases h2:(65536:Int) ∣ a
  ·have:a % 65536=0:=Int.emod_eq_zero_of_dvd h2
   simp [h,h2,this]
  ·have:a % 65536≠0:=fun e=>h2 (Int.dvd_of_emod_eq_zero e)
   simp [h,h2,this]
   omega
theorem idx {r R C:Int} (h1:0≤r) (h2:r<R) (h3:0≤C):0≤r*C∧r*C+C≤R*C∧(r+1)*C=r*C+C:=by
 have h4:(r+1)*C=r*C+C:=by rw [Int.add_mul,Int.one_mul]
 have h5:=Int.mul_le_mul_of_nonneg_right (show r+1≤R by omega) h3
 exact ⟨Int.mul_nonneg h1 h3,by omega,h4⟩
theorem Qcn {m:TMat} (h:Zy m=true):1≤m.1∧m.1≤6∧1≤m.2.1∧m.2.1≤6∧(m.2.2.length:Int)=m.1*m.2.1∧m.1*m.2.1≤36∧ZB m.2.2=true:=by
 simp only [Zy,Bool.and_eq_true,QT,beq_iff_eq] at h
 have:=Qdk h.1.1.1.1 h.1.1.1.2 h.1.1.2.1 h.1.1.2.2
 exact ⟨h.1.1.1.1,h.1.1.1.2,h.1.1.2.1,h.1.1.2.2,h.1.2,this.2,h.2⟩
theorem Qlb {f:Nat→Bool} {k:Nat}:(List.range (k+1)).any f=((List.range k).any f||f k):=by rw [List.range_succ,List.any_append];simp
theorem Qfn {α:Type} {f:Nat→α} {k:Nat}:(List.range (k+1)).map f=(List.range k).map f++[f k]:=by rw [List.range_succ,List.map_append];rfl
theorem Qeb {α:Type} {f:Nat→List α} {k:Nat}:(List.range (k+1)).flatMap f=(List.range k).flatMap f++f k:=by rw [List.range_succ,List.flatMap_append];simp
theorem Qmj {α:Type} {f:Nat→List α} {R:Nat} (n:Nat) (h:∀ k,k<n→(f k).length=R):((List.range n).flatMap f).length=n*R:=by
 induction n with
 | zero=>simp
 | succ n ih=>rw [Qeb,List.length_append,ih (fun k hk=>h k (by omega)),h n (by omega),Nat.add_mul];omega
theorem QwQ {α:Type} {f:Nat→List α} {R:Nat} {k:Nat}:∀ (n:Nat),k<n→(∀ k,k<n→(f k).length=R)→(((List.range n).flatMap f).drop (k*R)).take R=f k
 | 0,hk,_=>by omega
 | n+1,hk,h=>by
  have hl:=Qmj n (fun k hk=>h k (by omega))
  rw [Qeb]
  by_cases e:k=n
  ·subst e
   rw [List.drop_append,List.drop_eq_nil_of_le (by omega),hl,Nat.sub_self,List.drop_zero,List.nil_append,List.take_of_length_le (by rw [h k (by omega)];exact Nat.le_refl _)]
  ·have ih:=QwQ (k:=k) n (by omega) (fun k hk=>h k (by omega))
   have:(k+1)*R≤n*R:=Nat.mul_le_mul_right R (show k+1≤n by omega)
   rw [Nat.add_mul,Nat.one_mul] at this
   rw [List.drop_append_of_le_length (by omega),List.take_append_of_le_length (by rw [List.length_drop,hl];omega),ih]
theorem QoH (m:TMat) (k:Int):(Ya m k).length=m.1.toNat:=by simp [Ya]
theorem QQ4 {m:TMat} (h:Zy m=true) {k:Nat} (hk:(k:Int)<m.2.1):ZB (Ya m k)=true:=by
 obtain ⟨h1,h2,h3,h4,h5,h6,h7⟩:=Qcn h
 unfold ZB Ya
 rw [List.all_eq_true]
 intro x hx
 obtain ⟨i,hi,rfl⟩:=List.mem_map.1 hx
 have hi:=List.mem_range.1 hi
 have hd:=idx (r:=i) (R:=m.1) (C:=m.2.1) (by omega) (by omega) (by omega)
 unfold ZB at h7
 generalize (i:Int)*m.2.1=z at *
 generalize m.1*m.2.1=y at *
 exact List.all_eq_true.1 h7 _ (Y5 (show Int.toNat (z+k)<m.2.2.length by omega) 0)
theorem QTr {m:TMat} (h:Zy m=true):Zy (YS m)=true∧(YS m).1=m.2.1∧(YS m).2.1=m.1∧∀ k:Nat,(k:Int)<m.2.1→Y8 (YS m) k=Ya m k:=by
 obtain ⟨h1,h2,h3,h4,h5,h6,h7⟩:=Qcn h
 have ht:YS m=(m.2.1,m.1,(List.range m.2.1.toNat).flatMap fun k:Nat=>Ya m k):=by unfold YS;rw [if_pos h]
 have hl:=Qmj (f:=fun k:Nat=>Ya m k) m.2.1.toNat (fun k hk=>QoH m k)
 have hn:((m.2.1.toNat*m.1.toNat:Nat):Int)=m.2.1*m.1:=by rw [Int.natCast_mul,Int.toNat_of_nonneg (by omega),Int.toNat_of_nonneg (by omega)]
 rw [ht]
 refine ⟨?_,rfl,rfl,fun k hk=>?_⟩
 ·simp only [Zy,Bool.and_eq_true,QT,beq_iff_eq]
  refine ⟨⟨⟨⟨h3,h4⟩,h1,h2⟩,by rw [hl,hn]⟩,?_⟩
  unfold ZB
  rw [List.all_eq_true]
  intro x hx
  obtain ⟨k,hk,hx⟩:=List.mem_flatMap.1 hx
  have:=QQ4 h (k:=k) (by have:=List.mem_range.1 hk;omega)
  unfold ZB at this
  exact List.all_eq_true.1 this x hx
 ·have hs:=QwQ (f:=fun k:Nat=>Ya m k) (k:=k) m.2.1.toNat (by omega) (fun k hk=>QoH m k)
  have hd:=idx (r:=k) (R:=m.2.1) (C:=m.1) (by omega) hk (by omega)
  have e1:Int.toNat ((k:Int)*m.1)=k*m.1.toNat:=by
   have:((k*m.1.toNat:Nat):Int)=(k:Int)*m.1:=by rw [Int.natCast_mul,Int.toNat_of_nonneg (by omega)]
   omega
  unfold Y8 slice
  simp only
  rw [show Int.toNat (((k:Int)+1)*m.1)-Int.toNat ((k:Int)*m.1)=m.1.toNat by omega,e1]
  exact hs
theorem QSx {m:TMat} {d:List Int} (h:Zy m=true) (hd:Qq d m.1=true):Zo (YS m) d=Zw m d:=by
 obtain ⟨h1,h2,h3,h4⟩:=QTr h
 unfold Zo Zw
 rw [if_pos (by rw [h1,h3,hd];rfl),if_pos (by rw [h,hd];rfl),h2]
 have e:∀ i,i∈List.range m.2.1.toNat→Y8 (YS m) (i:Nat)=Ya m (i:Nat):=fun i hi=>h4 i (by have:=List.mem_range.1 hi;omega)
 refine Prod.ext (List.map_congr_left fun i hi=>by rw [e i hi]) ?_
 show (List.range m.2.1.toNat).any _=(List.range m.2.1.toNat).any _
 rw [Bool.eq_iff_iff,List.any_eq_true,List.any_eq_true]
 constructor
 ·rintro ⟨i,hi,h⟩;exact ⟨i,hi,by rw [← e i hi];exact h⟩
 ·rintro ⟨i,hi,h⟩;exact ⟨i,hi,by rw [e i hi];exact h⟩
theorem Qum {m:TMat} {d:List Int} (h:¬ (Zy m=true∧Qq d m.1=true)):Zw m d=([],false):=by unfold Zw;rw [if_neg (by simpa using h)]
theorem Qrb {m:TMat} {d:List Int} (h:¬ (Zy m=true∧Qq d m.2.1=true)):Zo m d=([],false):=by unfold Zo;rw [if_neg (by simpa using h)]
theorem QhV {x:Int} (h:0≤x):0≤QS x:=by
 unfold QS iMin iMax
 repeat' split
 all_goals omega
theorem QrK:∀ (a:List Int) (z:Int),0≤z→0≤(Jb a a z).1
 | [],z,h=>by simpa [Jb] using h
 | x::r,z,h=>by
  rw [Jb]
  refine QrK r _ ?_
  have h1:0≤QS x*QS x:=by
   rcases Int.le_total 0 (QS x) with h2 | h2
   ·exact Int.mul_nonneg h2 h2
   ·exact Int.mul_nonneg_of_nonpos_of_nonpos h2 h2
  have h3:0≤Int.fdiv (QS x*QS x) 65536:=by rw [Int.fdiv_eq_ediv_of_nonneg _ (by omega)];omega
  have h4:0≤(Zr x x).1:=QhV h3
  have h5:=QhV h
  have h6:=QhV h4
  exact QhV (by omega)
theorem QRE (a:List Int):0≤(Q3 a a).1:=by
 unfold Q3;split
 ·exact QrK a 0 (by omega)
 ·show (0:Int)≤0;omega
theorem Qmx (x:List Int) (n:Int):(!(QJ x)||((x.length:Int) != n)) = !(Qq x n):=by unfold Qq;simp [bne]
theorem Qht {o:TOp'} (h:Zf o=true) (h4:o.1=4):0<o.2.2.2.length:=by
 have:=Qey h
 rw [if_neg (by omega),if_neg (by omega),if_pos h4] at this
 omega
theorem Qve {o:TOp'} {x:List Int} (h:¬ (Zf o=true∧Qq x o.2.1=true)):YB o x=([],false):=by unfold YB;rw [if_neg (by simpa using h)]
theorem Qtl {o:TOp'} {x d:List Int} (h:¬ ((Zf o=true∧Qq x o.2.1=true)∧Qq d o.2.2.1=true)):Yp o x d=([],[],false):=by unfold Yp;rw [if_neg (by simpa using h)]
theorem QiT {o:TOp'} (h:Zf o=true):1≤o.1∧o.1≤5:=by simp only [Zf,Bool.and_eq_true,QT] at h;exact h.1.1.1.1.1
theorem Qd7 {α:Type} (v:List α):List.take (id v).length (List.drop 0 (id v))=v:=by simp
theorem Qb1 {α:Type} (v:List α):List.take (0+v.length) (List.drop 0 v)=v:=by simp
theorem JI {α:Type} (v:List α):List.take v.length (List.drop 0 v)=v:=by simp
theorem QhX {α:Type} {l:List α} {k:Nat} (h:l.length≤k):l.drop k=[]:=List.drop_eq_nil_of_le h
theorem QSm (n:Nat) (x:Int):List.take n (List.drop 0 (List.replicate n x))=List.replicate n x:=by rw [List.drop_zero,List.take_of_length_le (by simp)]
theorem Jk {α:Type} [Sz α] {l:List α} {A:Int→List α→Prop} {Q:List α→Prop} (hs:sz l≤2147483648)
  (hA:∀ (k:Nat) (x:α) (v:List α),k<l.length→l.length≤2147483648→(∀ d,gtd d l k=x)→v.length=k→sz x≤2147483648→A ((k+1:Nat):Int) (v++[x])→A (k:Nat) v)
  (hE:Q l→A (l.length:Nat) l) (hq:Q l):A 0 []:=by
 have hl:=YF l
 refine Zp l (fun r k=>∀ v,v.length=k→v++r=l→A k v) ?_ ?_ [] rfl rfl
 ·intro v hv he
  rw [List.append_nil] at he
  subst he
  exact hE hq
 ·intro k x r hk hlt hg ih v hv he
  have hx:=Qgi hk
  exact hA k x v hlt (by omega) hg hv (by omega) (ih _ (YQ hv) (by rw [← he];simp))
theorem Qoy {o:TOp'} (h:Zf o=true):o.2.2.2.length≤36:=by
 have h1:=Qey h
 have h2:=QdC h
 have h3:=Qdk h2.1 h2.2.1 h2.2.2.1 h2.2.2.2
 split at h1
 ·omega
 ·split at h1
  ·omega
  ·split at h1 <;> omega
theorem Qp1 {m:Zh} (h:QU m=true) {k:Nat} (hk:k<m.length):Zf (gtd dOp m k)=true:=by
 simp only [QU,Bool.and_eq_true] at h
 exact (Qkn h.2 k _ (Y2 hk dOp)).1
theorem QgZ {α:Type} (d:α) {v:List α} {k:Nat} (h:v.length=k+1):v.take k++[gtd d v k]=v:=by
 have h1:gtd d v k=v[k]'(by omega):=Qb4 (List.getElem?_eq_getElem (by omega)) d
 rw [h1,List.take_append_getElem (by omega),List.take_of_length_le (by omega)]
theorem QEL {α:Type} (d:α) {v:List α} {n:Nat} (y:α) (h:v.length=n):gtd d (v++[y]) n=y:=by
 refine Qb4 ?_ d
 rw [List.getElem?_append_right (by omega)];simp [h]
theorem QBN {α:Type} {v:List α} {n:Nat} (y:α) (h:v.length=n):(v++[y]).take n=v:=by
 rw [List.take_append_of_le_length (by omega),List.take_of_length_le (by omega)]
theorem QD5 {α:Type} (n:Nat) (e g:α) (l:List α):(List.replicate (n+1) e++l).set n g=List.replicate n e++g::l:=by
 rw [List.replicate_succ',List.append_assoc,List.set_append_right _ _ (by simp)]
 simp
theorem Qng {m:Zh} {x:List Int} (h1:QU m=true) (h2:Qq x (Q6 m)=true):Jv m x=QE m x:=by unfold Jv;rw [if_pos (by rw [h1,h2];rfl)]
theorem Qyp:∀ {ops:List TOp'} {rows:List (List Int)},rows.length=ops.length→(∀ o,o∈ops→Zf o=true)→Z1 ops rows=true→sz rows≤37*ops.length
 | [],[],_,_,_=>by simp
 | [],r::rs,h,_,_=>by simp at h
 | o::os,[],h,_,_=>by simp at h
 | o::os,r::rs,h,ho,hg=>by
  simp only [Z1,Bool.and_eq_true,beq_iff_eq] at hg
  have h1:=Qoy (ho o List.mem_cons_self)
  have h2:=Qyp (by simpa using h) (fun p hp=>ho p (List.mem_cons_of_mem _ hp)) hg.2
  have h3:=ZS r
  rw [JM,List.length_cons];omega
theorem Qxv {m:Zh} (h:QU m=true):∀ o,o∈m→Zf o=true:=by
 intro o ho
 obtain ⟨i,hi⟩:=List.getElem?_of_mem ho
 simp only [QU,Bool.and_eq_true] at h
 exact (Qkn h.2 i o hi).1
theorem QNh {m:Zh} (h:QU m=true):(Yw m).1.length=m.length∧Z1 m (Yw m).1=true:=by
 unfold Yw
 rw [if_pos h]
 simp only [List.length_map,true_and]
 clear h
 induction m with
 | nil=>rfl
 | cons o l ih=>simp [Z1,ih]
theorem QoV {m:Zh} (h:QU m=true) {a:QZ} (h1:a.1.length=m.length∧Z1 m a.1=true):sz a≤296:=by
 have:=Qyp h1.1 (Qxv h) h1.2
 have:=Ym h
 simp only [ZP,ZF,JP];omega
end Go.Proofs.YtjbdljkhbglnhaaGreat.Am

