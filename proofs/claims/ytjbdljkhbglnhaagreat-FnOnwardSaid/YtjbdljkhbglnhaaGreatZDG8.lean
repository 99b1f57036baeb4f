/- -/
import Derived.Test.YtjbdljkhbglnhaaGreatZDG7
set_option linter.all false
namespace Go.Proofs.YtjbdljkhbglnhaaGreat.Am
open Go Sz
def tm (ds n M s:Int) (i:TIns):Int :=
 let F:=s+2*i.2
 let B:=(if ds=2 then 2*n-1 else 2*n-1+2*M)-s+2*i.2
 if i.1=1 then 8*F else if i.1=2 then 8*F+1 else if i.1=3 then 8*F+2
 else if i.1=4 then 8*B else if i.1=5 then 8*B+1 else if i.1=6 then 8*B+2 else if i.1=7 then 8*B+3 else 1000000
def rcOf (f:Nat) (k1:Int):Nat:=if k1=1 then f+1 else f
def scOf (f:Nat) (k1:Int):Nat:=if k1=2 then f-1 else f
def rgOf (n s:Int) (g:Nat) (k1:Int):Nat:=if k1=4∨(k1=5∧s<n-1) then g+1 else g
def sgQ (g:Nat) (k1:Int):Nat:=if k1=6 then g-1 else g
def Qkj (ds n M s:Int) (rd:Bool) (f g:Nat) (k1:Int) (i:TIns) (last:Bool):Bool :=
 decide (g≤f∧(f:Int)≤M∧1≤i.1∧i.1≤8∧0≤i.2∧i.2<M∧(i.1=8↔last=true)∧i≠(0,0)) &&
 decide (i.1=1→0<s∧i.2=f∧k1≠1) &&
 decide (i.1=2→i.2=f∧(0<s→k1=1)) &&
 decide (i.1=3→s<n-1∧i.2=(f:Int)-1∧k1=2) &&
 decide (i.1=4→s<n-1∧i.2=g) &&
 decide (i.1=5→rd=true∧i.2=g∧g<f∧(s<n-1→k1=4)) &&
 decide (i.1=6→i.2=g∧g<f∧(rd=true→k1=5)∧(rd=false→s<n-1→k1=4)) &&
 decide (i.1=7→0<s∧i.2=(g:Int)-1∧k1=6) &&
 decide (i.1=8→(f:Int)=M∧(g:Int)=M∧k1≠0) &&
 decide (k1=1→i.1=2)&&decide (k1=2→s<n-1→i.1=3)&&decide (k1=4→i.1=5∨i.1=6)&&decide (k1=5→i.1=6)&&decide (k1=6→0<s→i.1=7) &&
 decide (k1=5→rd=true)&&decide (k1=6→1≤g)&&decide (k1=2→1≤f)&&decide (k1≠8)&&decide (k1=4→s<n-1)&&decide (k1=1→0<s) &&
 decide (k1=4∨k1=5→g<f)&&decide (k1=1→(f:Int)<M) &&
 decide (s<n-1→(scOf f k1:Int)<M→tm ds n M s i≤tm ds n M s (3,(scOf f k1:Int))) &&
 decide (0<s→(rcOf f k1:Int)<M→tm ds n M s i≤tm ds n M s (1,(rcOf f k1:Int))) &&
 decide (s<n-1→(rgOf n s g k1:Int)<M→tm ds n M s i≤tm ds n M s (4,(rgOf n s g k1:Int))) &&
 decide (0<s→(sgQ g k1:Int)<M→tm ds n M s i≤tm ds n M s (7,(sgQ g k1:Int))) &&
 decide (ds=2→(f:Int)-g≤n-s)&&decide (ds=2→i.1=2→(f:Int)-g<n-s)
def QpA (M:Int) (f g:Nat) (k1:Int):Bool:=decide ((f:Int)=M∧(g:Int)=M∧k1=8)
def kf (i:TIns):Nat:=if i.1=2 then 1 else 0
def kg (i:TIns):Nat:=if i.1=6 then 1 else 0
def Qdn (ds n M s:Int) (rd:Bool):List TIns→Nat→Nat→Int→Bool
 | [],f,g,k1=>QpA M f g k1
 | i::r,f,g,k1=>Qkj ds n M s rd f g k1 i r.isEmpty&&Qdn ds n M s rd r (f+kf i) (g+kg i) i.1
def Qt4:Bool:=[1,2].all fun ds:Int=>[1,2,3,4].all fun n:Int=>[0,1,2,3].all fun s:Int=>[1,2,3,4,5].all fun M:Int=>[true,false].all fun rd =>
 !(decide (s<n))||Qdn ds n M s rd (Yr ds n s M rd) 0 0 0
set_option maxRecDepth 100000 in
theorem QRT:Qt4=true:=by kernel_rfl
theorem QKp {ds n s M:Int} (rd:Bool) (h1:1≤ds) (h2:ds≤2) (h3:n≤4) (h4:0≤s) (h5:s<n) (h6:1≤M) (h7:M≤5):Qdn ds n M s rd (Yr ds n s M rd) 0 0 0=true:=by
 have h:=QRT
 unfold Qt4 at h
 rw [List.all_eq_true] at h
 have h:=h ds (by have:ds=1∨ds=2:=(by omega);rcases this with rfl | rfl <;> simp)
 rw [List.all_eq_true] at h
 have h:=h n (by have:n=1∨n=2∨n=3∨n=4:=(by omega);rcases this with rfl | rfl | rfl | rfl <;> simp)
 rw [List.all_eq_true] at h
 have h:=h s (by have:s=0∨s=1∨s=2∨s=3:=(by omega);rcases this with rfl | rfl | rfl | rfl <;> simp)
 rw [List.all_eq_true] at h
 have h:=h M (by have:M=1∨M=2∨M=3∨M=4∨M=5:=(by omega);rcases this with rfl | rfl | rfl | rfl | rfl <;> simp)
 rw [List.all_eq_true] at h
 have h:=h rd (by cases rd <;> simp)
 simpa [h5] using h
def cf (l:List TIns):Nat:=(l.map kf).sum
def cg (l:List TIns):Nat:=(l.map kg).sum
def Y9 (l:List TIns) (k:Nat):Int:=if k=0 then 0 else (gtd dIns l (k-1)).1
theorem Qmr {ds n M s:Int} {rd:Bool}:∀ (l:List TIns) (f g:Nat) (k1:Int),Qdn ds n M s rd l f g k1=true→∀ k,k≤l.length →
  (∀ i,l[k]? = some i→Qkj ds n M s rd (f+cf (l.take k)) (g+cg (l.take k)) (if k=0 then k1 else Y9 l k) i (decide (k+1=l.length))=true) ∧
  (k=l.length→QpA M (f+cf (l.take k)) (g+cg (l.take k)) (if k=0 then k1 else Y9 l k)=true)
 | [],f,g,k1,h,k,hk=>by
  have:k=0:=by simpa using hk
  subst this
  simp only [Qdn] at h
  exact ⟨fun i hi=>by simp at hi,fun _=>by simpa [cf,cg] using h⟩
 | i::r,f,g,k1,h,k,hk=>by
  simp only [Qdn,Bool.and_eq_true] at h
  cases k with
  | zero =>
   refine ⟨fun j hj=>?_,fun h0=>by simp at h0⟩
   simp at hj
   subst hj
   have:r.isEmpty=decide (0+1=(i::r).length):=by cases r <;> simp
   rw [← this]
   simpa [cf,cg] using h.1
  | succ k =>
   have ih:=Qmr r (f+kf i) (g+kg i) i.1 h.2 k (by simpa using hk)
   have e1:f+cf ((i::r).take (k+1))=f+kf i+cf (r.take k):=by simp [cf];omega
   have e2:g+cg ((i::r).take (k+1))=g+kg i+cg (r.take k):=by simp [cg];omega
   have e3:(if k=0 then i.1 else Y9 r k)=Y9 (i::r) (k+1):=by
    unfold Y9
    cases k with
    | zero=>simp [gtd]
    | succ k=>simp [gtd]
   rw [e1,e2,if_neg (by omega),← e3]
   refine ⟨fun j hj=>?_,fun h0=>ih.2 (by simpa using h0)⟩
   have:=ih.1 j (by simpa using hj)
   rw [show decide (k+1+1=(i::r).length)=decide (k+1=r.length) by simp]
   exact this
end Go.Proofs.YtjbdljkhbglnhaaGreat.Am
namespace Go.Proofs.YtjbdljkhbglnhaaGreat.Am
open Go Sz
theorem J8 (x:Int):-2147483647≤QT x∧QT x≤2147483647:=by unfold QT iMin iMax;split <;> split <;> omega
theorem QiA {x:Int}:Zb x=true↔-2147483647≤x∧x≤2147483647:=by simp [Zb]
theorem QKn (x:Int):Zb (QT x)=true:=QiA.2 (J8 x)
theorem Qzz {x:Int} (h:Zb x=true):QT x=x:=by
 have:=QiA.1 h
 unfold QT iMin iMax;split <;> split <;> omega
theorem Qlw (x:Int):Zb (YA x).1=true:=QKn x
theorem Qmp (a b:Int):Zb (Q4 a b).1=true:=Qlw _
theorem QGK (a b:Int):Zb (JF a b).1=true:=Qlw _
theorem QSc (a b:Int):Zb (Zp a b).1=true:=Qlw _
theorem QJB (a:Int):Zb (Qai a)=true:=by
 have:=J8 a
 rw [QiA];unfold Qai iMax;split <;> omega
theorem QJP {a:Int} (h:Zb a=true):Q4 a 0=(a,false):=by
 have e:QT 0=0:=rfl
 unfold Q4 YA
 rw [e,Int.add_zero,Qzz h,Qzz h,h];rfl
theorem QsW {x:Int} {l:List Int}:ZD (x::l)=(Zb x&&ZD l):=rfl
theorem ZZ {v:List Int}:QK v=true↔(1≤v.length∧v.length≤6)∧ZD v=true:=by
 simp only [QK,Bool.and_eq_true,QS]
 constructor
 ·rintro ⟨h1,h2⟩;exact ⟨by omega,h2⟩
 ·rintro ⟨h1,h2⟩;exact ⟨by omega,h2⟩
theorem YW {v:List Int} {n:Int}:Qq v n=true↔QK v=true∧(v.length:Int)=n:=by simp [Qq]
theorem Qm7 (f:Int→Int→Int × Bool):∀ a b:List Int,(vz f a b).1.length=min a.length b.length
 | [],b=>by simp [vz]
 | a::aa,[]=>by simp [vz]
 | a::aa,b::bb=>by simp [vz,Qm7 f aa bb]
theorem QEI {f:Int→Int→Int × Bool} (hf:∀ a b,Zb (f a b).1=true):∀ a b:List Int,ZD (vz f a b).1=true
 | [],b=>by simp [vz,ZD]
 | a::aa,[]=>by simp [vz,ZD]
 | a::aa,b::bb=>by simp only [vz,QsW,hf,QEI hf aa bb,Bool.and_self]
theorem QsS (f:Int→Int × Bool):∀ a:List Int,(v1 f a).1.length=a.length
 | []=>rfl
 | a::aa=>by simp [v1,QsS f aa]
theorem QEn {f:Int→Int × Bool} (hf:∀ a,Zb (f a).1=true):∀ a:List Int,ZD (v1 f a).1=true
 | []=>rfl
 | a::aa=>by simp only [v1,QsW,hf,QEn hf aa,Bool.and_self]
theorem Qvp:∀ (a b:List Int) (z:Int),Zb z=true→Zb (Y7 a b z).1=true
 | [],b,z,h=>by simpa [Y7] using h
 | a::aa,[],z,h=>by simpa [Y7] using h
 | a::aa,b::bb,z,h=>by rw [Y7];exact Qvp aa bb _ (Qmp _ _)
theorem QpE (a b:List Int):Zb (Q1 a b).1=true:=by
 unfold Q1;split
 ·exact Qvp _ _ _ rfl
 ·rfl
theorem JQ {a b:List Int}:ZI a b=true↔QK a=true∧QK b=true∧b.length=a.length:=by
 unfold ZI;rw [Bool.and_eq_true,YW]
 constructor <;> (intro h;exact ⟨h.1,h.2.1,by omega⟩)
theorem QAY {f:Int→Int→Int × Bool} (hf:∀ a b,Zb (f a b).1=true) {a b:List Int} (h:ZI a b=true):Qq (vz f a b).1 a.length=true:=by
 obtain ⟨h1,h2,h3⟩:=JQ.1 h
 have:=(ZZ.1 h1).1
 have hl:=Qm7 f a b
 exact YW.2 ⟨ZZ.2 ⟨by omega,QEI hf a b⟩,by omega⟩
theorem QpH {a b:List Int} (h:ZI a b=true):Qq (Zm a b).1 a.length=true:=by unfold Zm;rw [if_pos h];exact QAY Qmp h
theorem QSC {a b:List Int} (h:ZI a b=true):Qq (Zg a b).1 a.length=true:=by unfold Zg;rw [if_pos h];exact QAY QGK h
theorem Qpi {a b:List Int} {n:Int} (h1:Qq a n=true) (h2:Qq b n=true):ZI a b=true:=by
 obtain ⟨h3,h4⟩:=YW.1 h1
 obtain ⟨h5,h6⟩:=YW.1 h2
 exact JQ.2 ⟨h3,h5,by omega⟩
theorem QA0 {c:Int} {a:List Int} (hc:Zb c=true) (h:QK a=true):Qq (ZC c a).1 a.length=true:=by
 unfold ZC
 rw [hc,h,Bool.and_self,if_pos rfl]
 have:=(ZZ.1 h).1
 have hl:=QsS (Zp c) a
 exact YW.2 ⟨ZZ.2 ⟨by omega,QEn (QSc c) a⟩,by omega⟩
theorem QOF {α:Type} {f:α→Int} (hf:∀ a,Zb (f a)=true) (l:List α):ZD (l.map f)=true:=by
 unfold ZD;rw [List.all_eq_true];intro x hx
 obtain ⟨a,_,rfl⟩:=List.mem_map.1 hx
 exact hf a
theorem Qqn {α:Type} {f:α→Int} (hf:∀ a,Zb (f a)=true) {l:List α} (h1:1≤l.length) (h2:l.length≤6):Qq (l.map f) l.length=true :=
 YW.2 ⟨ZZ.2 ⟨by simp;omega,QOF hf l⟩,by simp⟩
theorem QMZ {a:List Int} (h:QK a=true):Qq (Yo a) a.length=true:=by
 unfold Yo;rw [if_pos h]
 have:=(ZZ.1 h).1
 exact Qqn QJB (by omega) (by omega)
theorem QtO {m:TMat} {x:List Int} (h:(Zx m&&Qq x m.2.1)=true):Qq (Zn m x).1 m.1=true:=by
 unfold Zn;rw [if_pos h]
 have h1:1≤m.1∧m.1≤6:=by simp only [Zx,Bool.and_eq_true,QS] at h;omega
 have:=Qqn (f:=fun i:Nat=>(Q1 (Y4 m i) x).1) (fun i=>QpE _ _) (l:=List.range m.1.toNat) (by simp;omega) (by simp;omega)
 rw [List.length_range,show ((m.1.toNat:Nat):Int)=m.1 by omega] at this
 exact this
theorem QA3 {m:TMat} {x:List Int} (h:(Zx m&&Qq x m.1)=true):Qq (Zt m x).1 m.2.1=true:=by
 unfold Zt;rw [if_pos h]
 have h1:1≤m.2.1∧m.2.1≤6:=by simp only [Zx,Bool.and_eq_true,QS] at h;omega
 have:=Qqn (f:=fun i:Nat=>(Q1 (Z9 m i) x).1) (fun i=>QpE _ _) (l:=List.range m.2.1.toNat) (by simp;omega) (by simp;omega)
 rw [List.length_range,show ((m.2.1.toNat:Nat):Int)=m.2.1 by omega] at this
 exact this
theorem QKo {x d:List Int} (h:ZI x d=true):Qq (Yk x d) x.length=true:=by
 unfold Yk;rw [if_pos h]
 obtain ⟨h1,h2,h3⟩:=JQ.1 h
 have hl:=(ZZ.1 h1).1
 have hf:=(ZZ.1 h2).2
 refine YW.2 ⟨ZZ.2 ⟨by simp;omega,?_⟩,by simp;omega⟩
 unfold ZD at hf ⊢
 rw [List.all_eq_true] at hf ⊢
 intro y hy
 rw [List.mem_iff_getElem?] at hy
 obtain ⟨i,hi⟩:=hy
 rw [List.getElem?_zipWith] at hi
 split at hi
 ·rename_i a b ha hb
  cases hi
  split
  ·exact hf b (List.mem_of_getElem? hb)
  ·rfl
 ·cases hi
theorem QB9 {d x:List Int} (hd:QK d=true) (hx:QK x=true):(Zl d x).1.2.2.length=d.length*x.length:=by
 unfold Zl;rw [hd,hx,Bool.and_self,if_pos rfl]
 simp only
 generalize d=l
 clear hd
 induction l with
 | nil=>simp
 | cons a l ih=>rw [List.flatMap_cons,List.length_append,ih];simp [Nat.add_mul];omega
theorem QeF {o:TOp'} (h:Zd o=true):(o.2.2.2.length:Int)=(if o.1=1∨o.1=5 then o.2.1*o.2.2.1 else if o.1=2 then o.2.1 else if o.1=4 then 1 else 0):=by
 have h1:=QeK h
 simp only [Zd,Bool.and_eq_true,beq_iff_eq] at h
 rw [h.1.2]
 unfold Ya
 rw [show m_in o.2.1 1 6=true from QS.2 ⟨h1.1,h1.2.1⟩,show m_in o.2.2.1 1 6=true from QS.2 ⟨h1.2.2.1,h1.2.2.2⟩]
 rfl
theorem QiN {o:TOp'} (h:Zd o=true):ZD o.2.2.2=true:=by simp only [Zd,Bool.and_eq_true] at h;exact h.2
theorem opEq {o:TOp'} (h:Zd o=true) (h1:o.1≠1):o.2.1=o.2.2.1:=by
 simp only [Zd,Bool.and_eq_true,Bool.or_eq_true,beq_iff_eq] at h
 rcases h.1.1.2 with h | h
 ·exact absurd h h1
 ·exact h
theorem QgU {o:TOp'} (h:Zd o=true) (h1:o.1=1∨o.1=5):Zx (Q3 o)=true:=by
 have h2:=QeK h
 have h3:=QeF h
 rw [if_pos h1] at h3
 simp only [Zx,Q3,Bool.and_eq_true,QS,beq_iff_eq]
 refine ⟨⟨⟨⟨by omega,by omega⟩,by omega,by omega⟩,?_⟩,QiN h⟩
 rw [h3,Int.mul_comm]
theorem QnU {o:TOp'} {x:List Int} (ho:Zd o=true) (hx:Qq x o.2.1=true):Qq (Yz o x).1 o.2.2.1=true:=by
 have hx':=YW.1 hx
 unfold Yz
 rw [ho,hx,Bool.and_self,if_pos rfl]
 split
 ·rename_i h1
  exact QtO (m:=Q3 o) (by rw [QgU ho (.inl h1)];simpa [Q3] using hx)
 ·rename_i h1
  have he:=opEq ho h1
  rw [← he]
  split
  ·rename_i h2
   have h3:=QeF ho
   rw [if_neg (by omega),if_pos h2] at h3
   have h4:=QeK ho
   have hp:ZI x o.2.2.2=true:=JQ.2 ⟨hx'.1,ZZ.2 ⟨by omega,QiN ho⟩,by omega⟩
   rw [← hx'.2]
   exact QpH hp
  ·split
   ·rename_i h2 h3
    have h4:=QeF ho
    rw [if_neg (by omega),if_neg h2,if_pos h3] at h4
    have hf:Zb (gtd 0 o.2.2.2 0)=true:=by
     have:=QiN ho
     unfold ZD at this
     exact List.all_eq_true.1 this _ (Jc (by omega) 0)
    rw [← hx'.2]
    exact QA0 hf hx'.1
   ·split
    ·rename_i h5
     have hm:=QgU ho (.inr h5)
     have hy:Qq (Zn (Q3 o) x).1 o.2.2.1=true:=QtO (m:=Q3 o) (by rw [hm];simpa [Q3] using hx)
     rw [← he] at hy
     have:=QpH (Qpi hx hy)
     rwa [hx'.2] at this
    ·have:=QMZ hx'.1
     rwa [hx'.2] at this
theorem QYa {o:TOp'} {x d:List Int} (ho:Zd o=true) (hx:Qq x o.2.1=true) (hd:Qq d o.2.2.1=true) :
  Qq (Yl o x d).1 o.2.1=true∧(Yl o x d).2.1.length=o.2.2.2.length:=by
 have hx':=YW.1 hx
 have hd':=YW.1 hd
 have hs:=QeF ho
 unfold Yl
 rw [ho,hx,hd,Bool.and_self,Bool.and_self,if_pos rfl]
 split
 ·rename_i h1
  rw [if_pos (.inl h1)] at hs
  refine ⟨QA3 (m:=Q3 o) (by rw [QgU ho (.inl h1)];simpa [Q3] using hd),?_⟩
  have:=QB9 hd'.1 hx'.1
  show (Zl d x).1.2.2.length=_
  rw [this]
  have:((d.length*x.length:Nat):Int)=o.2.1*o.2.2.1:=by rw [Int.natCast_mul,hd'.2,hx'.2,Int.mul_comm]
  omega
 ·rename_i h1
  have he:=opEq ho h1
  split
  ·rename_i h2
   rw [if_neg (by omega),if_pos h2] at hs
   refine ⟨by rw [he];exact hd,?_⟩
   show d.length=_
   omega
  ·split
   ·rename_i h2 h3
    rw [if_neg (by omega),if_neg h2,if_pos h3] at hs
    have hf:Zb (gtd 0 o.2.2.2 0)=true:=by
     have:=QiN ho
     unfold ZD at this
     exact List.all_eq_true.1 this _ (Jc (by omega) 0)
    refine ⟨?_,?_⟩
    ·have:=QA0 hf hd'.1
     rw [hd'.2,← he] at this
     exact this
    ·show [(Q1 d x).1].length=_
     simp;omega
   ·split
    ·rename_i h2 h3 h5
     rw [if_pos (.inr h5)] at hs
     have hm:=QgU ho (.inr h5)
     have hy:Qq (Zt (Q3 o) d).1 o.2.1=true:=QA3 (m:=Q3 o) (by rw [hm];simpa [Q3] using hd)
     refine ⟨?_,?_⟩
     ·rw [he] at hy
      have:=QpH (Qpi hd hy)
      rw [hd'.2,← he] at this
      exact this
     ·have:=QB9 hd'.1 hx'.1
      show (Zl d x).1.2.2.length=_
      rw [this]
      have:((d.length*x.length:Nat):Int)=o.2.1*o.2.2.1:=by rw [Int.natCast_mul,hd'.2,hx'.2,Int.mul_comm]
      omega
    ·rename_i h2 h3 h5
     rw [if_neg (by omega),if_neg h2,if_neg h3] at hs
     have hp:ZI x d=true:=JQ.2 ⟨hx'.1,hd'.1,by omega⟩
     refine ⟨?_,by simp;omega⟩
     have:=QKo hp
     rw [hx'.2] at this
     exact this
theorem Qda:∀ (ops:List TOp') (x:List Int),(QG ops x).1.length=ops.length+1
 | [],x=>rfl
 | o::r,x=>by simp [QG,Qda r]
def Z8 (ops:List TOp') (x:List Int):List Int:=gtd [] (QG ops x).1 ops.length
theorem Qhy (x:List Int):Z8 [] x=x:=rfl
theorem QfS (o:TOp') (r:List TOp') (x:List Int):Z8 (o::r) x=Z8 r (Yz o x).1:=by
 unfold Z8;rw [QG];simp [gtd]
theorem Qxd:∀ (a b:List TOp') (x:List Int),QG (a++b) x=((QG a x).1.take a.length++(QG b (Z8 a x)).1,(QG a x).2||(QG b (Z8 a x)).2)
 | [],b,x=>by simp [QG,Qhy]
 | o::a,b,x=>by
  rw [List.cons_append,QG,Qxd a b,QfS,QG]
  simp [Bool.or_assoc]
theorem QUg (a b:List TOp') (x:List Int):Z8 (a++b) x=Z8 b (Z8 a x):=by
 induction a generalizing x with
 | nil=>rfl
 | cons o a ih=>rw [List.cons_append,QfS,QfS,ih]
theorem QYV (ops:List TOp') (x:List Int):gtd [] (QG ops x).1 0=x:=by cases ops <;> simp [QG,gtd]
theorem QNf (ops:List TOp') (x:List Int):(QG ops x).1.take ops.length++[Z8 ops x]=(QG ops x).1:=by
 unfold Z8
 have hl:=Qda ops x
 have:gtd [] (QG ops x).1 ops.length=(QG ops x).1[ops.length]'(by omega):=Qec (List.getElem?_eq_getElem (by omega)) []
 rw [this,List.take_append_getElem (by omega),List.take_of_length_le (by omega)]
theorem Qi9:∀ (ops:List TOp') (rows:List (List Int)) (d:List Int),ops.length≤rows.length→(QP ops rows d).1.length=ops.length
 | [],rows,d,_=>by simp [QP]
 | o::os,[],d,h=>by simp at h
 | o::os,r::rs,d,h=>by simp [QP,Qi9 os rs d (by simpa using h)]
theorem Qof:∀ (a b:List TOp') (ra rb:List (List Int)) (d:List Int),ra.length=a.length →
  QP (a++b) (ra++rb) d=((QP a ra (QP b rb d).2.1).1++(QP b rb d).1,(QP a ra (QP b rb d).2.1).2.1,(QP a ra (QP b rb d).2.1).2.2||(QP b rb d).2.2)
 | [],b,ra,rb,d,h=>by
  have:ra=[]:=List.eq_nil_of_length_eq_zero (by simpa using h)
  subst this
  simp [QP]
 | o::a,b,[],rb,d,h=>by simp at h
 | o::a,b,r::ra,rb,d,h=>by
  rw [List.cons_append,List.cons_append,QP,Qof a b ra rb d (by simpa using h),QP]
  simp [Bool.or_assoc]
theorem QF8:∀ (ops:List TOp') (rows more:List (List Int)) (d:List Int),rows.length=ops.length→QP ops (rows++more) d=QP ops rows d:=by
 intro ops rows more d h
 have:=Qof ops [] rows more d h
 rw [List.append_nil] at this
 rw [this]
 simp [QP]
end Go.Proofs.YtjbdljkhbglnhaaGreat.Am
namespace Go.Proofs.YtjbdljkhbglnhaaGreat.Am
open Go Sz
def Yd:Int→List TOp'→Int→Prop
 | i,[],o=>i=o
 | i,a::r,o=>Zd a=true∧a.2.1=i∧Yd a.2.2.1 r o
theorem Yd.append:∀ {a b:List TOp'} {i o:Int},Yd i (a++b) o↔∃ k,Yd i a k∧Yd k b o
 | [],b,i,o=>by simp [Yd]
 | x::a,b,i,o=>by
  rw [List.cons_append,Yd,Yd.append]
  constructor
  ·rintro ⟨h1,h2,k,h3,h4⟩;exact ⟨k,⟨h1,h2,h3⟩,h4⟩
  ·rintro ⟨k,⟨h1,h2,h3⟩,h4⟩;exact ⟨h1,h2,k,h3,h4⟩
theorem QuN:∀ {l:List TOp'} {p:Option Int},Yx p l=true→∃ i o,Yd i l o∧(∀ q,p=some q→l≠[]→q=i)
 | [],p,h=>⟨0,0,rfl,fun q _ h=>absurd rfl h⟩
 | a::r,p,h=>by
  simp only [Yx,Bool.and_eq_true] at h
  obtain ⟨i,o,h1,h2⟩:=QuN h.2
  have hp:∀ q,p=some q→a::r≠[]→q=a.2.1:=fun q hq _=>by
   have:=h.1.2
   rw [hq] at this
   simpa using this
  cases r with
  | nil=>exact ⟨a.2.1,a.2.2.1,⟨h.1.1,rfl,rfl⟩,hp⟩
  | cons b r =>
   have:=h2 _ rfl (by simp)
   rw [← this] at h1
   exact ⟨a.2.1,o,⟨h.1.1,rfl,h1⟩,hp⟩
theorem QAE:∀ {l:List TOp'} {i o:Int} {p:Option Int},Yd i l o→(∀ q,p=some q→q=i)→Yx p l=true
 | [],i,o,p,h,hp=>rfl
 | a::r,i,o,p,h,hp=>by
  obtain ⟨h1,h2,h3⟩:=h
  simp only [Yx,Bool.and_eq_true]
  refine ⟨⟨h1,?_⟩,QAE h3 (fun q hq=>by cases hq;rfl)⟩
  cases p with
  | none=>rfl
  | some q=>simp [hp q rfl,h2]
theorem Yd.out_eq:∀ {l:List TOp'} {i o:Int},Yd i l o→l≠[]→(gtd dOp l (l.length-1)).2.2.1=o
 | [],i,o,h,hn=>absurd rfl hn
 | [a],i,o,h,hn=>h.2.2
 | a::b::r,i,o,h,hn=>by
  have:=Yd.out_eq h.2.2 (by simp)
  simpa [gtd] using this
theorem QjT {l:List TOp'} {i o:Int} (h:Yd i l o) (h1:1≤l.length) (h2:l.length≤8):QU l=true∧Q6 l=i∧Q5 l=o:=by
 have hm:QU l=true:=by
  simp only [QU,Bool.and_eq_true,QS]
  exact ⟨by omega,QAE h (by simp)⟩
 refine ⟨hm,?_,?_⟩
 ·unfold Q6;rw [if_pos hm]
  cases l with
  | nil=>simp at h1
  | cons a r=>exact h.2.1
 ·unfold Q5;rw [if_pos hm]
  exact h.out_eq (by intro e;rw [e] at h1;simp at h1)
theorem QXq {l:List TOp'} (h:QU l=true):1≤l.length∧l.length≤8∧Yd (Q6 l) l (Q5 l):=by
 have hl:=Yn h
 refine ⟨hl.1,hl.2,?_⟩
 have h':=h
 simp only [QU,Bool.and_eq_true] at h'
 obtain ⟨i,o,h1,_⟩:=QuN h'.2
 have:=QjT h1 hl.1 hl.2
 rw [this.2.1,this.2.2]
 exact h1
theorem QDP:∀ {l:List TOp'} {i o:Int} {x:List Int},Yd i l o→Qq x i=true→Qq (Z8 l x) o=true
 | [],i,o,x,h,hx=>by rw [Qhy,← show i=o from h];exact hx
 | a::r,i,o,x,h,hx=>by
  obtain ⟨h1,h2,h3⟩:=h
  rw [QfS]
  exact QDP h3 (QnU h1 (by rw [h2];exact hx))
theorem QoK:∀ {l:List TOp'} {i o:Int} {x d:List Int},Yd i l o→Qq x i=true→Qq d o=true →
  Qq (QP l (QG l x).1 d).2.1 i=true∧Z1 l (QP l (QG l x).1 d).1=true
 | [],i,o,x,d,h,hx,hd=>by
  refine ⟨?_,rfl⟩
  show Qq d i=true
  rw [show i=o from h];exact hd
 | a::r,i,o,x,d,h,hx,hd=>by
  obtain ⟨h1,h2,h3⟩:=h
  rw [QG]
  have hx':Qq x a.2.1=true:=by rw [h2];exact hx
  have ih:=QoK h3 (QnU h1 hx') hd
  have:=QYa h1 hx' ih.1
  rw [QP]
  refine ⟨by rw [← h2];exact this.1,?_⟩
  simp only [Z1,Bool.and_eq_true,beq_iff_eq]
  exact ⟨this.2,ih.2⟩
theorem QrM (all:List TOp') {o:Int}:∀ {l:List TOp'} {i:Int} {x:List Int} {k:Nat},Yd i l o→all.drop k=l→k≤all.length→(l=[]→Jd all k=i)→Qq x i=true→Yi all k (QG l x).1=true
 | [],i,x,k,h,hk,hle,hs,hx=>by
  simp only [QG,Yi,Bool.and_true]
  rw [hs rfl];exact hx
 | a::r,i,x,k,h,hk,hle,hs,hx=>by
  obtain ⟨h1,h2,h3⟩:=h
  have hlt:=QfB hk
  have hx':Qq x a.2.1=true:=by rw [h2];exact hx
  simp only [QG,Yi,Bool.and_eq_true]
  refine ⟨?_,QrM all h3 (ZY hk) hlt (fun hr=>?_) (QnU h1 hx')⟩
  ·unfold Jd;rw [if_pos hlt,Yb hk];exact hx'
  ·have:all.length=k+1:=by have:=QvG hk;rw [hr] at this;simp at this;omega
   unfold Jd
   rw [if_neg (by omega),show all.length-1=k by omega,Yb hk]
theorem QNJ {l:List TOp'} {i o:Int} {x:List Int} (h:Yd i l o) (hl:l≠[]) (hx:Qq x i=true):Yi l 0 (QG l x).1=true :=
 QrM l h (by simp) (by simp) (fun h0=>absurd h0 hl) hx
theorem QfT:∀ (ops:List TOp') (rows:List (List Int)) (k n:Nat),Yi ops k rows=true→Yi ops k (rows.take n)=true
 | ops,[],k,n,h=>by simp [Yi]
 | ops,r::rs,k,0,h=>by simp [Yi]
 | ops,r::rs,k,n+1,h=>by
  simp only [Yi,List.take_succ_cons,Bool.and_eq_true] at h ⊢
  exact ⟨h.1,QfT ops rs (k+1) n h.2⟩
theorem QJC (a b:List TOp') (x d:List Int) :
  QP (a++b) (QG (a++b) x).1 d =
   ((QP a (QG a x).1 (QP b (QG b (Z8 a x)).1 d).2.1).1++(QP b (QG b (Z8 a x)).1 d).1,
    (QP a (QG a x).1 (QP b (QG b (Z8 a x)).1 d).2.1).2.1,
    (QP a (QG a x).1 (QP b (QG b (Z8 a x)).1 d).2.1).2.2||(QP b (QG b (Z8 a x)).1 d).2.2):=by
 have hl:=Qda a x
 have ht:((QG a x).1.take a.length).length=a.length:=by simp;omega
 rw [Qxd]
 simp only
 rw [Qof a b _ _ d ht]
 have e:∀ d',QP a ((QG a x).1.take a.length) d'=QP a (QG a x).1 d':=fun d'=>by
  rw [← QF8 a _ [Z8 a x] d' ht,QNf]
 rw [e]
theorem QA5:∀ (a b:List (List Int)),(ZB a b).1.length=min a.length b.length
 | [],b=>by simp [ZB]
 | x::a,[]=>by simp [ZB]
 | x::a,y::b=>by simp [ZB,QA5 a b]
theorem Qq5:∀ {ops:List TOp'} {a b:List (List Int)},a.length=ops.length→b.length=ops.length→Z1 ops a=true→Z1 ops b=true→Z1 ops (ZB a b).1=true
 | [],a,b,h1,h2,h3,h4=>by
  have:a=[]:=List.eq_nil_of_length_eq_zero (by simpa using h1)
  subst this
  simp [ZB,Z1]
 | o::ops,[],b,h1,h2,h3,h4=>by simp at h1
 | o::ops,x::a,[],h1,h2,h3,h4=>by simp at h2
 | o::ops,x::a,y::b,h1,h2,h3,h4=>by
  simp only [Z1,Bool.and_eq_true,beq_iff_eq] at h3 h4
  simp only [ZB,Z1,Bool.and_eq_true,beq_iff_eq]
  refine ⟨?_,Qq5 (by simpa using h1) (by simpa using h2) h3.2 h4.2⟩
  rw [Qm7];omega
end Go.Proofs.YtjbdljkhbglnhaaGreat.Am
namespace Go.Proofs.YtjbdljkhbglnhaaGreat.Am
open Go Sz
def Qu {α:Type} [Sz α] (x:α):Prop:=sz x≤2147483648
def Z0 {α β:Type} [Sz α] [Sz β] (x:α) (y:β):Prop:=sz x+sz y≤2147483648
def p_st (st s m:Int):Prop:=-1000≤st∧st≤1000
def QcQ (l:List TIns) (st s m:Int):List TIns:=l++QaG st s m
def QeM (l:List TIns) (st s m:Int) (redo:Bool):List TIns:=l++QeA st s m redo
def p_l9 (l:List TIns) (st s m:Int):Prop:=p_st st s m∧l.length≤1000000
def Qoe (l:List TIns) (st s m:Int) (_:Bool):Prop:=p_l9 l st s m
def QkI (ops:List TOp') (x:List Int):Prop:=ops.length≤1000000∧x.length≤1000000
def QoE (m:TMat) (i:Int):Prop:=0≤m.2.1∧m.2.1≤6∧0≤i∧i<m.1∧m.1≤6∧(m.2.2.length:Int)=m.1*m.2.1
def Qne (m:TMat) (k:Int):Prop:=m.2.1≤6∧0≤k∧k<m.2.1∧0≤m.1∧m.1≤6∧(m.2.2.length:Int)=m.1*m.2.1
@[simp] theorem Za {α:Type} (v:List α) (e:α):List.take (v.length+1) (List.take v.length v++[e])=v++[e]:=by
 rw [List.take_length,List.take_of_length_le (by simp)]
@[simp] theorem QZI {α:Type} (v xs:List α):List.take (v.length+xs.length) (List.take v.length v++xs)=v++xs:=by
 rw [List.take_length,List.take_of_length_le (by simp)]
theorem Jn {α:Type} {l:List α} {k:Nat} (h:k<l.length):∃ y q,l.drop k=y::q:=by
 cases hq:l.drop k with
 | nil=>have:=congrArg List.length hq;simp at this;omega
 | cons y q=>exact ⟨y,q,rfl⟩
theorem YM {α:Type} {v:List α} {k:Nat} {x:α} (h:v.length=k):(v++[x]).length=k+1:=by simp [h]
theorem room {n:Nat} (h:n+1≤2147483648):(n=n∨n+1≤n)∧n+1≤big:=⟨.inl rfl,by rw [Q9];omega⟩
theorem sc1 {k:Nat} (h:k<9223372036854775807):w64 ((k:Int)+1)=((k+1:Nat):Int):=by rw [Qt (by omega) (by omega)];omega
theorem QrT (a b:Int):-4611686018427387904≤QT a*QT b∧QT a*QT b≤4611686018427387904:=by
 obtain ⟨h1,h2⟩:=J8 a
 obtain ⟨h3,h4⟩:=J8 b
 generalize QT a=x at *
 generalize QT b=y at *
 have hx:x.natAbs≤2147483647:=by omega
 have hy:y.natAbs≤2147483647:=by omega
 have h:=Nat.mul_le_mul hx hy
 rw [← Int.natAbs_mul] at h
 omega
theorem QG1 (x:Int):(if 2147483647<(if x < -2147483647 then -2147483647 else x) then 2147483647 else (if x < -2147483647 then -2147483647 else x))=QT x:=by
 unfold QT iMin iMax;repeat' split
 all_goals omega
theorem QVK (a:Int):(if ((Int.tmod a 65536 != 0)&&(!(decide (a<0)==decide ((65536:Int)<0))))=true then Int.tdiv a 65536-1 else Int.tdiv a 65536)=Int.fdiv a 65536:=by
 rw [Int.fdiv_eq_ediv_of_nonneg _ (by omega),Int.tmod_eq_emod,Int.tdiv_eq_ediv]
 have hs:Int.sign 65536=1:=rfl
 rw [hs]
 by_cases h:0≤a
 ·have:decide (a<0)=false:=by simp;omega
  simp [h,this]
 ·have:decide (a<0)=true:=by simp;omega
  by_cases h2:(65536:Int) ∣ a
  ·have:a % 65536=0:=Int.emod_eq_zero_of_dvd h2
   simp [h,h2,this]
  ·have:a % 65536≠0:=fun e=>h2 (Int.dvd_of_emod_eq_zero e)
   simp [h,h2,this]
   omega
theorem idx {r R C:Int} (h1:0≤r) (h2:r<R) (h3:0≤C):0≤r*C∧r*C+C≤R*C∧(r+1)*C=r*C+C:=by
 have h4:(r+1)*C=r*C+C:=by rw [Int.add_mul,Int.one_mul]
 have h5:=Int.mul_le_mul_of_nonneg_right (show r+1≤R by omega) h3
 exact ⟨Int.mul_nonneg h1 h3,by omega,h4⟩
theorem Qdu {m:TMat} (h:Zx m=true):1≤m.1∧m.1≤6∧1≤m.2.1∧m.2.1≤6∧(m.2.2.length:Int)=m.1*m.2.1∧m.1*m.2.1≤36∧ZD m.2.2=true:=by
 simp only [Zx,Bool.and_eq_true,QS,beq_iff_eq] at h
 have:=Qc5 h.1.1.1.1 h.1.1.1.2 h.1.1.2.1 h.1.1.2.2
 exact ⟨h.1.1.1.1,h.1.1.1.2,h.1.1.2.1,h.1.1.2.2,h.1.2,this.2,h.2⟩
theorem Qm5 {f:Nat→Bool} {k:Nat}:(List.range (k+1)).any f=((List.range k).any f||f k):=by rw [List.range_succ,List.any_append];simp
theorem Qgd {α:Type} {f:Nat→α} {k:Nat}:(List.range (k+1)).map f=(List.range k).map f++[f k]:=by rw [List.range_succ,List.map_append];rfl
theorem Qem {α:Type} {f:Nat→List α} {k:Nat}:(List.range (k+1)).flatMap f=(List.range k).flatMap f++f k:=by rw [List.range_succ,List.flatMap_append];simp
theorem Qog {α:Type} {f:Nat→List α} {R:Nat} (n:Nat) (h:∀ k,k<n→(f k).length=R):((List.range n).flatMap f).length=n*R:=by
 induction n with
 | zero=>simp
 | succ n ih=>rw [Qem,List.length_append,ih (fun k hk=>h k (by omega)),h n (by omega),Nat.add_mul];omega
theorem Qs9 {α:Type} {f:Nat→List α} {R:Nat} {k:Nat}:∀ (n:Nat),k<n→(∀ k,k<n→(f k).length=R)→(((List.range n).flatMap f).drop (k*R)).take R=f k
 | 0,hk,_=>by omega
 | n+1,hk,h=>by
  have hl:=Qog n (fun k hk=>h k (by omega))
  rw [Qem]
  by_cases e:k=n
  ·subst e
   rw [List.drop_append,List.drop_eq_nil_of_le (by omega),hl,Nat.sub_self,List.drop_zero,List.nil_append,List.take_of_length_le (by rw [h k (by omega)];exact Nat.le_refl _)]
  ·have ih:=Qs9 (k:=k) n (by omega) (fun k hk=>h k (by omega))
   have:(k+1)*R≤n*R:=Nat.mul_le_mul_right R (show k+1≤n by omega)
   rw [Nat.add_mul,Nat.one_mul] at this
   rw [List.drop_append_of_le_length (by omega),List.take_append_of_le_length (by rw [List.length_drop,hl];omega),ih]
theorem QpY (m:TMat) (k:Int):(Z9 m k).length=m.1.toNat:=by simp [Z9]
theorem QVO {m:TMat} (h:Zx m=true) {k:Nat} (hk:(k:Int)<m.2.1):ZD (Z9 m k)=true:=by
 obtain ⟨h1,h2,h3,h4,h5,h6,h7⟩:=Qdu h
 unfold ZD Z9
 rw [List.all_eq_true]
 intro x hx
 obtain ⟨i,hi,rfl⟩:=List.mem_map.1 hx
 have hi:=List.mem_range.1 hi
 have hd:=idx (r:=i) (R:=m.1) (C:=m.2.1) (by omega) (by omega) (by omega)
 unfold ZD at h7
 generalize (i:Int)*m.2.1=z at *
 generalize m.1*m.2.1=y at *
 exact List.all_eq_true.1 h7 _ (Jc (show Int.toNat (z+k)<m.2.2.length by omega) 0)
theorem QNZ {m:TMat} (h:Zx m=true):Zx (YX m)=true∧(YX m).1=m.2.1∧(YX m).2.1=m.1∧∀ k:Nat,(k:Int)<m.2.1→Y4 (YX m) k=Z9 m k:=by
 obtain ⟨h1,h2,h3,h4,h5,h6,h7⟩:=Qdu h
 have ht:YX m=(m.2.1,m.1,(List.range m.2.1.toNat).flatMap fun k:Nat=>Z9 m k):=by unfold YX;rw [if_pos h]
 have hl:=Qog (f:=fun k:Nat=>Z9 m k) m.2.1.toNat (fun k hk=>QpY m k)
 have hn:((m.2.1.toNat*m.1.toNat:Nat):Int)=m.2.1*m.1:=by rw [Int.natCast_mul,Int.toNat_of_nonneg (by omega),Int.toNat_of_nonneg (by omega)]
 rw [ht]
 refine ⟨?_,rfl,rfl,fun k hk=>?_⟩
 ·simp only [Zx,Bool.and_eq_true,QS,beq_iff_eq]
  refine ⟨⟨⟨⟨h3,h4⟩,h1,h2⟩,by rw [hl,hn]⟩,?_⟩
  unfold ZD
  rw [List.all_eq_true]
  intro x hx
  obtain ⟨k,hk,hx⟩:=List.mem_flatMap.1 hx
  have:=QVO h (k:=k) (by have:=List.mem_range.1 hk;omega)
  unfold ZD at this
  exact List.all_eq_true.1 this x hx
 ·have hs:=Qs9 (f:=fun k:Nat=>Z9 m k) (k:=k) m.2.1.toNat (by omega) (fun k hk=>QpY m k)
  have hd:=idx (r:=k) (R:=m.2.1) (C:=m.1) (by omega) hk (by omega)
  have e1:Int.toNat ((k:Int)*m.1)=k*m.1.toNat:=by
   have:((k*m.1.toNat:Nat):Int)=(k:Int)*m.1:=by rw [Int.natCast_mul,Int.toNat_of_nonneg (by omega)]
   omega
  unfold Y4 slice
  simp only
  rw [show Int.toNat (((k:Int)+1)*m.1)-Int.toNat ((k:Int)*m.1)=m.1.toNat by omega,e1]
  exact hs
theorem QYE {m:TMat} {d:List Int} (h:Zx m=true) (hd:Qq d m.1=true):Zn (YX m) d=Zt m d:=by
 obtain ⟨h1,h2,h3,h4⟩:=QNZ h
 unfold Zn Zt
 rw [if_pos (by rw [h1,h3,hd];rfl),if_pos (by rw [h,hd];rfl),h2]
 have e:∀ i,i∈List.range m.2.1.toNat→Y4 (YX m) (i:Nat)=Z9 m (i:Nat):=fun i hi=>h4 i (by have:=List.mem_range.1 hi;omega)
 refine Prod.ext (List.map_congr_left fun i hi=>by rw [e i hi]) ?_
 show (List.range m.2.1.toNat).any _=(List.range m.2.1.toNat).any _
 rw [Bool.eq_iff_iff,List.any_eq_true,List.any_eq_true]
 constructor
 ·rintro ⟨i,hi,h⟩;exact ⟨i,hi,by rw [← e i hi];exact h⟩
 ·rintro ⟨i,hi,h⟩;exact ⟨i,hi,by rw [e i hi];exact h⟩
theorem Qtl {m:TMat} {d:List Int} (h:¬ (Zx m=true∧Qq d m.1=true)):Zt m d=([],false):=by unfold Zt;rw [if_neg (by simpa using h)]
theorem QwZ {m:TMat} {d:List Int} (h:¬ (Zx m=true∧Qq d m.2.1=true)):Zn m d=([],false):=by unfold Zn;rw [if_neg (by simpa using h)]
theorem QjF {x:Int} (h:0≤x):0≤QT x:=by
 unfold QT iMin iMax
 repeat' split
 all_goals omega
theorem Qwl:∀ (a:List Int) (z:Int),0≤z→0≤(Y7 a a z).1
 | [],z,h=>by simpa [Y7] using h
 | x::r,z,h=>by
  rw [Y7]
  refine Qwl r _ ?_
  have h1:0≤QT x*QT x:=by
   rcases Int.le_total 0 (QT x) with h2 | h2
   ·exact Int.mul_nonneg h2 h2
   ·exact Int.mul_nonneg_of_nonpos_of_nonpos h2 h2
  have h3:0≤Int.fdiv (QT x*QT x) 65536:=by rw [Int.fdiv_eq_ediv_of_nonneg _ (by omega)];omega
  have h4:0≤(Zp x x).1:=QjF h3
  have h5:=QjF h
  have h6:=QjF h4
  exact QjF (by omega)
theorem QH9 (a:List Int):0≤(Q1 a a).1:=by
 unfold Q1;split
 ·exact Qwl a 0 (by omega)
 ·show (0:Int)≤0;omega
theorem Qqa (x:List Int) (n:Int):(!(QK x)||((x.length:Int) != n)) = !(Qq x n):=by unfold Qq;simp [bne]
theorem Qkq {o:TOp'} (h:Zd o=true) (h4:o.1=4):0<o.2.2.2.length:=by
 have:=QeF h
 rw [if_neg (by omega),if_neg (by omega),if_pos h4] at this
 omega
theorem Qtm {o:TOp'} {x:List Int} (h:¬ (Zd o=true∧Qq x o.2.1=true)):Yz o x=([],false):=by unfold Yz;rw [if_neg (by simpa using h)]
theorem QBQ {o:TOp'} {x d:List Int} (h:¬ ((Zd o=true∧Qq x o.2.1=true)∧Qq d o.2.2.1=true)):Yl o x d=([],[],false):=by unfold Yl;rw [if_neg (by simpa using h)]
theorem Qji {o:TOp'} (h:Zd o=true):1≤o.1∧o.1≤5:=by simp only [Zd,Bool.and_eq_true,QS] at h;exact h.1.1.1.1.1
theorem Qel {α:Type} (v:List α):List.take (id v).length (List.drop 0 (id v))=v:=by simp
theorem QbW {α:Type} (v:List α):List.take (0+v.length) (List.drop 0 v)=v:=by simp
theorem Qam {α:Type} (v:List α):List.take v.length (List.drop 0 v)=v:=by simp
theorem Qkw {α:Type} {l:List α} {k:Nat} (h:l.length≤k):l.drop k=[]:=List.drop_eq_nil_of_le h
theorem QHA (n:Nat) (x:Int):List.take n (List.drop 0 (List.replicate n x))=List.replicate n x:=by rw [List.drop_zero,List.take_of_length_le (by simp)]
theorem Jj {α:Type} [Sz α] {l:List α} {A:Int→List α→Prop} {Q:List α→Prop} (hs:sz l≤2147483648)
  (hA:∀ (k:Nat) (x:α) (v:List α),k<l.length→l.length≤2147483648→(∀ d,gtd d l k=x)→v.length=k→sz x≤2147483648→A ((k+1:Nat):Int) (v++[x])→A (k:Nat) v)
  (hE:Q l→A (l.length:Nat) l) (hq:Q l):A 0 []:=by
 have hl:=YP l
 refine Zj l (fun r k=>∀ v,v.length=k→v++r=l→A k v) ?_ ?_ [] rfl rfl
 ·intro v hv he
  rw [List.append_nil] at he
  subst he
  exact hE hq
 ·intro k x r hk hlt hg ih v hv he
  have hx:=Qfv hk
  exact hA k x v hlt (by omega) hg hv (by omega) (ih _ (YM hv) (by rw [← he];simp))
theorem Qng {o:TOp'} (h:Zd o=true):o.2.2.2.length≤36:=by
 have h1:=QeF h
 have h2:=QeK h
 have h3:=Qc5 h2.1 h2.2.1 h2.2.2.1 h2.2.2.2
 split at h1
 ·omega
 ·split at h1
  ·omega
  ·split at h1 <;> omega
theorem Qm0 {m:Zf} (h:QU m=true) {k:Nat} (hk:k<m.length):Zd (gtd dOp m k)=true:=by
 simp only [QU,Bool.and_eq_true] at h
 exact (QgL h.2 k _ (Y3 hk dOp)).1
theorem QgS {α:Type} (d:α) {v:List α} {k:Nat} (h:v.length=k+1):v.take k++[gtd d v k]=v:=by
 have h1:gtd d v k=v[k]'(by omega):=Qec (List.getElem?_eq_getElem (by omega)) d
 rw [h1,List.take_append_getElem (by omega),List.take_of_length_le (by omega)]
theorem QxG {α:Type} (d:α) {v:List α} {n:Nat} (y:α) (h:v.length=n):gtd d (v++[y]) n=y:=by
 refine Qec ?_ d
 rw [List.getElem?_append_right (by omega)];simp [h]
theorem QsJ {α:Type} {v:List α} {n:Nat} (y:α) (h:v.length=n):(v++[y]).take n=v:=by
 rw [List.take_append_of_le_length (by omega),List.take_of_length_le (by omega)]
theorem QrU {α:Type} (n:Nat) (e g:α) (l:List α):(List.replicate (n+1) e++l).set n g=List.replicate n e++g::l:=by
 rw [List.replicate_succ',List.append_assoc,List.set_append_right _ _ (by simp)]
 simp
theorem QmE {m:Zf} {x:List Int} (h1:QU m=true) (h2:Qq x (Q6 m)=true):Ju m x=QG m x:=by unfold Ju;rw [if_pos (by rw [h1,h2];rfl)]
theorem Qve:∀ {ops:List TOp'} {rows:List (List Int)},rows.length=ops.length→(∀ o,o∈ops→Zd o=true)→Z1 ops rows=true→sz rows≤37*ops.length
 | [],[],_,_,_=>by simp
 | [],r::rs,h,_,_=>by simp at h
 | o::os,[],h,_,_=>by simp at h
 | o::os,r::rs,h,ho,hg=>by
  simp only [Z1,Bool.and_eq_true,beq_iff_eq] at hg
  have h1:=Qng (ho o List.mem_cons_self)
  have h2:=Qve (by simpa using h) (fun p hp=>ho p (List.mem_cons_of_mem _ hp)) hg.2
  have h3:=ZR r
  rw [JJ,List.length_cons];omega
theorem QsG {m:Zf} (h:QU m=true):∀ o,o∈m→Zd o=true:=by
 intro o ho
 obtain ⟨i,hi⟩:=List.getElem?_of_mem ho
 simp only [QU,Bool.and_eq_true] at h
 exact (QgL h.2 i o hi).1
theorem QKs {m:Zf} (h:QU m=true):(Yy m).1.length=m.length∧Z1 m (Yy m).1=true:=by
 unfold Yy
 rw [if_pos h]
 simp only [List.length_map,true_and]
 clear h
 induction m with
 | nil=>rfl
 | cons o l ih=>simp [Z1,ih]
theorem QkU {m:Zf} (h:QU m=true) {a:Q2} (h1:a.1.length=m.length∧Z1 m a.1=true):sz a≤296:=by
 have:=Qve h1.1 (QsG h) h1.2
 have:=Yn h
 simp only [ZQ,ZE,JP];omega
end Go.Proofs.YtjbdljkhbglnhaaGreat.Am

