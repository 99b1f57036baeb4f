/- -/
import Derived.Test.YtjbdljkhbglnhaaGreatZCG7
set_option linter.all false
namespace Go.Proofs.YtjbdljkhbglnhaaGreat.Am
open Go Sz
def tm (ds n M s:Int) (i:TIns):Int :=
 let F:=s+2*i.2
 let B:=(if ds=2 then 2*n-1 else 2*n-1+2*M)-s+2*i.2
 if i.1=1 then 8*F else if i.1=2 then 8*F+1 else if i.1=3 then 8*F+2
 else if i.1=4 then 8*B else if i.1=5 then 8*B+1 else if i.1=6 then 8*B+2 else if i.1=7 then 8*B+3 else 1000000
def rcOf (f:Nat) (k1:Int):Nat:=if k1=1 then f+1 else f
def scOf (f:Nat) (k1:Int):Nat:=if k1=2 then f-1 else f
def rgOf (n s:Int) (g:Nat) (k1:Int):Nat:=if k1=4∨(k1=5∧s<n-1) then g+1 else g
def sgQ (g:Nat) (k1:Int):Nat:=if k1=6 then g-1 else g
def Qhx (ds n M s:Int) (rd:Bool) (f g:Nat) (k1:Int) (i:TIns) (last:Bool):Bool :=
 decide (g≤f∧(f:Int)≤M∧1≤i.1∧i.1≤8∧0≤i.2∧i.2<M∧(i.1=8↔last=true)∧i≠(0,0)) &&
 decide (i.1=1→0<s∧i.2=f∧k1≠1) &&
 decide (i.1=2→i.2=f∧(0<s→k1=1)) &&
 decide (i.1=3→s<n-1∧i.2=(f:Int)-1∧k1=2) &&
 decide (i.1=4→s<n-1∧i.2=g) &&
 decide (i.1=5→rd=true∧i.2=g∧g<f∧(s<n-1→k1=4)) &&
 decide (i.1=6→i.2=g∧g<f∧(rd=true→k1=5)∧(rd=false→s<n-1→k1=4)) &&
 decide (i.1=7→0<s∧i.2=(g:Int)-1∧k1=6) &&
 decide (i.1=8→(f:Int)=M∧(g:Int)=M∧k1≠0) &&
 decide (k1=1→i.1=2)&&decide (k1=2→s<n-1→i.1=3)&&decide (k1=4→i.1=5∨i.1=6)&&decide (k1=5→i.1=6)&&decide (k1=6→0<s→i.1=7) &&
 decide (k1=5→rd=true)&&decide (k1=6→1≤g)&&decide (k1=2→1≤f)&&decide (k1≠8)&&decide (k1=4→s<n-1)&&decide (k1=1→0<s) &&
 decide (k1=4∨k1=5→g<f)&&decide (k1=1→(f:Int)<M) &&
 decide (s<n-1→(scOf f k1:Int)<M→tm ds n M s i≤tm ds n M s (3,(scOf f k1:Int))) &&
 decide (0<s→(rcOf f k1:Int)<M→tm ds n M s i≤tm ds n M s (1,(rcOf f k1:Int))) &&
 decide (s<n-1→(rgOf n s g k1:Int)<M→tm ds n M s i≤tm ds n M s (4,(rgOf n s g k1:Int))) &&
 decide (0<s→(sgQ g k1:Int)<M→tm ds n M s i≤tm ds n M s (7,(sgQ g k1:Int))) &&
 decide (ds=2→(f:Int)-g≤n-s)&&decide (ds=2→i.1=2→(f:Int)-g<n-s)
def Qo8 (M:Int) (f g:Nat) (k1:Int):Bool:=decide ((f:Int)=M∧(g:Int)=M∧k1=8)
def kf (i:TIns):Nat:=if i.1=2 then 1 else 0
def kg (i:TIns):Nat:=if i.1=6 then 1 else 0
def QcL (ds n M s:Int) (rd:Bool):List TIns→Nat→Nat→Int→Bool
 | [],f,g,k1=>Qo8 M f g k1
 | i::r,f,g,k1=>Qhx ds n M s rd f g k1 i r.isEmpty&&QcL ds n M s rd r (f+kf i) (g+kg i) i.1
def QzH:Bool:=[1,2].all fun ds:Int=>[1,2,3,4].all fun n:Int=>[0,1,2,3].all fun s:Int=>[1,2,3,4,5].all fun M:Int=>[true,false].all fun rd =>
 !(decide (s<n))||QcL ds n M s rd (ZE ds n s M rd) 0 0 0
set_option maxRecDepth 100000 in
theorem QEg:QzH=true:=by kernel_rfl
theorem QQG {ds n s M:Int} (rd:Bool) (h1:1≤ds) (h2:ds≤2) (h3:n≤4) (h4:0≤s) (h5:s<n) (h6:1≤M) (h7:M≤5):QcL ds n M s rd (ZE ds n s M rd) 0 0 0=true:=by
 have h:=QEg
 unfold QzH at h
 rw [List.all_eq_true] at h
 have h:=h ds (by have:ds=1∨ds=2:=(by omega);rcases this with rfl | rfl <;> simp)
 rw [List.all_eq_true] at h
 have h:=h n (by have:n=1∨n=2∨n=3∨n=4:=(by omega);rcases this with rfl | rfl | rfl | rfl <;> simp)
 rw [List.all_eq_true] at h
 have h:=h s (by have:s=0∨s=1∨s=2∨s=3:=(by omega);rcases this with rfl | rfl | rfl | rfl <;> simp)
 rw [List.all_eq_true] at h
 have h:=h M (by have:M=1∨M=2∨M=3∨M=4∨M=5:=(by omega);rcases this with rfl | rfl | rfl | rfl | rfl <;> simp)
 rw [List.all_eq_true] at h
 have h:=h rd (by cases rd <;> simp)
 simpa [h5] using h
def cf (l:List TIns):Nat:=(l.map kf).sum
def cg (l:List TIns):Nat:=(l.map kg).sum
def Jd (l:List TIns) (k:Nat):Int:=if k=0 then 0 else (gtd dIns l (k-1)).1
theorem Qng {ds n M s:Int} {rd:Bool}:∀ (l:List TIns) (f g:Nat) (k1:Int),QcL ds n M s rd l f g k1=true→∀ k,k≤l.length →
  (∀ i,l[k]? = some i→Qhx ds n M s rd (f+cf (l.take k)) (g+cg (l.take k)) (if k=0 then k1 else Jd l k) i (decide (k+1=l.length))=true) ∧
  (k=l.length→Qo8 M (f+cf (l.take k)) (g+cg (l.take k)) (if k=0 then k1 else Jd l k)=true)
 | [],f,g,k1,h,k,hk=>by
  have:k=0:=by simpa using hk
  subst this
  simp only [QcL] at h
  exact ⟨fun i hi=>by simp at hi,fun _=>by simpa [cf,cg] using h⟩
 | i::r,f,g,k1,h,k,hk=>by
  simp only [QcL,Bool.and_eq_true] at h
  cases k with
  | zero =>
   refine ⟨fun j hj=>?_,fun h0=>by simp at h0⟩
   simp at hj
   subst hj
   have:r.isEmpty=decide (0+1=(i::r).length):=by cases r <;> simp
   rw [← this]
   simpa [cf,cg] using h.1
  | succ k =>
   have ih:=Qng r (f+kf i) (g+kg i) i.1 h.2 k (by simpa using hk)
   have e1:f+cf ((i::r).take (k+1))=f+kf i+cf (r.take k):=by simp [cf];omega
   have e2:g+cg ((i::r).take (k+1))=g+kg i+cg (r.take k):=by simp [cg];omega
   have e3:(if k=0 then i.1 else Jd r k)=Jd (i::r) (k+1):=by
    unfold Jd
    cases k with
    | zero=>simp [gtd]
    | succ k=>simp [gtd]
   rw [e1,e2,if_neg (by omega),← e3]
   refine ⟨fun j hj=>?_,fun h0=>ih.2 (by simpa using h0)⟩
   have:=ih.1 j (by simpa using hj)
   rw [show decide (k+1+1=(i::r).length)=decide (k+1=r.length) by simp]
   exact this
end Go.Proofs.YtjbdljkhbglnhaaGreat.Am
namespace Go.Proofs.YtjbdljkhbglnhaaGreat.Am
open Go Sz
theorem Qag (x:Int):-2147483647≤QQ x∧QQ x≤2147483647:=by unfold QQ iMin iMax;split <;> split <;> omega
theorem QgO {x:Int}:Q8 x=true↔-2147483647≤x∧x≤2147483647:=by simp [Q8]
theorem QOM (x:Int):Q8 (QQ x)=true:=QgO.2 (Qag x)
theorem Qw4 {x:Int} (h:Q8 x=true):QQ x=x:=by
 have:=QgO.1 h
 unfold QQ iMin iMax;split <;> split <;> omega
theorem QpM (x:Int):Q8 (Yx x).1=true:=QOM x
theorem Qlc (a b:Int):Q8 (Q4 a b).1=true:=QpM _
theorem QRZ (a b:Int):Q8 (JE a b).1=true:=QpM _
theorem QS4 (a b:Int):Q8 (Zo a b).1=true:=QpM _
theorem QIP (a:Int):Q8 (Qao a)=true:=by
 have:=Qag a
 rw [QgO];unfold Qao iMax;split <;> omega
theorem QVX {a:Int} (h:Q8 a=true):Q4 a 0=(a,false):=by
 have e:QQ 0=0:=rfl
 unfold Q4 Yx
 rw [e,Int.add_zero,Qw4 h,Qw4 h,h];rfl
theorem Qzb {x:Int} {l:List Int}:ZD (x::l)=(Q8 x&&ZD l):=rfl
theorem Z0 {v:List Int}:QU v=true↔(1≤v.length∧v.length≤6)∧ZD v=true:=by
 simp only [QU,Bool.and_eq_true,QR]
 constructor
 ·rintro ⟨h1,h2⟩;exact ⟨by omega,h2⟩
 ·rintro ⟨h1,h2⟩;exact ⟨by omega,h2⟩
theorem YD {v:List Int} {n:Int}:Qr v n=true↔QU v=true∧(v.length:Int)=n:=by simp [Qr]
theorem Qoi (f:Int→Int→Int × Bool):∀ a b:List Int,(vz f a b).1.length=min a.length b.length
 | [],b=>by simp [vz]
 | a::aa,[]=>by simp [vz]
 | a::aa,b::bb=>by simp [vz,Qoi f aa bb]
theorem QyH {f:Int→Int→Int × Bool} (hf:∀ a b,Q8 (f a b).1=true):∀ a b:List Int,ZD (vz f a b).1=true
 | [],b=>by simp [vz,ZD]
 | a::aa,[]=>by simp [vz,ZD]
 | a::aa,b::bb=>by simp only [vz,Qzb,hf,QyH hf aa bb,Bool.and_self]
theorem QxE (f:Int→Int × Bool):∀ a:List Int,(v1 f a).1.length=a.length
 | []=>rfl
 | a::aa=>by simp [v1,QxE f aa]
theorem QwF {f:Int→Int × Bool} (hf:∀ a,Q8 (f a).1=true):∀ a:List Int,ZD (v1 f a).1=true
 | []=>rfl
 | a::aa=>by simp only [v1,Qzb,hf,QwF hf aa,Bool.and_self]
theorem QAJ:∀ (a b:List Int) (z:Int),Q8 z=true→Q8 (Y5 a b z).1=true
 | [],b,z,h=>by simpa [Y5] using h
 | a::aa,[],z,h=>by simpa [Y5] using h
 | a::aa,b::bb,z,h=>by rw [Y5];exact QAJ aa bb _ (Qlc _ _)
theorem Qld (a b:List Int):Q8 (Q0 a b).1=true:=by
 unfold Q0;split
 ·exact QAJ _ _ _ rfl
 ·rfl
theorem JM {a b:List Int}:ZJ a b=true↔QU a=true∧QU b=true∧b.length=a.length:=by
 unfold ZJ;rw [Bool.and_eq_true,YD]
 constructor <;> (intro h;exact ⟨h.1,h.2.1,by omega⟩)
theorem Qx0 {f:Int→Int→Int × Bool} (hf:∀ a b,Q8 (f a b).1=true) {a b:List Int} (h:ZJ a b=true):Qr (vz f a b).1 a.length=true:=by
 obtain ⟨h1,h2,h3⟩:=JM.1 h
 have:=(Z0.1 h1).1
 have hl:=Qoi f a b
 exact YD.2 ⟨Z0.2 ⟨by omega,QyH hf a b⟩,by omega⟩
theorem Ql8 {a b:List Int} (h:ZJ a b=true):Qr (Zk a b).1 a.length=true:=by unfold Zk;rw [if_pos h];exact Qx0 Qlc h
theorem QwX {a b:List Int} (h:ZJ a b=true):Qr (Q3 a b).1 a.length=true:=by unfold Q3;rw [if_pos h];exact Qx0 QRZ h
theorem QgU {a b:List Int} {n:Int} (h1:Qr a n=true) (h2:Qr b n=true):ZJ a b=true:=by
 obtain ⟨h3,h4⟩:=YD.1 h1
 obtain ⟨h5,h6⟩:=YD.1 h2
 exact JM.2 ⟨h3,h5,by omega⟩
theorem Qrb {c:Int} {a:List Int} (hc:Q8 c=true) (h:QU a=true):Qr (ZC c a).1 a.length=true:=by
 unfold ZC
 rw [hc,h,Bool.and_self,if_pos rfl]
 have:=(Z0.1 h).1
 have hl:=QxE (Zo c) a
 exact YD.2 ⟨Z0.2 ⟨by omega,QwF (QS4 c) a⟩,by omega⟩
theorem QXu {α:Type} {f:α→Int} (hf:∀ a,Q8 (f a)=true) (l:List α):ZD (l.map f)=true:=by
 unfold ZD;rw [List.all_eq_true];intro x hx
 obtain ⟨a,_,rfl⟩:=List.mem_map.1 hx
 exact hf a
theorem QnP {α:Type} {f:α→Int} (hf:∀ a,Q8 (f a)=true) {l:List α} (h1:1≤l.length) (h2:l.length≤6):Qr (l.map f) l.length=true :=
 YD.2 ⟨Z0.2 ⟨by simp;omega,QXu hf l⟩,by simp⟩
theorem QLg {a:List Int} (h:QU a=true):Qr (Yd a) a.length=true:=by
 unfold Yd;rw [if_pos h]
 have:=(Z0.1 h).1
 exact QnP QIP (by omega) (by omega)
theorem QsV {m:TMat} {x:List Int} (h:(Zy m&&Qr x m.2.1)=true):Qr (Zm m x).1 m.1=true:=by
 unfold Zm;rw [if_pos h]
 have h1:1≤m.1∧m.1≤6:=by simp only [Zy,Bool.and_eq_true,QR] at h;omega
 have:=QnP (f:=fun i:Nat=>(Q0 (Y8 m i) x).1) (fun i=>Qld _ _) (l:=List.range m.1.toNat) (by simp;omega) (by simp;omega)
 rw [List.length_range,show ((m.1.toNat:Nat):Int)=m.1 by omega] at this
 exact this
theorem Qw2 {m:TMat} {x:List Int} (h:(Zy m&&Qr x m.1)=true):Qr (Zv m x).1 m.2.1=true:=by
 unfold Zv;rw [if_pos h]
 have h1:1≤m.2.1∧m.2.1≤6:=by simp only [Zy,Bool.and_eq_true,QR] at h;omega
 have:=QnP (f:=fun i:Nat=>(Q0 (Z7 m i) x).1) (fun i=>Qld _ _) (l:=List.range m.2.1.toNat) (by simp;omega) (by simp;omega)
 rw [List.length_range,show ((m.2.1.toNat:Nat):Int)=m.2.1 by omega] at this
 exact this
theorem QWe {x d:List Int} (h:ZJ x d=true):Qr (Yg x d) x.length=true:=by
 unfold Yg;rw [if_pos h]
 obtain ⟨h1,h2,h3⟩:=JM.1 h
 have hl:=(Z0.1 h1).1
 have hf:=(Z0.1 h2).2
 refine YD.2 ⟨Z0.2 ⟨by simp;omega,?_⟩,by simp;omega⟩
 unfold ZD at hf ⊢
 rw [List.all_eq_true] at hf ⊢
 intro y hy
 rw [List.mem_iff_getElem?] at hy
 obtain ⟨i,hi⟩:=hy
 rw [List.getElem?_zipWith] at hi
 split at hi
 ·rename_i a b ha hb
  cases hi
  split
  ·exact hf b (List.mem_of_getElem? hb)
  ·rfl
 ·cases hi
theorem QvG {d x:List Int} (hd:QU d=true) (hx:QU x=true):(Zl d x).1.2.2.length=d.length*x.length:=by
 unfold Zl;rw [hd,hx,Bool.and_self,if_pos rfl]
 simp only
 generalize d=l
 clear hd
 induction l with
 | nil=>simp
 | cons a l ih=>rw [List.flatMap_cons,List.length_append,ih];simp [Nat.add_mul];omega
theorem QeI {o:TOp'} (h:Zb o=true):(o.2.2.2.length:Int)=(if o.1=1∨o.1=5 then o.2.1*o.2.2.1 else if o.1=2 then o.2.1 else if o.1=4 then 1 else 0):=by
 have h1:=Qdf h
 simp only [Zb,Bool.and_eq_true,beq_iff_eq] at h
 rw [h.1.2]
 unfold Ya
 rw [show m_in o.2.1 1 6=true from QR.2 ⟨h1.1,h1.2.1⟩,show m_in o.2.2.1 1 6=true from QR.2 ⟨h1.2.2.1,h1.2.2.2⟩]
 rfl
theorem Qhy {o:TOp'} (h:Zb o=true):ZD o.2.2.2=true:=by simp only [Zb,Bool.and_eq_true] at h;exact h.2
theorem opEq {o:TOp'} (h:Zb o=true) (h1:o.1≠1):o.2.1=o.2.2.1:=by
 simp only [Zb,Bool.and_eq_true,Bool.or_eq_true,beq_iff_eq] at h
 rcases h.1.1.2 with h | h
 ·exact absurd h h1
 ·exact h
theorem QhV {o:TOp'} (h:Zb o=true) (h1:o.1=1∨o.1=5):Zy (QZ o)=true:=by
 have h2:=Qdf h
 have h3:=QeI h
 rw [if_pos h1] at h3
 simp only [Zy,QZ,Bool.and_eq_true,QR,beq_iff_eq]
 refine ⟨⟨⟨⟨by omega,by omega⟩,by omega,by omega⟩,?_⟩,Qhy h⟩
 rw [h3,Int.mul_comm]
theorem QoJ {o:TOp'} {x:List Int} (ho:Zb o=true) (hx:Qr x o.2.1=true):Qr (Yy o x).1 o.2.2.1=true:=by
 have hx':=YD.1 hx
 unfold Yy
 rw [ho,hx,Bool.and_self,if_pos rfl]
 split
 ·rename_i h1
  exact QsV (m:=QZ o) (by rw [QhV ho (.inl h1)];simpa [QZ] using hx)
 ·rename_i h1
  have he:=opEq ho h1
  rw [← he]
  split
  ·rename_i h2
   have h3:=QeI ho
   rw [if_neg (by omega),if_pos h2] at h3
   have h4:=Qdf ho
   have hp:ZJ x o.2.2.2=true:=JM.2 ⟨hx'.1,Z0.2 ⟨by omega,Qhy ho⟩,by omega⟩
   rw [← hx'.2]
   exact Ql8 hp
  ·split
   ·rename_i h2 h3
    have h4:=QeI ho
    rw [if_neg (by omega),if_neg h2,if_pos h3] at h4
    have hf:Q8 (gtd 0 o.2.2.2 0)=true:=by
     have:=Qhy ho
     unfold ZD at this
     exact List.all_eq_true.1 this _ (JP (by omega) 0)
    rw [← hx'.2]
    exact Qrb hf hx'.1
   ·split
    ·rename_i h5
     have hm:=QhV ho (.inr h5)
     have hy:Qr (Zm (QZ o) x).1 o.2.2.1=true:=QsV (m:=QZ o) (by rw [hm];simpa [QZ] using hx)
     rw [← he] at hy
     have:=Ql8 (QgU hx hy)
     rwa [hx'.2] at this
    ·have:=QLg hx'.1
     rwa [hx'.2] at this
theorem QIg {o:TOp'} {x d:List Int} (ho:Zb o=true) (hx:Qr x o.2.1=true) (hd:Qr d o.2.2.1=true) :
  Qr (Ye o x d).1 o.2.1=true∧(Ye o x d).2.1.length=o.2.2.2.length:=by
 have hx':=YD.1 hx
 have hd':=YD.1 hd
 have hs:=QeI ho
 unfold Ye
 rw [ho,hx,hd,Bool.and_self,Bool.and_self,if_pos rfl]
 split
 ·rename_i h1
  rw [if_pos (.inl h1)] at hs
  refine ⟨Qw2 (m:=QZ o) (by rw [QhV ho (.inl h1)];simpa [QZ] using hd),?_⟩
  have:=QvG hd'.1 hx'.1
  show (Zl d x).1.2.2.length=_
  rw [this]
  have:((d.length*x.length:Nat):Int)=o.2.1*o.2.2.1:=by rw [Int.natCast_mul,hd'.2,hx'.2,Int.mul_comm]
  omega
 ·rename_i h1
  have he:=opEq ho h1
  split
  ·rename_i h2
   rw [if_neg (by omega),if_pos h2] at hs
   refine ⟨by rw [he];exact hd,?_⟩
   show d.length=_
   omega
  ·split
   ·rename_i h2 h3
    rw [if_neg (by omega),if_neg h2,if_pos h3] at hs
    have hf:Q8 (gtd 0 o.2.2.2 0)=true:=by
     have:=Qhy ho
     unfold ZD at this
     exact List.all_eq_true.1 this _ (JP (by omega) 0)
    refine ⟨?_,?_⟩
    ·have:=Qrb hf hd'.1
     rw [hd'.2,← he] at this
     exact this
    ·show [(Q0 d x).1].length=_
     simp;omega
   ·split
    ·rename_i h2 h3 h5
     rw [if_pos (.inr h5)] at hs
     have hm:=QhV ho (.inr h5)
     have hy:Qr (Zv (QZ o) d).1 o.2.1=true:=Qw2 (m:=QZ o) (by rw [hm];simpa [QZ] using hd)
     refine ⟨?_,?_⟩
     ·rw [he] at hy
      have:=Ql8 (QgU hd hy)
      rw [hd'.2,← he] at this
      exact this
     ·have:=QvG hd'.1 hx'.1
      show (Zl d x).1.2.2.length=_
      rw [this]
      have:((d.length*x.length:Nat):Int)=o.2.1*o.2.2.1:=by rw [Int.natCast_mul,hd'.2,hx'.2,Int.mul_comm]
      omega
    ·rename_i h2 h3 h5
     rw [if_neg (by omega),if_neg h2,if_neg h3] at hs
     have hp:ZJ x d=true:=JM.2 ⟨hx'.1,hd'.1,by omega⟩
     refine ⟨?_,by simp;omega⟩
     have:=QWe hp
     rw [hx'.2] at this
     exact this
theorem Qbw:∀ (ops:List TOp') (x:List Int),(Qu ops x).1.length=ops.length+1
 | [],x=>rfl
 | o::r,x=>by simp [Qu,Qbw r]
def ZY (ops:List TOp') (x:List Int):List Int:=gtd [] (Qu ops x).1 ops.length
theorem Qkw (x:List Int):ZY [] x=x:=rfl
theorem Qf2 (o:TOp') (r:List TOp') (x:List Int):ZY (o::r) x=ZY r (Yy o x).1:=by
 unfold ZY;rw [Qu];simp [gtd]
theorem QqL:∀ (a b:List TOp') (x:List Int),Qu (a++b) x=((Qu a x).1.take a.length++(Qu b (ZY a x)).1,(Qu a x).2||(Qu b (ZY a x)).2)
 | [],b,x=>by simp [Qu,Qkw]
 | o::a,b,x=>by
  rw [List.cons_append,Qu,QqL a b,Qf2,Qu]
  simp [Bool.or_assoc]
theorem QWq (a b:List TOp') (x:List Int):ZY (a++b) x=ZY b (ZY a x):=by
 induction a generalizing x with
 | nil=>rfl
 | cons o a ih=>rw [List.cons_append,Qf2,Qf2,ih]
theorem QFc (ops:List TOp') (x:List Int):gtd [] (Qu ops x).1 0=x:=by cases ops <;> simp [Qu,gtd]
theorem QEf (ops:List TOp') (x:List Int):(Qu ops x).1.take ops.length++[ZY ops x]=(Qu ops x).1:=by
 unfold ZY
 have hl:=Qbw ops x
 have:gtd [] (Qu ops x).1 ops.length=(Qu ops x).1[ops.length]'(by omega):=Qd4 (List.getElem?_eq_getElem (by omega)) []
 rw [this,List.take_append_getElem (by omega),List.take_of_length_le (by omega)]
theorem QeZ:∀ (ops:List TOp') (rows:List (List Int)) (d:List Int),ops.length≤rows.length→(Qy ops rows d).1.length=ops.length
 | [],rows,d,_=>by simp [Qy]
 | o::os,[],d,h=>by simp at h
 | o::os,r::rs,d,h=>by simp [Qy,QeZ os rs d (by simpa using h)]
theorem Qpl:∀ (a b:List TOp') (ra rb:List (List Int)) (d:List Int),ra.length=a.length →
  Qy (a++b) (ra++rb) d=((Qy a ra (Qy b rb d).2.1).1++(Qy b rb d).1,(Qy a ra (Qy b rb d).2.1).2.1,(Qy a ra (Qy b rb d).2.1).2.2||(Qy b rb d).2.2)
 | [],b,ra,rb,d,h=>by
  have:ra=[]:=List.eq_nil_of_length_eq_zero (by simpa using h)
  subst this
  simp [Qy]
 | o::a,b,[],rb,d,h=>by simp at h
 | o::a,b,r::ra,rb,d,h=>by
  rw [List.cons_append,List.cons_append,Qy,Qpl a b ra rb d (by simpa using h),Qy]
  simp [Bool.or_assoc]
theorem QPf:∀ (ops:List TOp') (rows more:List (List Int)) (d:List Int),rows.length=ops.length→Qy ops (rows++more) d=Qy ops rows d:=by
 intro ops rows more d h
 have:=Qpl ops [] rows more d h
 rw [List.append_nil] at this
 rw [this]
 simp [Qy]
end Go.Proofs.YtjbdljkhbglnhaaGreat.Am
namespace Go.Proofs.YtjbdljkhbglnhaaGreat.Am
open Go Sz
def Z8:Int→List TOp'→Int→Prop
 | i,[],o=>i=o
 | i,a::r,o=>Zb a=true∧a.2.1=i∧Z8 a.2.2.1 r o
theorem Z8.append:∀ {a b:List TOp'} {i o:Int},Z8 i (a++b) o↔∃ k,Z8 i a k∧Z8 k b o
 | [],b,i,o=>by simp [Z8]
 | x::a,b,i,o=>by
  rw [List.cons_append,Z8,Z8.append]
  constructor
  ·rintro ⟨h1,h2,k,h3,h4⟩;exact ⟨k,⟨h1,h2,h3⟩,h4⟩
  ·rintro ⟨k,⟨h1,h2,h3⟩,h4⟩;exact ⟨h1,h2,k,h3,h4⟩
theorem Qyb:∀ {l:List TOp'} {p:Option Int},Yv p l=true→∃ i o,Z8 i l o∧(∀ q,p=some q→l≠[]→q=i)
 | [],p,h=>⟨0,0,rfl,fun q _ h=>absurd rfl h⟩
 | a::r,p,h=>by
  simp only [Yv,Bool.and_eq_true] at h
  obtain ⟨i,o,h1,h2⟩:=Qyb h.2
  have hp:∀ q,p=some q→a::r≠[]→q=a.2.1:=fun q hq _=>by
   have:=h.1.2
   rw [hq] at this
   simpa using this
  cases r with
  | nil=>exact ⟨a.2.1,a.2.2.1,⟨h.1.1,rfl,rfl⟩,hp⟩
  | cons b r =>
   have:=h2 _ rfl (by simp)
   rw [← this] at h1
   exact ⟨a.2.1,o,⟨h.1.1,rfl,h1⟩,hp⟩
theorem QzU:∀ {l:List TOp'} {i o:Int} {p:Option Int},Z8 i l o→(∀ q,p=some q→q=i)→Yv p l=true
 | [],i,o,p,h,hp=>rfl
 | a::r,i,o,p,h,hp=>by
  obtain ⟨h1,h2,h3⟩:=h
  simp only [Yv,Bool.and_eq_true]
  refine ⟨⟨h1,?_⟩,QzU h3 (fun q hq=>by cases hq;rfl)⟩
  cases p with
  | none=>rfl
  | some q=>simp [hp q rfl,h2]
theorem Z8.out_eq:∀ {l:List TOp'} {i o:Int},Z8 i l o→l≠[]→(gtd dOp l (l.length-1)).2.2.1=o
 | [],i,o,h,hn=>absurd rfl hn
 | [a],i,o,h,hn=>h.2.2
 | a::b::r,i,o,h,hn=>by
  have:=Z8.out_eq h.2.2 (by simp)
  simpa [gtd] using this
theorem Qik {l:List TOp'} {i o:Int} (h:Z8 i l o) (h1:1≤l.length) (h2:l.length≤8):QN l=true∧Q7 l=i∧Za l=o:=by
 have hm:QN l=true:=by
  simp only [QN,Bool.and_eq_true,QR]
  exact ⟨by omega,QzU h (by simp)⟩
 refine ⟨hm,?_,?_⟩
 ·unfold Q7;rw [if_pos hm]
  cases l with
  | nil=>simp at h1
  | cons a r=>exact h.2.1
 ·unfold Za;rw [if_pos hm]
  exact h.out_eq (by intro e;rw [e] at h1;simp at h1)
theorem QzQ {l:List TOp'} (h:QN l=true):1≤l.length∧l.length≤8∧Z8 (Q7 l) l (Za l):=by
 have hl:=YM h
 refine ⟨hl.1,hl.2,?_⟩
 have h':=h
 simp only [QN,Bool.and_eq_true] at h'
 obtain ⟨i,o,h1,_⟩:=Qyb h'.2
 have:=Qik h1 hl.1 hl.2
 rw [this.2.1,this.2.2]
 exact h1
theorem QnJ:∀ {l:List TOp'} {i o:Int} {x:List Int},Z8 i l o→Qr x i=true→Qr (ZY l x) o=true
 | [],i,o,x,h,hx=>by rw [Qkw,← show i=o from h];exact hx
 | a::r,i,o,x,h,hx=>by
  obtain ⟨h1,h2,h3⟩:=h
  rw [Qf2]
  exact QnJ h3 (QoJ h1 (by rw [h2];exact hx))
theorem Qke:∀ {l:List TOp'} {i o:Int} {x d:List Int},Z8 i l o→Qr x i=true→Qr d o=true →
  Qr (Qy l (Qu l x).1 d).2.1 i=true∧ZT l (Qy l (Qu l x).1 d).1=true
 | [],i,o,x,d,h,hx,hd=>by
  refine ⟨?_,rfl⟩
  show Qr d i=true
  rw [show i=o from h];exact hd
 | a::r,i,o,x,d,h,hx,hd=>by
  obtain ⟨h1,h2,h3⟩:=h
  rw [Qu]
  have hx':Qr x a.2.1=true:=by rw [h2];exact hx
  have ih:=Qke h3 (QoJ h1 hx') hd
  have:=QIg h1 hx' ih.1
  rw [Qy]
  refine ⟨by rw [← h2];exact this.1,?_⟩
  simp only [ZT,Bool.and_eq_true,beq_iff_eq]
  exact ⟨this.2,ih.2⟩
theorem QuU (all:List TOp') {o:Int}:∀ {l:List TOp'} {i:Int} {x:List Int} {k:Nat},Z8 i l o→all.drop k=l→k≤all.length→(l=[]→QbD all k=i)→Qr x i=true→Jl all k (Qu l x).1=true
 | [],i,x,k,h,hk,hle,hs,hx=>by
  simp only [Qu,Jl,Bool.and_true]
  rw [hs rfl];exact hx
 | a::r,i,x,k,h,hk,hle,hs,hx=>by
  obtain ⟨h1,h2,h3⟩:=h
  have hlt:=QjP hk
  have hx':Qr x a.2.1=true:=by rw [h2];exact hx
  simp only [Qu,Jl,Bool.and_eq_true]
  refine ⟨?_,QuU all h3 (Z6 hk) hlt (fun hr=>?_) (QoJ h1 hx')⟩
  ·unfold QbD;rw [if_pos hlt,Yp hk];exact hx'
  ·have:all.length=k+1:=by have:=QDs hk;rw [hr] at this;simp at this;omega
   unfold QbD
   rw [if_neg (by omega),show all.length-1=k by omega,Yp hk]
theorem QVi {l:List TOp'} {i o:Int} {x:List Int} (h:Z8 i l o) (hl:l≠[]) (hx:Qr x i=true):Jl l 0 (Qu l x).1=true :=
 QuU l h (by simp) (by simp) (fun h0=>absurd h0 hl) hx
theorem Qf3:∀ (ops:List TOp') (rows:List (List Int)) (k n:Nat),Jl ops k rows=true→Jl ops k (rows.take n)=true
 | ops,[],k,n,h=>by simp [Jl]
 | ops,r::rs,k,0,h=>by simp [Jl]
 | ops,r::rs,k,n+1,h=>by
  simp only [Jl,List.take_succ_cons,Bool.and_eq_true] at h ⊢
  exact ⟨h.1,Qf3 ops rs (k+1) n h.2⟩
theorem QXy (a b:List TOp') (x d:List Int) :
  Qy (a++b) (Qu (a++b) x).1 d =
   ((Qy a (Qu a x).1 (Qy b (Qu b (ZY a x)).1 d).2.1).1++(Qy b (Qu b (ZY a x)).1 d).1,
    (Qy a (Qu a x).1 (Qy b (Qu b (ZY a x)).1 d).2.1).2.1,
    (Qy a (Qu a x).1 (Qy b (Qu b (ZY a x)).1 d).2.1).2.2||(Qy b (Qu b (ZY a x)).1 d).2.2):=by
 have hl:=Qbw a x
 have ht:((Qu a x).1.take a.length).length=a.length:=by simp;omega
 rw [QqL]
 simp only
 rw [Qpl a b _ _ d ht]
 have e:∀ d',Qy a ((Qu a x).1.take a.length) d'=Qy a (Qu a x).1 d':=fun d'=>by
  rw [← QPf a _ [ZY a x] d' ht,QEf]
 rw [e]
theorem QBq:∀ (a b c d:List (List Int)),a.length=c.length→Zd (a++b) (c++d)=((Zd a c).1++(Zd b d).1,(Zd a c).2||(Zd b d).2)
 | [],b,c,d,h=>by
  have:c=[]:=List.eq_nil_of_length_eq_zero (by simpa using h.symm)
  subst this
  simp [Zd]
 | x::a,b,[],d,h=>by simp at h
 | x::a,b,y::c,d,h=>by
  rw [List.cons_append,List.cons_append,Zd,QBq a b c d (by simpa using h),Zd]
  simp [Bool.or_assoc]
theorem Qk3:∀ (a b:List (List Int)),(Zd a b).1.length=min a.length b.length
 | [],b=>by simp [Zd]
 | x::a,[]=>by simp [Zd]
 | x::a,y::b=>by simp [Zd,Qk3 a b]
theorem Qpn:∀ {ops:List TOp'} {a b:List (List Int)},a.length=ops.length→b.length=ops.length→ZT ops a=true→ZT ops b=true→ZT ops (Zd a b).1=true
 | [],a,b,h1,h2,h3,h4=>by
  have:a=[]:=List.eq_nil_of_length_eq_zero (by simpa using h1)
  subst this
  simp [Zd,ZT]
 | o::ops,[],b,h1,h2,h3,h4=>by simp at h1
 | o::ops,x::a,[],h1,h2,h3,h4=>by simp at h2
 | o::ops,x::a,y::b,h1,h2,h3,h4=>by
  simp only [ZT,Bool.and_eq_true,beq_iff_eq] at h3 h4
  simp only [Zd,ZT,Bool.and_eq_true,beq_iff_eq]
  refine ⟨?_,Qpn (by simpa using h1) (by simpa using h2) h3.2 h4.2⟩
  rw [Qoi];omega
end Go.Proofs.YtjbdljkhbglnhaaGreat.Am
namespace Go.Proofs.YtjbdljkhbglnhaaGreat.Am
open Go Sz
def QJ {α:Type} [Sz α] (x:α):Prop:=sz x≤2147483648
def Yf {α β:Type} [Sz α] [Sz β] (x:α) (y:β):Prop:=sz x+sz y≤2147483648
def p_st (st s m:Int):Prop:=-1000≤st∧st≤1000
def Ql9 (st s m:Int) (_:Bool):Prop:=p_st st s m
def Qc5 (l:List TIns) (st s m:Int):List TIns:=l++Z4 st s m
def QdW (l:List TIns) (st s m:Int) (redo:Bool):List TIns:=l++Yt st s m redo
def p_l9 (l:List TIns) (st s m:Int):Prop:=p_st st s m∧l.length≤1000000
def QnT (l:List TIns) (st s m:Int) (_:Bool):Prop:=p_l9 l st s m
def QpZ (ops:List TOp') (x:List Int):Prop:=ops.length≤1000000∧x.length≤1000000
def Qqk (m:TMat) (i:Int):Prop:=0≤m.2.1∧m.2.1≤6∧0≤i∧i<m.1∧m.1≤6∧(m.2.2.length:Int)=m.1*m.2.1
def Qnp (m:TMat) (k:Int):Prop:=m.2.1≤6∧0≤k∧k<m.2.1∧0≤m.1∧m.1≤6∧(m.2.2.length:Int)=m.1*m.2.1
@[simp] theorem Zf {α:Type} (v:List α) (e:α):List.take (v.length+1) (List.take v.length v++[e])=v++[e]:=by
 rw [List.take_length,List.take_of_length_le (by simp)]
@[simp] theorem QvO {α:Type} (v xs:List α):List.take (v.length+xs.length) (List.take v.length v++xs)=v++xs:=by
 rw [List.take_length,List.take_of_length_le (by simp)]
theorem Jg {α:Type} {l:List α} {k:Nat} (h:k<l.length):∃ y q,l.drop k=y::q:=by
 cases hq:l.drop k with
 | nil=>have:=congrArg List.length hq;simp at this;omega
 | cons y q=>exact ⟨y,q,rfl⟩
theorem YF {α:Type} {v:List α} {k:Nat} {x:α} (h:v.length=k):(v++[x]).length=k+1:=by simp [h]
theorem room {n:Nat} (h:n+1≤2147483648):(n=n∨n+1≤n)∧n+1≤big:=⟨.inl rfl,by rw [Zu];omega⟩
theorem sc1 {k:Nat} (h:k<9223372036854775807):w64 ((k:Int)+1)=((k+1:Nat):Int):=by rw [Qq (by omega) (by omega)];omega
theorem QAY (a b:Int):-4611686018427387904≤QQ a*QQ b∧QQ a*QQ b≤4611686018427387904:=by
 obtain ⟨h1,h2⟩:=Qag a
 obtain ⟨h3,h4⟩:=Qag b
 generalize QQ a=x at *
 generalize QQ b=y at *
 have hx:x.natAbs≤2147483647:=by omega
 have hy:y.natAbs≤2147483647:=by omega
 have h:=Nat.mul_le_mul hx hy
 rw [← Int.natAbs_mul] at h
 omega
theorem QNQ (x:Int):(if 2147483647<(if x < -2147483647 then -2147483647 else x) then 2147483647 else (if x < -2147483647 then -2147483647 else x))=QQ x:=by
 unfold QQ iMin iMax;repeat' split
 all_goals omega
theorem QQx (a:Int):(if ((Int.tmod a 65536 != 0)&&(!(decide (a<0)==decide ((65536:Int)<0))))=true then Int.tdiv a 65536-1 else Int.tdiv a 65536)=Int.fdiv a 65536:=by
 rw [Int.fdiv_eq_ediv_of_nonneg _ (by omega),Int.tmod_eq_emod,Int.tdiv_eq_ediv]
 have hs:Int.sign 65536=1:=rfl
 rw [hs]
 by_cases h:0≤a
 ·have:decide (a<0)=false:=by simp;omega
  simp [h,this]
 ·have:decide (a<0)=true:=by simp;omega
  by_cases h2:(65536:Int) ∣ a
  ·have:a % 65536=0:=Int.emod_eq_zero_of_dvd h2
   simp [h,h2,this]
  ·have:a % 65536≠0:=fun e=>h2 (Int.dvd_of_emod_eq_zero e)
   simp [h,h2,this]
   omega
theorem idx {r R C:Int} (h1:0≤r) (h2:r<R) (h3:0≤C):0≤r*C∧r*C+C≤R*C∧(r+1)*C=r*C+C:=by
 have h4:(r+1)*C=r*C+C:=by rw [Int.add_mul,Int.one_mul]
 have h5:=Int.mul_le_mul_of_nonneg_right (show r+1≤R by omega) h3
 exact ⟨Int.mul_nonneg h1 h3,by omega,h4⟩
theorem Qds {m:TMat} (h:Zy m=true):1≤m.1∧m.1≤6∧1≤m.2.1∧m.2.1≤6∧(m.2.2.length:Int)=m.1*m.2.1∧m.1*m.2.1≤36∧ZD m.2.2=true:=by
 simp only [Zy,Bool.and_eq_true,QR,beq_iff_eq] at h
 have:=QcS h.1.1.1.1 h.1.1.1.2 h.1.1.2.1 h.1.1.2.2
 exact ⟨h.1.1.1.1,h.1.1.1.2,h.1.1.2.1,h.1.1.2.2,h.1.2,this.2,h.2⟩
theorem Qle {f:Nat→Bool} {k:Nat}:(List.range (k+1)).any f=((List.range k).any f||f k):=by rw [List.range_succ,List.any_append];simp
theorem Qfj {α:Type} {f:Nat→α} {k:Nat}:(List.range (k+1)).map f=(List.range k).map f++[f k]:=by rw [List.range_succ,List.map_append];rfl
theorem Qew {α:Type} {f:Nat→List α} {k:Nat}:(List.range (k+1)).flatMap f=(List.range k).flatMap f++f k:=by rw [List.range_succ,List.flatMap_append];simp
theorem QoG {α:Type} {f:Nat→List α} {R:Nat} (n:Nat) (h:∀ k,k<n→(f k).length=R):((List.range n).flatMap f).length=n*R:=by
 induction n with
 | zero=>simp
 | succ n ih=>rw [Qew,List.length_append,ih (fun k hk=>h k (by omega)),h n (by omega),Nat.add_mul];omega
theorem QBl {α:Type} {f:Nat→List α} {R:Nat} {k:Nat}:∀ (n:Nat),k<n→(∀ k,k<n→(f k).length=R)→(((List.range n).flatMap f).drop (k*R)).take R=f k
 | 0,hk,_=>by omega
 | n+1,hk,h=>by
  have hl:=QoG n (fun k hk=>h k (by omega))
  rw [Qew]
  by_cases e:k=n
  ·subst e
   rw [List.drop_append,List.drop_eq_nil_of_le (by omega),hl,Nat.sub_self,List.drop_zero,List.nil_append,List.take_of_length_le (by rw [h k (by omega)];exact Nat.le_refl _)]
  ·have ih:=QBl (k:=k) n (by omega) (fun k hk=>h k (by omega))
   have:(k+1)*R≤n*R:=Nat.mul_le_mul_right R (show k+1≤n by omega)
   rw [Nat.add_mul,Nat.one_mul] at this
   rw [List.drop_append_of_le_length (by omega),List.take_append_of_le_length (by rw [List.length_drop,hl];omega),ih]
theorem Qp5 (m:TMat) (k:Int):(Z7 m k).length=m.1.toNat:=by simp [Z7]
theorem QXT {m:TMat} (h:Zy m=true) {k:Nat} (hk:(k:Int)<m.2.1):ZD (Z7 m k)=true:=by
 obtain ⟨h1,h2,h3,h4,h5,h6,h7⟩:=Qds h
 unfold ZD Z7
 rw [List.all_eq_true]
 intro x hx
 obtain ⟨i,hi,rfl⟩:=List.mem_map.1 hx
 have hi:=List.mem_range.1 hi
 have hd:=idx (r:=i) (R:=m.1) (C:=m.2.1) (by omega) (by omega) (by omega)
 unfold ZD at h7
 generalize (i:Int)*m.2.1=z at *
 generalize m.1*m.2.1=y at *
 exact List.all_eq_true.1 h7 _ (JP (show Int.toNat (z+k)<m.2.2.length by omega) 0)
theorem QI9 {m:TMat} (h:Zy m=true):Zy (YS m)=true∧(YS m).1=m.2.1∧(YS m).2.1=m.1∧∀ k:Nat,(k:Int)<m.2.1→Y8 (YS m) k=Z7 m k:=by
 obtain ⟨h1,h2,h3,h4,h5,h6,h7⟩:=Qds h
 have ht:YS m=(m.2.1,m.1,(List.range m.2.1.toNat).flatMap fun k:Nat=>Z7 m k):=by unfold YS;rw [if_pos h]
 have hl:=QoG (f:=fun k:Nat=>Z7 m k) m.2.1.toNat (fun k hk=>Qp5 m k)
 have hn:((m.2.1.toNat*m.1.toNat:Nat):Int)=m.2.1*m.1:=by rw [Int.natCast_mul,Int.toNat_of_nonneg (by omega),Int.toNat_of_nonneg (by omega)]
 rw [ht]
 refine ⟨?_,rfl,rfl,fun k hk=>?_⟩
 ·simp only [Zy,Bool.and_eq_true,QR,beq_iff_eq]
  refine ⟨⟨⟨⟨h3,h4⟩,h1,h2⟩,by rw [hl,hn]⟩,?_⟩
  unfold ZD
  rw [List.all_eq_true]
  intro x hx
  obtain ⟨k,hk,hx⟩:=List.mem_flatMap.1 hx
  have:=QXT h (k:=k) (by have:=List.mem_range.1 hk;omega)
  unfold ZD at this
  exact List.all_eq_true.1 this x hx
 ·have hs:=QBl (f:=fun k:Nat=>Z7 m k) (k:=k) m.2.1.toNat (by omega) (fun k hk=>Qp5 m k)
  have hd:=idx (r:=k) (R:=m.2.1) (C:=m.1) (by omega) hk (by omega)
  have e1:Int.toNat ((k:Int)*m.1)=k*m.1.toNat:=by
   have:((k*m.1.toNat:Nat):Int)=(k:Int)*m.1:=by rw [Int.natCast_mul,Int.toNat_of_nonneg (by omega)]
   omega
  unfold Y8 slice
  simp only
  rw [show Int.toNat (((k:Int)+1)*m.1)-Int.toNat ((k:Int)*m.1)=m.1.toNat by omega,e1]
  exact hs
theorem QLl {m:TMat} {d:List Int} (h:Zy m=true) (hd:Qr d m.1=true):Zm (YS m) d=Zv m d:=by
 obtain ⟨h1,h2,h3,h4⟩:=QI9 h
 unfold Zm Zv
 rw [if_pos (by rw [h1,h3,hd];rfl),if_pos (by rw [h,hd];rfl),h2]
 have e:∀ i,i∈List.range m.2.1.toNat→Y8 (YS m) (i:Nat)=Z7 m (i:Nat):=fun i hi=>h4 i (by have:=List.mem_range.1 hi;omega)
 refine Prod.ext (List.map_congr_left fun i hi=>by rw [e i hi]) ?_
 show (List.range m.2.1.toNat).any _=(List.range m.2.1.toNat).any _
 rw [Bool.eq_iff_iff,List.any_eq_true,List.any_eq_true]
 constructor
 ·rintro ⟨i,hi,h⟩;exact ⟨i,hi,by rw [← e i hi];exact h⟩
 ·rintro ⟨i,hi,h⟩;exact ⟨i,hi,by rw [e i hi];exact h⟩
theorem QzV {m:TMat} {d:List Int} (h:¬ (Zy m=true∧Qr d m.1=true)):Zv m d=([],false):=by unfold Zv;rw [if_neg (by simpa using h)]
theorem Qrs {m:TMat} {d:List Int} (h:¬ (Zy m=true∧Qr d m.2.1=true)):Zm m d=([],false):=by unfold Zm;rw [if_neg (by simpa using h)]
theorem Qjm {x:Int} (h:0≤x):0≤QQ x:=by
 unfold QQ iMin iMax
 repeat' split
 all_goals omega
theorem QAg:∀ (a:List Int) (z:Int),0≤z→0≤(Y5 a a z).1
 | [],z,h=>by simpa [Y5] using h
 | x::r,z,h=>by
  rw [Y5]
  refine QAg r _ ?_
  have h1:0≤QQ x*QQ x:=by
   rcases Int.le_total 0 (QQ x) with h2 | h2
   ·exact Int.mul_nonneg h2 h2
   ·exact Int.mul_nonneg_of_nonpos_of_nonpos h2 h2
  have h3:0≤Int.fdiv (QQ x*QQ x) 65536:=by rw [Int.fdiv_eq_ediv_of_nonneg _ (by omega)];omega
  have h4:0≤(Zo x x).1:=Qjm h3
  have h5:=Qjm h
  have h6:=Qjm h4
  exact Qjm (by omega)
theorem QEl (a:List Int):0≤(Q0 a a).1:=by
 unfold Q0;split
 ·exact QAg a 0 (by omega)
 ·show (0:Int)≤0;omega
theorem QmD (x:List Int) (n:Int):(!(QU x)||((x.length:Int) != n)) = !(Qr x n):=by unfold Qr;simp [bne]
theorem QgF {o:TOp'} (h:Zb o=true) (h4:o.1=4):0<o.2.2.2.length:=by
 have:=QeI h
 rw [if_neg (by omega),if_neg (by omega),if_pos h4] at this
 omega
theorem QCb {o:TOp'} {x:List Int} (h:¬ (Zb o=true∧Qr x o.2.1=true)):Yy o x=([],false):=by unfold Yy;rw [if_neg (by simpa using h)]
theorem QBE {o:TOp'} {x d:List Int} (h:¬ ((Zb o=true∧Qr x o.2.1=true)∧Qr d o.2.2.1=true)):Ye o x d=([],[],false):=by unfold Ye;rw [if_neg (by simpa using h)]
theorem Qhu {o:TOp'} (h:Zb o=true):1≤o.1∧o.1≤5:=by simp only [Zb,Bool.and_eq_true,QR] at h;exact h.1.1.1.1.1
theorem Qer {α:Type} (v:List α):List.take (id v).length (List.drop 0 (id v))=v:=by simp
theorem QGh {α:Type} (v:List α):List.take (0+v.length) (List.drop 0 v)=v:=by simp
theorem QcY {α:Type} (v:List α):List.take v.length (List.drop 0 v)=v:=by simp
theorem QgX {α:Type} {l:List α} {k:Nat} (h:l.length≤k):l.drop k=[]:=List.drop_eq_nil_of_le h
theorem Qyu (n:Nat) (x:Int):List.take n (List.drop 0 (List.replicate n x))=List.replicate n x:=by rw [List.drop_zero,List.take_of_length_le (by simp)]
theorem QbG {α:Type} [Sz α] {l:List α} {A:Int→List α→Prop} {Q:List α→Prop} (hs:sz l≤2147483648)
  (hA:∀ (k:Nat) (x:α) (v:List α),k<l.length→l.length≤2147483648→(∀ d,gtd d l k=x)→v.length=k→sz x≤2147483648→A ((k+1:Nat):Int) (v++[x])→A (k:Nat) v)
  (hE:Q l→A (l.length:Nat) l) (hq:Q l):A 0 []:=by
 have hl:=Qab l
 refine Zp l (fun r k=>∀ v,v.length=k→v++r=l→A k v) ?_ ?_ [] rfl rfl
 ·intro v hv he
  rw [List.append_nil] at he
  subst he
  exact hE hq
 ·intro k x r hk hlt hg ih v hv he
  have hx:=QhN hk
  exact hA k x v hlt (by omega) hg hv (by omega) (ih _ (YF hv) (by rw [← he];simp))
theorem Qht {o:TOp'} (h:Zb o=true):o.2.2.2.length≤36:=by
 have h1:=QeI h
 have h2:=Qdf h
 have h3:=QcS h2.1 h2.2.1 h2.2.2.1 h2.2.2.2
 split at h1
 ·omega
 ·split at h1
  ·omega
  ·split at h1 <;> omega
theorem Qip {m:Q9} (h:QN m=true) {k:Nat} (hk:k<m.length):Zb (gtd dOp m k)=true:=by
 simp only [QN,Bool.and_eq_true] at h
 exact (Qkd h.2 k _ (Js hk dOp)).1
theorem QjF {α:Type} (d:α) {v:List α} {k:Nat} (h:v.length=k+1):v.take k++[gtd d v k]=v:=by
 have h1:gtd d v k=v[k]'(by omega):=Qd4 (List.getElem?_eq_getElem (by omega)) d
 rw [h1,List.take_append_getElem (by omega),List.take_of_length_le (by omega)]
theorem QvH {α:Type} (d:α) {v:List α} {n:Nat} (y:α) (h:v.length=n):gtd d (v++[y]) n=y:=by
 refine Qd4 ?_ d
 rw [List.getElem?_append_right (by omega)];simp [h]
theorem QyX {α:Type} {v:List α} {n:Nat} (y:α) (h:v.length=n):(v++[y]).take n=v:=by
 rw [List.take_append_of_le_length (by omega),List.take_of_length_le (by omega)]
theorem QvL {α:Type} (n:Nat) (e g:α) (l:List α):(List.replicate (n+1) e++l).set n g=List.replicate n e++g::l:=by
 rw [List.replicate_succ',List.append_assoc,List.set_append_right _ _ (by simp)]
 simp
theorem QjE {m:Q9} {x:List Int} (h1:QN m=true) (h2:Qr x (Q7 m)=true):Ji m x=Qu m x:=by unfold Ji;rw [if_pos (by rw [h1,h2];rfl)]
theorem Qqm {m:Q9} {p:Qi} (h:Z5 m p=true):QN m=true∧Qr p.1 (Q7 m)=true∧Qr p.2 (Za m)=true:=by
 simp only [Z5,Bool.and_eq_true] at h;exact ⟨h.1.1,h.1.2,h.2⟩
theorem QEV {m:Q9} {p:Qi}:ZG m [p]=Z5 m p:=by
 unfold ZG Z5
 cases h:QN m <;> simp [m_in,Z5,h]
theorem Qx5:∀ {ops:List TOp'} {rows:List (List Int)},rows.length=ops.length→(∀ o,o∈ops→Zb o=true)→ZT ops rows=true→sz rows≤37*ops.length
 | [],[],_,_,_=>by simp
 | [],r::rs,h,_,_=>by simp at h
 | o::os,[],h,_,_=>by simp at h
 | o::os,r::rs,h,ho,hg=>by
  simp only [ZT,Bool.and_eq_true,beq_iff_eq] at hg
  have h1:=Qht (ho o List.mem_cons_self)
  have h2:=Qx5 (by simpa using h) (fun p hp=>ho p (List.mem_cons_of_mem _ hp)) hg.2
  have h3:=Y6 r
  rw [Jv,List.length_cons];omega
theorem QDU {m:Q9} (h:QN m=true):∀ o,o∈m→Zb o=true:=by
 intro o ho
 obtain ⟨i,hi⟩:=List.getElem?_of_mem ho
 simp only [QN,Bool.and_eq_true] at h
 exact (Qkd h.2 i o hi).1
theorem Qs1 {m:Q9} {p:Qi} (h:Z5 m p=true):(Yk m p).1.length=m.length∧ZT m (Yk m p).1=true:=by
 obtain ⟨h1,h2,h3⟩:=Qqm h
 obtain ⟨_,_,hc⟩:=QzQ h1
 have hy:=QnJ hc h2
 have hd:Qr (Q3 (ZY m p.1) p.2).1 (Za m)=true:=by
  have:=QwX (QgU hy h3)
  rwa [(YD.1 hy).2] at this
 have hb:=Qke hc h2 hd
 unfold Yk
 rw [if_pos h]
 refine ⟨QeZ _ _ _ (by rw [Qbw];omega),hb.2⟩
theorem Qo0 {m:Q9} (h:QN m=true):(Zq m).1.length=m.length∧ZT m (Zq m).1=true:=by
 unfold Zq
 rw [if_pos h]
 simp only [List.length_map,true_and]
 clear h
 induction m with
 | nil=>rfl
 | cons o l ih=>simp [ZT,ih]
theorem QxA {m:Q9} {a b:QG} (h1:a.1.length=m.length∧ZT m a.1=true) (h2:b.1.length=m.length∧ZT m b.1=true):(ZA a b).1.length=m.length∧ZT m (ZA a b).1=true:=by
 refine ⟨?_,Qpn h1.1 h2.1 h1.2 h2.2⟩
 show (Zd _ _).1.length=_
 rw [Qk3];omega
theorem Qeg {m:Q9} (h:QN m=true) {a:QG} (h1:a.1.length=m.length∧ZT m a.1=true):sz a≤296:=by
 have:=Qx5 h1.1 (QDU h) h1.2
 have:=YM h
 simp only [YC,Yi,QaL];omega
theorem QxW (m:Q9) (p:Qi) (r:List Qi) (g:QG):QbX m (p::r) g=QbX m r (ZA g (Yk m p)):=rfl
end Go.Proofs.YtjbdljkhbglnhaaGreat.Am

