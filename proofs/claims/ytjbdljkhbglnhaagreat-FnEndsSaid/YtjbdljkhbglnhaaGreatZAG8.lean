/- -/
import Derived.Test.YtjbdljkhbglnhaaGreatZAG7
set_option linter.all false
namespace Go.Proofs.YtjbdljkhbglnhaaGreat.Am
open Go Sz
def tm (ds n M s:Int) (i:TIns):Int :=
 let F:=s+2*i.2
 let B:=(if ds=2 then 2*n-1 else 2*n-1+2*M)-s+2*i.2
 if i.1=1 then 8*F else if i.1=2 then 8*F+1 else if i.1=3 then 8*F+2
 else if i.1=4 then 8*B else if i.1=5 then 8*B+1 else if i.1=6 then 8*B+2 else if i.1=7 then 8*B+3 else 1000000
def rcOf (f:Nat) (k1:Int):Nat:=if k1=1 then f+1 else f
def scOf (f:Nat) (k1:Int):Nat:=if k1=2 then f-1 else f
def rgOf (n s:Int) (g:Nat) (k1:Int):Nat:=if k1=4∨(k1=5∧s<n-1) then g+1 else g
def sgQ (g:Nat) (k1:Int):Nat:=if k1=6 then g-1 else g
def QfQ (ds n M s:Int) (rd:Bool) (f g:Nat) (k1:Int) (i:TIns) (last:Bool):Bool :=
 decide (g≤f∧(f:Int)≤M∧1≤i.1∧i.1≤8∧0≤i.2∧i.2<M∧(i.1=8↔last=true)∧i≠(0,0)) &&
 decide (i.1=1→0<s∧i.2=f∧k1≠1) &&
 decide (i.1=2→i.2=f∧(0<s→k1=1)) &&
 decide (i.1=3→s<n-1∧i.2=(f:Int)-1∧k1=2) &&
 decide (i.1=4→s<n-1∧i.2=g) &&
 decide (i.1=5→rd=true∧i.2=g∧g<f∧(s<n-1→k1=4)) &&
 decide (i.1=6→i.2=g∧g<f∧(rd=true→k1=5)∧(rd=false→s<n-1→k1=4)) &&
 decide (i.1=7→0<s∧i.2=(g:Int)-1∧k1=6) &&
 decide (i.1=8→(f:Int)=M∧(g:Int)=M∧k1≠0) &&
 decide (k1=1→i.1=2)&&decide (k1=2→s<n-1→i.1=3)&&decide (k1=4→i.1=5∨i.1=6)&&decide (k1=5→i.1=6)&&decide (k1=6→0<s→i.1=7) &&
 decide (k1=5→rd=true)&&decide (k1=6→1≤g)&&decide (k1=2→1≤f)&&decide (k1≠8)&&decide (k1=4→s<n-1)&&decide (k1=1→0<s) &&
 decide (k1=4∨k1=5→g<f)&&decide (k1=1→(f:Int)<M) &&
 decide (s<n-1→(scOf f k1:Int)<M→tm ds n M s i≤tm ds n M s (3,(scOf f k1:Int))) &&
 decide (0<s→(rcOf f k1:Int)<M→tm ds n M s i≤tm ds n M s (1,(rcOf f k1:Int))) &&
 decide (s<n-1→(rgOf n s g k1:Int)<M→tm ds n M s i≤tm ds n M s (4,(rgOf n s g k1:Int))) &&
 decide (0<s→(sgQ g k1:Int)<M→tm ds n M s i≤tm ds n M s (7,(sgQ g k1:Int))) &&
 decide (ds=2→(f:Int)-g≤n-s)&&decide (ds=2→i.1=2→(f:Int)-g<n-s)
def QnR (M:Int) (f g:Nat) (k1:Int):Bool:=decide ((f:Int)=M∧(g:Int)=M∧k1=8)
def kf (i:TIns):Nat:=if i.1=2 then 1 else 0
def kg (i:TIns):Nat:=if i.1=6 then 1 else 0
def QcG (ds n M s:Int) (rd:Bool):List TIns→Nat→Nat→Int→Bool
 | [],f,g,k1=>QnR M f g k1
 | i::r,f,g,k1=>QfQ ds n M s rd f g k1 i r.isEmpty&&QcG ds n M s rd r (f+kf i) (g+kg i) i.1
def QxU:Bool:=[1,2].all fun ds:Int=>[1,2,3,4].all fun n:Int=>[0,1,2,3].all fun s:Int=>[1,2,3,4,5].all fun M:Int=>[true,false].all fun rd =>
 !(decide (s<n))||QcG ds n M s rd (ZW ds n s M rd) 0 0 0
set_option maxRecDepth 100000 in
theorem QD7:QxU=true:=by kernel_rfl
theorem QOu {ds n s M:Int} (rd:Bool) (h1:1≤ds) (h2:ds≤2) (h3:n≤4) (h4:0≤s) (h5:s<n) (h6:1≤M) (h7:M≤5):QcG ds n M s rd (ZW ds n s M rd) 0 0 0=true:=by
 have h:=QD7
 unfold QxU at h
 rw [List.all_eq_true] at h
 have h:=h ds (by have:ds=1∨ds=2:=(by omega);rcases this with rfl | rfl <;> simp)
 rw [List.all_eq_true] at h
 have h:=h n (by have:n=1∨n=2∨n=3∨n=4:=(by omega);rcases this with rfl | rfl | rfl | rfl <;> simp)
 rw [List.all_eq_true] at h
 have h:=h s (by have:s=0∨s=1∨s=2∨s=3:=(by omega);rcases this with rfl | rfl | rfl | rfl <;> simp)
 rw [List.all_eq_true] at h
 have h:=h M (by have:M=1∨M=2∨M=3∨M=4∨M=5:=(by omega);rcases this with rfl | rfl | rfl | rfl | rfl <;> simp)
 rw [List.all_eq_true] at h
 have h:=h rd (by cases rd <;> simp)
 simpa [h5] using h
def cf (l:List TIns):Nat:=(l.map kf).sum
def cg (l:List TIns):Nat:=(l.map kg).sum
def Y2 (l:List TIns) (k:Nat):Int:=if k=0 then 0 else (gtd dIns l (k-1)).1
theorem Qn2 {ds n M s:Int} {rd:Bool}:∀ (l:List TIns) (f g:Nat) (k1:Int),QcG ds n M s rd l f g k1=true→∀ k,k≤l.length →
  (∀ i,l[k]? = some i→QfQ ds n M s rd (f+cf (l.take k)) (g+cg (l.take k)) (if k=0 then k1 else Y2 l k) i (decide (k+1=l.length))=true) ∧
  (k=l.length→QnR M (f+cf (l.take k)) (g+cg (l.take k)) (if k=0 then k1 else Y2 l k)=true)
 | [],f,g,k1,h,k,hk=>by
  have:k=0:=by simpa using hk
  subst this
  simp only [QcG] at h
  exact ⟨fun i hi=>by simp at hi,fun _=>by simpa [cf,cg] using h⟩
 | i::r,f,g,k1,h,k,hk=>by
  simp only [QcG,Bool.and_eq_true] at h
  cases k with
  | zero =>
   refine ⟨fun j hj=>?_,fun h0=>by simp at h0⟩
   simp at hj
   subst hj
   have:r.isEmpty=decide (0+1=(i::r).length):=by cases r <;> simp
   rw [← this]
   simpa [cf,cg] using h.1
  | succ k =>
   have ih:=Qn2 r (f+kf i) (g+kg i) i.1 h.2 k (by simpa using hk)
   have e1:f+cf ((i::r).take (k+1))=f+kf i+cf (r.take k):=by simp [cf];omega
   have e2:g+cg ((i::r).take (k+1))=g+kg i+cg (r.take k):=by simp [cg];omega
   have e3:(if k=0 then i.1 else Y2 r k)=Y2 (i::r) (k+1):=by
    unfold Y2
    cases k with
    | zero=>simp [gtd]
    | succ k=>simp [gtd]
   rw [e1,e2,if_neg (by omega),← e3]
   refine ⟨fun j hj=>?_,fun h0=>ih.2 (by simpa using h0)⟩
   have:=ih.1 j (by simpa using hj)
   rw [show decide (k+1+1=(i::r).length)=decide (k+1=r.length) by simp]
   exact this
end Go.Proofs.YtjbdljkhbglnhaaGreat.Am
namespace Go.Proofs.YtjbdljkhbglnhaaGreat.Am
open Go Sz
theorem QbQ (x:Int):-2147483647≤Zd x∧Zd x≤2147483647:=by unfold Zd iMin iMax;split <;> split <;> omega
theorem Qm4 {x:Int}:Q6 x=true↔-2147483647≤x∧x≤2147483647:=by simp [Q6]
theorem QMU (x:Int):Q6 (Zd x)=true:=Qm4.2 (QbQ x)
theorem QxH {x:Int} (h:Q6 x=true):Zd x=x:=by
 have:=Qm4.1 h
 unfold Zd iMin iMax;split <;> split <;> omega
theorem QmI (x:Int):Q6 (JE x).1=true:=QMU x
theorem Qmr (a b:Int):Q6 (Zi a b).1=true:=QmI _
theorem QP4 (a b:Int):Q6 (Qbw a b).1=true:=QmI _
theorem QFN (a b:Int):Q6 (ZS a b).1=true:=QmI _
theorem QDC (a:Int):Q6 (QcP a)=true:=by
 have:=QbQ a
 rw [Qm4];unfold QcP iMax;split <;> omega
theorem QDH {a:Int} (h:Q6 a=true):Zi a 0=(a,false):=by
 have e:Zd 0=0:=rfl
 unfold Zi JE
 rw [e,Int.add_zero,QxH h,QxH h,h];rfl
theorem QzD {x:Int} {l:List Int}:Zr (x::l)=(Q6 x&&Zr l):=rfl
theorem YD {v:List Int}:Q2 v=true↔(1≤v.length∧v.length≤6)∧Zr v=true:=by
 simp only [Q2,Bool.and_eq_true,QR]
 constructor
 ·rintro ⟨h1,h2⟩;exact ⟨by omega,h2⟩
 ·rintro ⟨h1,h2⟩;exact ⟨by omega,h2⟩
theorem YN {v:List Int} {n:Int}:Qt v n=true↔Q2 v=true∧(v.length:Int)=n:=by simp [Qt]
theorem Qnc (f:Int→Int→Int × Bool):∀ a b:List Int,(vz f a b).1.length=min a.length b.length
 | [],b=>by simp [vz]
 | a::aa,[]=>by simp [vz]
 | a::aa,b::bb=>by simp [vz,Qnc f aa bb]
theorem QrM {f:Int→Int→Int × Bool} (hf:∀ a b,Q6 (f a b).1=true):∀ a b:List Int,Zr (vz f a b).1=true
 | [],b=>by simp [vz,Zr]
 | a::aa,[]=>by simp [vz,Zr]
 | a::aa,b::bb=>by simp only [vz,QzD,hf,QrM hf aa bb,Bool.and_self]
theorem QtK (f:Int→Int × Bool):∀ a:List Int,(v1 f a).1.length=a.length
 | []=>rfl
 | a::aa=>by simp [v1,QtK f aa]
theorem QtL {f:Int→Int × Bool} (hf:∀ a,Q6 (f a).1=true):∀ a:List Int,Zr (v1 f a).1=true
 | []=>rfl
 | a::aa=>by simp only [v1,QzD,hf,QtL hf aa,Bool.and_self]
theorem Qvg:∀ (a b:List Int) (z:Int),Q6 z=true→Q6 (Qai a b z).1=true
 | [],b,z,h=>by simpa [Qai] using h
 | a::aa,[],z,h=>by simpa [Qai] using h
 | a::aa,b::bb,z,h=>by rw [Qai];exact Qvg aa bb _ (Qmr _ _)
theorem Qvf (a b:List Int):Q6 (Zz a b).1=true:=by
 unfold Zz;split
 ·exact Qvg _ _ _ rfl
 ·rfl
theorem Qa3 {a b:List Int}:Z8 a b=true↔Q2 a=true∧Q2 b=true∧b.length=a.length:=by
 unfold Z8;rw [Bool.and_eq_true,YN]
 constructor <;> (intro h;exact ⟨h.1,h.2.1,by omega⟩)
theorem QxE {f:Int→Int→Int × Bool} (hf:∀ a b,Q6 (f a b).1=true) {a b:List Int} (h:Z8 a b=true):Qt (vz f a b).1 a.length=true:=by
 obtain ⟨h1,h2,h3⟩:=Qa3.1 h
 have:=(YD.1 h1).1
 have hl:=Qnc f a b
 exact YN.2 ⟨YD.2 ⟨by omega,QrM hf a b⟩,by omega⟩
theorem QnV {a b:List Int} (h:Z8 a b=true):Qt (ZR a b).1 a.length=true:=by unfold ZR;rw [if_pos h];exact QxE Qmr h
theorem QLX {a b:List Int} (h:Z8 a b=true):Qt (Zt a b).1 a.length=true:=by unfold Zt;rw [if_pos h];exact QxE QP4 h
theorem QlH {a b:List Int} {n:Int} (h1:Qt a n=true) (h2:Qt b n=true):Z8 a b=true:=by
 obtain ⟨h3,h4⟩:=YN.1 h1
 obtain ⟨h5,h6⟩:=YN.1 h2
 exact Qa3.2 ⟨h3,h5,by omega⟩
theorem QxC {c:Int} {a:List Int} (hc:Q6 c=true) (h:Q2 a=true):Qt (Yu c a).1 a.length=true:=by
 unfold Yu
 rw [hc,h,Bool.and_self,if_pos rfl]
 have:=(YD.1 h).1
 have hl:=QtK (ZS c) a
 exact YN.2 ⟨YD.2 ⟨by omega,QtL (QFN c) a⟩,by omega⟩
theorem QP0 {α:Type} {f:α→Int} (hf:∀ a,Q6 (f a)=true) (l:List α):Zr (l.map f)=true:=by
 unfold Zr;rw [List.all_eq_true];intro x hx
 obtain ⟨a,_,rfl⟩:=List.mem_map.1 hx
 exact hf a
theorem Qlf {α:Type} {f:α→Int} (hf:∀ a,Q6 (f a)=true) {l:List α} (h1:1≤l.length) (h2:l.length≤6):Qt (l.map f) l.length=true :=
 YN.2 ⟨YD.2 ⟨by simp;omega,QP0 hf l⟩,by simp⟩
theorem QNV {a:List Int} (h:Q2 a=true):Qt (Jr a) a.length=true:=by
 unfold Jr;rw [if_pos h]
 have:=(YD.1 h).1
 exact Qlf QDC (by omega) (by omega)
theorem Qra {m:TMat} {x:List Int} (h:(ZL m&&Qt x m.2.1)=true):Qt (ZH m x).1 m.1=true:=by
 unfold ZH;rw [if_pos h]
 have h1:1≤m.1∧m.1≤6:=by simp only [ZL,Bool.and_eq_true,QR] at h;omega
 have:=Qlf (f:=fun i:Nat=>(Zz (Qaq m i) x).1) (fun i=>Qvf _ _) (l:=List.range m.1.toNat) (by simp;omega) (by simp;omega)
 rw [List.length_range,show ((m.1.toNat:Nat):Int)=m.1 by omega] at this
 exact this
theorem Qvl {m:TMat} {x:List Int} (h:(ZL m&&Qt x m.1)=true):Qt (Z2 m x).1 m.2.1=true:=by
 unfold Z2;rw [if_pos h]
 have h1:1≤m.2.1∧m.2.1≤6:=by simp only [ZL,Bool.and_eq_true,QR] at h;omega
 have:=Qlf (f:=fun i:Nat=>(Zz (Jf m i) x).1) (fun i=>Qvf _ _) (l:=List.range m.2.1.toNat) (by simp;omega) (by simp;omega)
 rw [List.length_range,show ((m.2.1.toNat:Nat):Int)=m.2.1 by omega] at this
 exact this
theorem QLv {x d:List Int} (h:Z8 x d=true):Qt (Jg x d) x.length=true:=by
 unfold Jg;rw [if_pos h]
 obtain ⟨h1,h2,h3⟩:=Qa3.1 h
 have hl:=(YD.1 h1).1
 have hf:=(YD.1 h2).2
 refine YN.2 ⟨YD.2 ⟨by simp;omega,?_⟩,by simp;omega⟩
 unfold Zr at hf ⊢
 rw [List.all_eq_true] at hf ⊢
 intro y hy
 rw [List.mem_iff_getElem?] at hy
 obtain ⟨i,hi⟩:=hy
 rw [List.getElem?_zipWith] at hi
 split at hi
 ·rename_i a b ha hb
  cases hi
  split
  ·exact hf b (List.mem_of_getElem? hb)
  ·rfl
 ·cases hi
theorem QoX {d x:List Int} (hd:Q2 d=true) (hx:Q2 x=true):(ZM d x).1.2.2.length=d.length*x.length:=by
 unfold ZM;rw [hd,hx,Bool.and_self,if_pos rfl]
 simp only
 generalize d=l
 clear hd
 induction l with
 | nil=>simp
 | cons a l ih=>rw [List.flatMap_cons,List.length_append,ih];simp [Nat.add_mul];omega
theorem Qdt {o:TOp'} (h:Za o=true):(o.2.2.2.length:Int)=(if o.1=1∨o.1=5 then o.2.1*o.2.2.1 else if o.1=2 then o.2.1 else if o.1=4 then 1 else 0):=by
 have h1:=QcB h
 simp only [Za,Bool.and_eq_true,beq_iff_eq] at h
 rw [h.1.2]
 unfold ZV
 rw [show m_in o.2.1 1 6=true from QR.2 ⟨h1.1,h1.2.1⟩,show m_in o.2.2.1 1 6=true from QR.2 ⟨h1.2.2.1,h1.2.2.2⟩]
 rfl
theorem Qgb {o:TOp'} (h:Za o=true):Zr o.2.2.2=true:=by simp only [Za,Bool.and_eq_true] at h;exact h.2
theorem opEq {o:TOp'} (h:Za o=true) (h1:o.1≠1):o.2.1=o.2.2.1:=by
 simp only [Za,Bool.and_eq_true,Bool.or_eq_true,beq_iff_eq] at h
 rcases h.1.1.2 with h | h
 ·exact absurd h h1
 ·exact h
theorem Qg8 {o:TOp'} (h:Za o=true) (h1:o.1=1∨o.1=5):ZL (Zm o)=true:=by
 have h2:=QcB h
 have h3:=Qdt h
 rw [if_pos h1] at h3
 simp only [ZL,Zm,Bool.and_eq_true,QR,beq_iff_eq]
 refine ⟨⟨⟨⟨by omega,by omega⟩,by omega,by omega⟩,?_⟩,Qgb h⟩
 rw [h3,Int.mul_comm]
theorem QlW {o:TOp'} {x:List Int} (ho:Za o=true) (hx:Qt x o.2.1=true):Qt (Y4 o x).1 o.2.2.1=true:=by
 have hx':=YN.1 hx
 unfold Y4
 rw [ho,hx,Bool.and_self,if_pos rfl]
 split
 ·rename_i h1
  exact Qra (m:=Zm o) (by rw [Qg8 ho (.inl h1)];simpa [Zm] using hx)
 ·rename_i h1
  have he:=opEq ho h1
  rw [← he]
  split
  ·rename_i h2
   have h3:=Qdt ho
   rw [if_neg (by omega),if_pos h2] at h3
   have h4:=QcB ho
   have hp:Z8 x o.2.2.2=true:=Qa3.2 ⟨hx'.1,YD.2 ⟨by omega,Qgb ho⟩,by omega⟩
   rw [← hx'.2]
   exact QnV hp
  ·split
   ·rename_i h2 h3
    have h4:=Qdt ho
    rw [if_neg (by omega),if_neg h2,if_pos h3] at h4
    have hf:Q6 (gtd 0 o.2.2.2 0)=true:=by
     have:=Qgb ho
     unfold Zr at this
     exact List.all_eq_true.1 this _ (JB (by omega) 0)
    rw [← hx'.2]
    exact QxC hf hx'.1
   ·split
    ·rename_i h5
     have hm:=Qg8 ho (.inr h5)
     have hy:Qt (ZH (Zm o) x).1 o.2.2.1=true:=Qra (m:=Zm o) (by rw [hm];simpa [Zm] using hx)
     rw [← he] at hy
     have:=QnV (QlH hx hy)
     rwa [hx'.2] at this
    ·have:=QNV hx'.1
     rwa [hx'.2] at this
theorem QCF {o:TOp'} {x d:List Int} (ho:Za o=true) (hx:Qt x o.2.1=true) (hd:Qt d o.2.2.1=true) :
  Qt (YL o x d).1 o.2.1=true∧(YL o x d).2.1.length=o.2.2.2.length:=by
 have hx':=YN.1 hx
 have hd':=YN.1 hd
 have hs:=Qdt ho
 unfold YL
 rw [ho,hx,hd,Bool.and_self,Bool.and_self,if_pos rfl]
 split
 ·rename_i h1
  rw [if_pos (.inl h1)] at hs
  refine ⟨Qvl (m:=Zm o) (by rw [Qg8 ho (.inl h1)];simpa [Zm] using hd),?_⟩
  have:=QoX hd'.1 hx'.1
  show (ZM d x).1.2.2.length=_
  rw [this]
  have:((d.length*x.length:Nat):Int)=o.2.1*o.2.2.1:=by rw [Int.natCast_mul,hd'.2,hx'.2,Int.mul_comm]
  omega
 ·rename_i h1
  have he:=opEq ho h1
  split
  ·rename_i h2
   rw [if_neg (by omega),if_pos h2] at hs
   refine ⟨by rw [he];exact hd,?_⟩
   show d.length=_
   omega
  ·split
   ·rename_i h2 h3
    rw [if_neg (by omega),if_neg h2,if_pos h3] at hs
    have hf:Q6 (gtd 0 o.2.2.2 0)=true:=by
     have:=Qgb ho
     unfold Zr at this
     exact List.all_eq_true.1 this _ (JB (by omega) 0)
    refine ⟨?_,?_⟩
    ·have:=QxC hf hd'.1
     rw [hd'.2,← he] at this
     exact this
    ·show [(Zz d x).1].length=_
     simp;omega
   ·split
    ·rename_i h2 h3 h5
     rw [if_pos (.inr h5)] at hs
     have hm:=Qg8 ho (.inr h5)
     have hy:Qt (Z2 (Zm o) d).1 o.2.1=true:=Qvl (m:=Zm o) (by rw [hm];simpa [Zm] using hd)
     refine ⟨?_,?_⟩
     ·rw [he] at hy
      have:=QnV (QlH hd hy)
      rw [hd'.2,← he] at this
      exact this
     ·have:=QoX hd'.1 hx'.1
      show (ZM d x).1.2.2.length=_
      rw [this]
      have:((d.length*x.length:Nat):Int)=o.2.1*o.2.2.1:=by rw [Int.natCast_mul,hd'.2,hx'.2,Int.mul_comm]
      omega
    ·rename_i h2 h3 h5
     rw [if_neg (by omega),if_neg h2,if_neg h3] at hs
     have hp:Z8 x d=true:=Qa3.2 ⟨hx'.1,hd'.1,by omega⟩
     refine ⟨?_,by simp;omega⟩
     have:=QLv hp
     rw [hx'.2] at this
     exact this
theorem QdL:∀ (ops:List TOp') (x:List Int),(Qy ops x).1.length=ops.length+1
 | [],x=>rfl
 | o::r,x=>by simp [Qy,QdL r]
def ZI (ops:List TOp') (x:List Int):List Int:=gtd [] (Qy ops x).1 ops.length
theorem QhO (x:List Int):ZI [] x=x:=rfl
theorem QeN (o:TOp') (r:List TOp') (x:List Int):ZI (o::r) x=ZI r (Y4 o x).1:=by
 unfold ZI;rw [Qy];simp [gtd]
theorem Qlz:∀ (a b:List TOp') (x:List Int),Qy (a++b) x=((Qy a x).1.take a.length++(Qy b (ZI a x)).1,(Qy a x).2||(Qy b (ZI a x)).2)
 | [],b,x=>by simp [Qy,QhO]
 | o::a,b,x=>by
  rw [List.cons_append,Qy,Qlz a b,QeN,Qy]
  simp [Bool.or_assoc]
theorem QES (a b:List TOp') (x:List Int):ZI (a++b) x=ZI b (ZI a x):=by
 induction a generalizing x with
 | nil=>rfl
 | cons o a ih=>rw [List.cons_append,QeN,QeN,ih]
theorem QNB (ops:List TOp') (x:List Int):gtd [] (Qy ops x).1 0=x:=by cases ops <;> simp [Qy,gtd]
theorem QAY (ops:List TOp') (x:List Int):(Qy ops x).1.take ops.length++[ZI ops x]=(Qy ops x).1:=by
 unfold ZI
 have hl:=QdL ops x
 have:gtd [] (Qy ops x).1 ops.length=(Qy ops x).1[ops.length]'(by omega):=QdW (List.getElem?_eq_getElem (by omega)) []
 rw [this,List.take_append_getElem (by omega),List.take_of_length_le (by omega)]
theorem Ql0:∀ (ops:List TOp') (rows:List (List Int)) (d:List Int),ops.length≤rows.length→(QI ops rows d).1.length=ops.length
 | [],rows,d,_=>by simp [QI]
 | o::os,[],d,h=>by simp at h
 | o::os,r::rs,d,h=>by simp [QI,Ql0 os rs d (by simpa using h)]
theorem Qjg:∀ (a b:List TOp') (ra rb:List (List Int)) (d:List Int),ra.length=a.length →
  QI (a++b) (ra++rb) d=((QI a ra (QI b rb d).2.1).1++(QI b rb d).1,(QI a ra (QI b rb d).2.1).2.1,(QI a ra (QI b rb d).2.1).2.2||(QI b rb d).2.2)
 | [],b,ra,rb,d,h=>by
  have:ra=[]:=List.eq_nil_of_length_eq_zero (by simpa using h)
  subst this
  simp [QI]
 | o::a,b,[],rb,d,h=>by simp at h
 | o::a,b,r::ra,rb,d,h=>by
  rw [List.cons_append,List.cons_append,QI,Qjg a b ra rb d (by simpa using h),QI]
  simp [Bool.or_assoc]
theorem QNR:∀ (ops:List TOp') (rows more:List (List Int)) (d:List Int),rows.length=ops.length→QI ops (rows++more) d=QI ops rows d:=by
 intro ops rows more d h
 have:=Qjg ops [] rows more d h
 rw [List.append_nil] at this
 rw [this]
 simp [QI]
end Go.Proofs.YtjbdljkhbglnhaaGreat.Am
namespace Go.Proofs.YtjbdljkhbglnhaaGreat.Am
open Go Sz
def ZX:Int→List TOp'→Int→Prop
 | i,[],o=>i=o
 | i,a::r,o=>Za a=true∧a.2.1=i∧ZX a.2.2.1 r o
theorem ZX.append:∀ {a b:List TOp'} {i o:Int},ZX i (a++b) o↔∃ k,ZX i a k∧ZX k b o
 | [],b,i,o=>by simp [ZX]
 | x::a,b,i,o=>by
  rw [List.cons_append,ZX,ZX.append]
  constructor
  ·rintro ⟨h1,h2,k,h3,h4⟩;exact ⟨k,⟨h1,h2,h3⟩,h4⟩
  ·rintro ⟨k,⟨h1,h2,h3⟩,h4⟩;exact ⟨h1,h2,k,h3,h4⟩
theorem QwQ:∀ {l:List TOp'} {p:Option Int},Ye p l=true→∃ i o,ZX i l o∧(∀ q,p=some q→l≠[]→q=i)
 | [],p,h=>⟨0,0,rfl,fun q _ h=>absurd rfl h⟩
 | a::r,p,h=>by
  simp only [Ye,Bool.and_eq_true] at h
  obtain ⟨i,o,h1,h2⟩:=QwQ h.2
  have hp:∀ q,p=some q→a::r≠[]→q=a.2.1:=fun q hq _=>by
   have:=h.1.2
   rw [hq] at this
   simpa using this
  cases r with
  | nil=>exact ⟨a.2.1,a.2.2.1,⟨h.1.1,rfl,rfl⟩,hp⟩
  | cons b r =>
   have:=h2 _ rfl (by simp)
   rw [← this] at h1
   exact ⟨a.2.1,o,⟨h.1.1,rfl,h1⟩,hp⟩
theorem Qyx:∀ {l:List TOp'} {i o:Int} {p:Option Int},ZX i l o→(∀ q,p=some q→q=i)→Ye p l=true
 | [],i,o,p,h,hp=>rfl
 | a::r,i,o,p,h,hp=>by
  obtain ⟨h1,h2,h3⟩:=h
  simp only [Ye,Bool.and_eq_true]
  refine ⟨⟨h1,?_⟩,Qyx h3 (fun q hq=>by cases hq;rfl)⟩
  cases p with
  | none=>rfl
  | some q=>simp [hp q rfl,h2]
theorem ZX.out_eq:∀ {l:List TOp'} {i o:Int},ZX i l o→l≠[]→(gtd dOp l (l.length-1)).2.2.1=o
 | [],i,o,h,hn=>absurd rfl hn
 | [a],i,o,h,hn=>h.2.2
 | a::b::r,i,o,h,hn=>by
  have:=ZX.out_eq h.2.2 (by simp)
  simpa [gtd] using this
theorem QiO {l:List TOp'} {i o:Int} (h:ZX i l o) (h1:1≤l.length) (h2:l.length≤8):QM l=true∧QZ l=i∧Q3 l=o:=by
 have hm:QM l=true:=by
  simp only [QM,Bool.and_eq_true,QR]
  exact ⟨by omega,Qyx h (by simp)⟩
 refine ⟨hm,?_,?_⟩
 ·unfold QZ;rw [if_pos hm]
  cases l with
  | nil=>simp at h1
  | cons a r=>exact h.2.1
 ·unfold Q3;rw [if_pos hm]
  exact h.out_eq (by intro e;rw [e] at h1;simp at h1)
theorem QCY {l:List TOp'} (h:QM l=true):1≤l.length∧l.length≤8∧ZX (QZ l) l (Q3 l):=by
 have hl:=YZ h
 refine ⟨hl.1,hl.2,?_⟩
 have h':=h
 simp only [QM,Bool.and_eq_true] at h'
 obtain ⟨i,o,h1,_⟩:=QwQ h'.2
 have:=QiO h1 hl.1 hl.2
 rw [this.2.1,this.2.2]
 exact h1
theorem QuS:∀ {l:List TOp'} {i o:Int} {x:List Int},ZX i l o→Qt x i=true→Qt (ZI l x) o=true
 | [],i,o,x,h,hx=>by rw [QhO,← show i=o from h];exact hx
 | a::r,i,o,x,h,hx=>by
  obtain ⟨h1,h2,h3⟩:=h
  rw [QeN]
  exact QuS h3 (QlW h1 (by rw [h2];exact hx))
theorem QjT:∀ {l:List TOp'} {i o:Int} {x d:List Int},ZX i l o→Qt x i=true→Qt d o=true →
  Qt (QI l (Qy l x).1 d).2.1 i=true∧Z6 l (QI l (Qy l x).1 d).1=true
 | [],i,o,x,d,h,hx,hd=>by
  refine ⟨?_,rfl⟩
  show Qt d i=true
  rw [show i=o from h];exact hd
 | a::r,i,o,x,d,h,hx,hd=>by
  obtain ⟨h1,h2,h3⟩:=h
  rw [Qy]
  have hx':Qt x a.2.1=true:=by rw [h2];exact hx
  have ih:=QjT h3 (QlW h1 hx') hd
  have:=QCF h1 hx' ih.1
  rw [QI]
  refine ⟨by rw [← h2];exact this.1,?_⟩
  simp only [Z6,Bool.and_eq_true,beq_iff_eq]
  exact ⟨this.2,ih.2⟩
theorem Qpk (all:List TOp') {o:Int}:∀ {l:List TOp'} {i:Int} {x:List Int} {k:Nat},ZX i l o→all.drop k=l→k≤all.length→(l=[]→Qbb all k=i)→Qt x i=true→Je all k (Qy l x).1=true
 | [],i,x,k,h,hk,hle,hs,hx=>by
  simp only [Qy,Je,Bool.and_true]
  rw [hs rfl];exact hx
 | a::r,i,x,k,h,hk,hle,hs,hx=>by
  obtain ⟨h1,h2,h3⟩:=h
  have hlt:=Qer hk
  have hx':Qt x a.2.1=true:=by rw [h2];exact hx
  simp only [Qy,Je,Bool.and_eq_true]
  refine ⟨?_,Qpk all h3 (YS hk) hlt (fun hr=>?_) (QlW h1 hx')⟩
  ·unfold Qbb;rw [if_pos hlt,Y3 hk];exact hx'
  ·have:all.length=k+1:=by have:=Qqy hk;rw [hr] at this;simp at this;omega
   unfold Qbb
   rw [if_neg (by omega),show all.length-1=k by omega,Y3 hk]
theorem QBI {l:List TOp'} {i o:Int} {x:List Int} (h:ZX i l o) (hl:l≠[]) (hx:Qt x i=true):Je l 0 (Qy l x).1=true :=
 Qpk l h (by simp) (by simp) (fun h0=>absurd h0 hl) hx
theorem QfB:∀ (ops:List TOp') (rows:List (List Int)) (k n:Nat),Je ops k rows=true→Je ops k (rows.take n)=true
 | ops,[],k,n,h=>by simp [Je]
 | ops,r::rs,k,0,h=>by simp [Je]
 | ops,r::rs,k,n+1,h=>by
  simp only [Je,List.take_succ_cons,Bool.and_eq_true] at h ⊢
  exact ⟨h.1,QfB ops rs (k+1) n h.2⟩
theorem QEn (a b:List TOp') (x d:List Int) :
  QI (a++b) (Qy (a++b) x).1 d =
   ((QI a (Qy a x).1 (QI b (Qy b (ZI a x)).1 d).2.1).1++(QI b (Qy b (ZI a x)).1 d).1,
    (QI a (Qy a x).1 (QI b (Qy b (ZI a x)).1 d).2.1).2.1,
    (QI a (Qy a x).1 (QI b (Qy b (ZI a x)).1 d).2.1).2.2||(QI b (Qy b (ZI a x)).1 d).2.2):=by
 have hl:=QdL a x
 have ht:((Qy a x).1.take a.length).length=a.length:=by simp;omega
 rw [Qlz]
 simp only
 rw [Qjg a b _ _ d ht]
 have e:∀ d',QI a ((Qy a x).1.take a.length) d'=QI a (Qy a x).1 d':=fun d'=>by
  rw [← QNR a _ [ZI a x] d' ht,QAY]
 rw [e]
theorem QoL:∀ (a b c d:List (List Int)),a.length=c.length→Zg (a++b) (c++d)=((Zg a c).1++(Zg b d).1,(Zg a c).2||(Zg b d).2)
 | [],b,c,d,h=>by
  have:c=[]:=List.eq_nil_of_length_eq_zero (by simpa using h.symm)
  subst this
  simp [Zg]
 | x::a,b,[],d,h=>by simp at h
 | x::a,b,y::c,d,h=>by
  rw [List.cons_append,List.cons_append,Zg,QoL a b c d (by simpa using h),Zg]
  simp [Bool.or_assoc]
theorem QxY:∀ (a b:List (List Int)),(Zg a b).1.length=min a.length b.length
 | [],b=>by simp [Zg]
 | x::a,[]=>by simp [Zg]
 | x::a,y::b=>by simp [Zg,QxY a b]
theorem Qs4:∀ {ops:List TOp'} {a b:List (List Int)},a.length=ops.length→b.length=ops.length→Z6 ops a=true→Z6 ops b=true→Z6 ops (Zg a b).1=true
 | [],a,b,h1,h2,h3,h4=>by
  have:a=[]:=List.eq_nil_of_length_eq_zero (by simpa using h1)
  subst this
  simp [Zg,Z6]
 | o::ops,[],b,h1,h2,h3,h4=>by simp at h1
 | o::ops,x::a,[],h1,h2,h3,h4=>by simp at h2
 | o::ops,x::a,y::b,h1,h2,h3,h4=>by
  simp only [Z6,Bool.and_eq_true,beq_iff_eq] at h3 h4
  simp only [Zg,Z6,Bool.and_eq_true,beq_iff_eq]
  refine ⟨?_,Qs4 (by simpa using h1) (by simpa using h2) h3.2 h4.2⟩
  rw [Qnc];omega
end Go.Proofs.YtjbdljkhbglnhaaGreat.Am
namespace Go.Proofs.YtjbdljkhbglnhaaGreat.Am
open Go Sz
def QE {α:Type} [Sz α] (x:α):Prop:=sz x≤2147483648
def JP {α β:Type} [Sz α] [Sz β] (x:α) (y:β):Prop:=sz x+sz y≤2147483648
def p_st (st s m:Int):Prop:=-1000≤st∧st≤1000
def QnI (st s m:Int) (_:Bool):Prop:=p_st st s m
@[simp] theorem Zv {α:Type} (v:List α) (e:α):List.take (v.length+1) (List.take v.length v++[e])=v++[e]:=by
 rw [List.take_length,List.take_of_length_le (by simp)]
@[simp] theorem QLl {α:Type} (v xs:List α):List.take (v.length+xs.length) (List.take v.length v++xs)=v++xs:=by
 rw [List.take_length,List.take_of_length_le (by simp)]
theorem QbJ {α:Type} {l:List α} {k:Nat} (h:k<l.length):∃ y q,l.drop k=y::q:=by
 cases hq:l.drop k with
 | nil=>have:=congrArg List.length hq;simp at this;omega
 | cons y q=>exact ⟨y,q,rfl⟩
theorem JQ {α:Type} {v:List α} {k:Nat} {x:α} (h:v.length=k):(v++[x]).length=k+1:=by simp [h]
theorem room {n:Nat} (h:n+1≤2147483648):(n=n∨n+1≤n)∧n+1≤big:=⟨.inl rfl,by rw [Zy];omega⟩
theorem sc1 {k:Nat} (h:k<9223372036854775807):w64 ((k:Int)+1)=((k+1:Nat):Int):=by rw [Qp (by omega) (by omega)];omega
theorem QGu (a b:Int):-4611686018427387904≤Zd a*Zd b∧Zd a*Zd b≤4611686018427387904:=by
 obtain ⟨h1,h2⟩:=QbQ a
 obtain ⟨h3,h4⟩:=QbQ b
 generalize Zd a=x at *
 generalize Zd b=y at *
 have hx:x.natAbs≤2147483647:=by omega
 have hy:y.natAbs≤2147483647:=by omega
 have h:=Nat.mul_le_mul hx hy
 rw [← Int.natAbs_mul] at h
 omega
theorem QEQ (x:Int):(if 2147483647<(if x < -2147483647 then -2147483647 else x) then 2147483647 else (if x < -2147483647 then -2147483647 else x))=Zd x:=by
 unfold Zd iMin iMax;repeat' split
 all_goals omega
theorem idx {r R C:Int} (h1:0≤r) (h2:r<R) (h3:0≤C):0≤r*C∧r*C+C≤R*C∧(r+1)*C=r*C+C:=by
 have h4:(r+1)*C=r*C+C:=by rw [Int.add_mul,Int.one_mul]
 have h5:=Int.mul_le_mul_of_nonneg_right (show r+1≤R by omega) h3
 exact ⟨Int.mul_nonneg h1 h3,by omega,h4⟩
theorem QgF {m:TMat} (h:ZL m=true):1≤m.1∧m.1≤6∧1≤m.2.1∧m.2.1≤6∧(m.2.2.length:Int)=m.1*m.2.1∧m.1*m.2.1≤36∧Zr m.2.2=true:=by
 simp only [ZL,Bool.and_eq_true,QR,beq_iff_eq] at h
 have:=Qe0 h.1.1.1.1 h.1.1.1.2 h.1.1.2.1 h.1.1.2.2
 exact ⟨h.1.1.1.1,h.1.1.1.2,h.1.1.2.1,h.1.1.2.2,h.1.2,this.2,h.2⟩
theorem QDe {f:Nat→Bool} {k:Nat}:(List.range (k+1)).any f=((List.range k).any f||f k):=by rw [List.range_succ,List.any_append];simp
theorem Quy {α:Type} {f:Nat→α} {k:Nat}:(List.range (k+1)).map f=(List.range k).map f++[f k]:=by rw [List.range_succ,List.map_append];rfl
theorem Qd2 {α:Type} {f:Nat→List α} {k:Nat}:(List.range (k+1)).flatMap f=(List.range k).flatMap f++f k:=by rw [List.range_succ,List.flatMap_append];simp
theorem Qmi {α:Type} {f:Nat→List α} {R:Nat} (n:Nat) (h:∀ k,k<n→(f k).length=R):((List.range n).flatMap f).length=n*R:=by
 induction n with
 | zero=>simp
 | succ n ih=>rw [Qd2,List.length_append,ih (fun k hk=>h k (by omega)),h n (by omega),Nat.add_mul];omega
theorem QqC {α:Type} {f:Nat→List α} {R:Nat} {k:Nat}:∀ (n:Nat),k<n→(∀ k,k<n→(f k).length=R)→(((List.range n).flatMap f).drop (k*R)).take R=f k
 | 0,hk,_=>by omega
 | n+1,hk,h=>by
  have hl:=Qmi n (fun k hk=>h k (by omega))
  rw [Qd2]
  by_cases e:k=n
  ·subst e
   rw [List.drop_append,List.drop_eq_nil_of_le (by omega),hl,Nat.sub_self,List.drop_zero,List.nil_append,List.take_of_length_le (by rw [h k (by omega)];exact Nat.le_refl _)]
  ·have ih:=QqC (k:=k) n (by omega) (fun k hk=>h k (by omega))
   have:(k+1)*R≤n*R:=Nat.mul_le_mul_right R (show k+1≤n by omega)
   rw [Nat.add_mul,Nat.one_mul] at this
   rw [List.drop_append_of_le_length (by omega),List.take_append_of_le_length (by rw [List.length_drop,hl];omega),ih]
theorem Qnb (m:TMat) (k:Int):(Jf m k).length=m.1.toNat:=by simp [Jf]
theorem QOl {m:TMat} (h:ZL m=true) {k:Nat} (hk:(k:Int)<m.2.1):Zr (Jf m k)=true:=by
 obtain ⟨h1,h2,h3,h4,h5,h6,h7⟩:=QgF h
 unfold Zr Jf
 rw [List.all_eq_true]
 intro x hx
 obtain ⟨i,hi,rfl⟩:=List.mem_map.1 hx
 have hi:=List.mem_range.1 hi
 have hd:=idx (r:=i) (R:=m.1) (C:=m.2.1) (by omega) (by omega) (by omega)
 unfold Zr at h7
 generalize (i:Int)*m.2.1=z at *
 generalize m.1*m.2.1=y at *
 exact List.all_eq_true.1 h7 _ (JB (show Int.toNat (z+k)<m.2.2.length by omega) 0)
theorem QNp {m:TMat} (h:ZL m=true):ZL (YJ m)=true∧(YJ m).1=m.2.1∧(YJ m).2.1=m.1∧∀ k:Nat,(k:Int)<m.2.1→Qaq (YJ m) k=Jf m k:=by
 obtain ⟨h1,h2,h3,h4,h5,h6,h7⟩:=QgF h
 have ht:YJ m=(m.2.1,m.1,(List.range m.2.1.toNat).flatMap fun k:Nat=>Jf m k):=by unfold YJ;rw [if_pos h]
 have hl:=Qmi (f:=fun k:Nat=>Jf m k) m.2.1.toNat (fun k hk=>Qnb m k)
 have hn:((m.2.1.toNat*m.1.toNat:Nat):Int)=m.2.1*m.1:=by rw [Int.natCast_mul,Int.toNat_of_nonneg (by omega),Int.toNat_of_nonneg (by omega)]
 rw [ht]
 refine ⟨?_,rfl,rfl,fun k hk=>?_⟩
 ·simp only [ZL,Bool.and_eq_true,QR,beq_iff_eq]
  refine ⟨⟨⟨⟨h3,h4⟩,h1,h2⟩,by rw [hl,hn]⟩,?_⟩
  unfold Zr
  rw [List.all_eq_true]
  intro x hx
  obtain ⟨k,hk,hx⟩:=List.mem_flatMap.1 hx
  have:=QOl h (k:=k) (by have:=List.mem_range.1 hk;omega)
  unfold Zr at this
  exact List.all_eq_true.1 this x hx
 ·have hs:=QqC (f:=fun k:Nat=>Jf m k) (k:=k) m.2.1.toNat (by omega) (fun k hk=>Qnb m k)
  have hd:=idx (r:=k) (R:=m.2.1) (C:=m.1) (by omega) hk (by omega)
  have e1:Int.toNat ((k:Int)*m.1)=k*m.1.toNat:=by
   have:((k*m.1.toNat:Nat):Int)=(k:Int)*m.1:=by rw [Int.natCast_mul,Int.toNat_of_nonneg (by omega)]
   omega
  unfold Qaq slice
  simp only
  rw [show Int.toNat (((k:Int)+1)*m.1)-Int.toNat ((k:Int)*m.1)=m.1.toNat by omega,e1]
  exact hs
theorem QPr {m:TMat} {d:List Int} (h:ZL m=true) (hd:Qt d m.1=true):ZH (YJ m) d=Z2 m d:=by
 obtain ⟨h1,h2,h3,h4⟩:=QNp h
 unfold ZH Z2
 rw [if_pos (by rw [h1,h3,hd];rfl),if_pos (by rw [h,hd];rfl),h2]
 have e:∀ i,i∈List.range m.2.1.toNat→Qaq (YJ m) (i:Nat)=Jf m (i:Nat):=fun i hi=>h4 i (by have:=List.mem_range.1 hi;omega)
 refine Prod.ext (List.map_congr_left fun i hi=>by rw [e i hi]) ?_
 show (List.range m.2.1.toNat).any _=(List.range m.2.1.toNat).any _
 rw [Bool.eq_iff_iff,List.any_eq_true,List.any_eq_true]
 constructor
 ·rintro ⟨i,hi,h⟩;exact ⟨i,hi,by rw [← e i hi];exact h⟩
 ·rintro ⟨i,hi,h⟩;exact ⟨i,hi,by rw [e i hi];exact h⟩
theorem QQ7 {m:TMat} {d:List Int} (h:¬ (ZL m=true∧Qt d m.1=true)):Z2 m d=([],false):=by unfold Z2;rw [if_neg (by simpa using h)]
theorem QIS {m:TMat} {d:List Int} (h:¬ (ZL m=true∧Qt d m.2.1=true)):ZH m d=([],false):=by unfold ZH;rw [if_neg (by simpa using h)]
theorem Qp5 {o:TOp'} (h:Za o=true) (h4:o.1=4):0<o.2.2.2.length:=by
 have:=Qdt h
 rw [if_neg (by omega),if_neg (by omega),if_pos h4] at this
 omega
theorem QIr {o:TOp'} {x:List Int} (h:¬ (Za o=true∧Qt x o.2.1=true)):Y4 o x=([],false):=by unfold Y4;rw [if_neg (by simpa using h)]
theorem QOC {o:TOp'} {x d:List Int} (h:¬ ((Za o=true∧Qt x o.2.1=true)∧Qt d o.2.2.1=true)):YL o x d=([],[],false):=by unfold YL;rw [if_neg (by simpa using h)]
theorem QpW {o:TOp'} (h:Za o=true):1≤o.1∧o.1≤5:=by simp only [Za,Bool.and_eq_true,QR] at h;exact h.1.1.1.1.1
theorem QdF {α:Type} (v:List α):List.take (id v).length (List.drop 0 (id v))=v:=by simp
theorem QlS {α:Type} (v:List α):List.take v.length (List.drop 0 v)=v:=by simp
theorem Qwg {α:Type} {l:List α} {k:Nat} (h:l.length≤k):l.drop k=[]:=List.drop_eq_nil_of_le h
theorem QLL (n:Nat) (x:Int):List.take n (List.drop 0 (List.replicate n x))=List.replicate n x:=by rw [List.drop_zero,List.take_of_length_le (by simp)]
theorem QbD {α:Type} [Sz α] {l:List α} {A:Int→List α→Prop} {Q:List α→Prop} (hs:sz l≤2147483648)
  (hA:∀ (k:Nat) (x:α) (v:List α),k<l.length→l.length≤2147483648→(∀ d,gtd d l k=x)→v.length=k→sz x≤2147483648→A ((k+1:Nat):Int) (v++[x])→A (k:Nat) v)
  (hE:Q l→A (l.length:Nat) l) (hq:Q l):A 0 []:=by
 have hl:=Qbi l
 refine Zj l (fun r k=>∀ v,v.length=k→v++r=l→A k v) ?_ ?_ [] rfl rfl
 ·intro v hv he
  rw [List.append_nil] at he
  subst he
  exact hE hq
 ·intro k x r hk hlt hg ih v hv he
  have hx:=Qs7 hk
  exact hA k x v hlt (by omega) hg hv (by omega) (ih _ (JQ hv) (by rw [← he];simp))
theorem Qkr {o:TOp'} (h:Za o=true):o.2.2.2.length≤36:=by
 have h1:=Qdt h
 have h2:=QcB h
 have h3:=Qe0 h2.1 h2.2.1 h2.2.2.1 h2.2.2.2
 split at h1
 ·omega
 ·split at h1
  ·omega
  ·split at h1 <;> omega
theorem Qj9 {m:Q5} (h:QM m=true) {k:Nat} (hk:k<m.length):Za (gtd dOp m k)=true:=by
 simp only [QM,Bool.and_eq_true] at h
 exact (QgG h.2 k _ (Jq hk dOp)).1
theorem QrF {α:Type} (d:α) {v:List α} {k:Nat} (h:v.length=k+1):v.take k++[gtd d v k]=v:=by
 have h1:gtd d v k=v[k]'(by omega):=QdW (List.getElem?_eq_getElem (by omega)) d
 rw [h1,List.take_append_getElem (by omega),List.take_of_length_le (by omega)]
theorem QL6 {α:Type} (d:α) {v:List α} {n:Nat} (y:α) (h:v.length=n):gtd d (v++[y]) n=y:=by
 refine QdW ?_ d
 rw [List.getElem?_append_right (by omega)];simp [h]
theorem QF6 {α:Type} {v:List α} {n:Nat} (y:α) (h:v.length=n):(v++[y]).take n=v:=by
 rw [List.take_append_of_le_length (by omega),List.take_of_length_le (by omega)]
theorem QLj {α:Type} (n:Nat) (e g:α) (l:List α):(List.replicate (n+1) e++l).set n g=List.replicate n e++g::l:=by
 rw [List.replicate_succ',List.append_assoc,List.set_append_right _ _ (by simp)]
 simp
theorem Qlm {m:Q5} {x:List Int} (h1:QM m=true) (h2:Qt x (QZ m)=true):Jm m x=Qy m x:=by unfold Jm;rw [if_pos (by rw [h1,h2];rfl)]
theorem QyM:∀ {ops:List TOp'} {rows:List (List Int)},rows.length=ops.length→(∀ o,o∈ops→Za o=true)→Z6 ops rows=true→sz rows≤37*ops.length
 | [],[],_,_,_=>by simp
 | [],r::rs,h,_,_=>by simp at h
 | o::os,[],h,_,_=>by simp at h
 | o::os,r::rs,h,ho,hg=>by
  simp only [Z6,Bool.and_eq_true,beq_iff_eq] at hg
  have h1:=Qkr (ho o List.mem_cons_self)
  have h2:=QyM (by simpa using h) (fun p hp=>ho p (List.mem_cons_of_mem _ hp)) hg.2
  have h3:=Ja r
  rw [Jw,List.length_cons];omega
theorem Qyl {m:Q5} (h:QM m=true):∀ o,o∈m→Za o=true:=by
 intro o ho
 obtain ⟨i,hi⟩:=List.getElem?_of_mem ho
 simp only [QM,Bool.and_eq_true] at h
 exact (QgG h.2 i o hi).1
theorem QHE {m:Q5} (h:QM m=true):(ZN m).1.length=m.length∧Z6 m (ZN m).1=true:=by
 unfold ZN
 rw [if_pos h]
 simp only [List.length_map,true_and]
 clear h
 induction m with
 | nil=>rfl
 | cons o l ih=>simp [Z6,ih]
theorem QoD {m:Q5} (h:QM m=true) {a:Zb} (h1:a.1.length=m.length∧Z6 m a.1=true):sz a≤296:=by
 have:=QyM h1.1 (Qyl h) h1.2
 have:=YZ h
 simp only [YC,Yc,QaY];omega
end Go.Proofs.YtjbdljkhbglnhaaGreat.Am

