/- -/
import Derived.Test.YtjbdljkhbglnhaaGreatZHGA
import Derived.Test.YtjbdljkhbglnhaaGreatZHG9
set_option linter.all false
namespace Go.Proofs.YtjbdljkhbglnhaaGreat.Am
open Go Sz
section
variable {m:QU} {cuts:List Int} (hc:Q0 m cuts=true)
include hc
end
end Go.Proofs.YtjbdljkhbglnhaaGreat.Am
namespace Go.Proofs.YtjbdljkhbglnhaaGreat.Am
open Go Sz
theorem QrJ:∀ (l:List TOp'),(∀ o,o∈l→Q7 o=true)→0≤(l.map fun o:TOp'=>o.2.1).sum∧(l.map fun o:TOp'=>o.2.1).sum≤6*l.length
 | [],_=>by simp
 | o::l,h=>by
  have h1:=Qad (h o (List.mem_cons_self ..))
  have h2:=QrJ l (fun y hy=>h y (List.mem_cons_of_mem _ hy))
  have e:((o::l).map fun o:TOp'=>o.2.1).sum=o.2.1+(l.map fun o:TOp'=>o.2.1).sum:=by simp
  rw [e,List.length_cons]
  omega
theorem QhX (c:Ql) (s:Int):0≤Zz c s∧Zz c s≤54∧0≤(Zm c s).1∧(Zm c s).1≤Zz c s∧0≤(Zm c s).2∧(Zm c s).2≤Zz c s:=by
 obtain ⟨h1,h2,h3,h4⟩:=Qb1 c.1 c.2.1 s
 unfold Zz Zm
 simp only
 generalize Qp c.1 c.2.1 s=r at h1 h2 h3 h4 ⊢
 by_cases h:r.1<r.2
 ·have hm:=(h4.1 h).1
  simp only [Q0,Bool.and_eq_true] at hm
  have hm:=hm.1
  have h8:=Yx hm
  rw [if_pos h,if_neg (by omega)]
  have ha:r.1.toNat<c.1.length:=by omega
  have hb:r.2.toNat-1<c.1.length:=by omega
  have hA:=Qad (Qel hm ha)
  have hB:=Qad (Qel hm hb)
  have hs:slice c.1 r.1 r.2=gtd dOp c.1 r.1.toNat::(c.1.drop (r.1.toNat+1)).take (r.2.toNat-r.1.toNat-1):=by
   unfold slice
   rw [List.drop_eq_getElem_cons ha,show r.2.toNat-r.1.toNat=(r.2.toNat-r.1.toNat-1)+1 by omega,List.take_succ_cons]
   have:gtd dOp c.1 r.1.toNat=c.1[r.1.toNat]:=Qb9 (List.getElem?_eq_getElem ha) _
   rw [this];rfl
  rw [hs]
  have hR:=QrJ ((c.1.drop (r.1.toNat+1)).take (r.2.toNat-r.1.toNat-1)) (fun o ho=>QlL hm o (List.mem_of_mem_drop (List.mem_of_mem_take ho)))
  have hl:((c.1.drop (r.1.toNat+1)).take (r.2.toNat-r.1.toNat-1)).length≤7:=by simp;omega
  simp only [List.map_cons,List.sum_cons]
  rw [Qo (by omega) (by omega)]
  omega
 ·rw [if_neg h,if_pos (by omega)]
  have hs:slice c.1 r.1 r.2=[]:=by unfold slice;rw [show r.2.toNat-r.1.toNat=0 by omega,List.take_zero]
  rw [hs]
  have:w64 (((List.map (fun o:TOp'=>o.2.1) []).sum:Int)+0)=0:=by simp [Qo]
  simp only [this]
  omega
theorem Qnm (c:Ql) (s:Int):0≤ZX c s∧ZX c s≤Zz c s:=by
 have h:=QhX c s
 unfold ZX
 split <;> omega
theorem Qyi (c:Ql) (s m:Int):(Zy c s m=0∧¬ (m_in s 0 (QH c-1)=true∧m_in m 1 5=true∧QH c≤4)) ∨
  ((m_in s 0 (QH c-1)=true∧m_in m 1 5=true∧QH c≤4)∧Zy c s m=(if c.2.2.1=2 then iMin m (QH c-s) else m)*ZX c s+iMax (Zm c s).1 (Zm c s).2+if YD c s then Zz c s else 0):=by
 have h:=QhX c s
 have hv:=Qnm c s
 by_cases hc:(m_in s 0 (QH c-1)&&m_in m 1 5&&decide (QH c≤4))=true
 ·right
  have hc':=hc
  simp only [Bool.and_eq_true,decide_eq_true_eq] at hc'
  refine ⟨⟨hc'.1.1,hc'.1.2,hc'.2⟩,?_⟩
  unfold Zy
  rw [if_pos hc]
  simp only
  have h1:=QJ.1 hc'.1.1
  have h2:=QJ.1 hc'.1.2
  have hk:1≤(if c.2.2.1=2 then iMin m (QH c-s) else m)∧(if c.2.2.1=2 then iMin m (QH c-s) else m)≤5:=by
   unfold iMin;split <;> (try split) <;> omega
  generalize (if c.2.2.1=2 then iMin m (QH c-s) else m)=k at hk ⊢
  have hp:0≤k*ZX c s∧k*ZX c s≤5*54:=⟨Int.mul_nonneg (by omega) hv.1,Int.mul_le_mul hk.2 (by omega) hv.1 (by omega)⟩
  generalize k*ZX c s=P at hp ⊢
  have hx:0≤iMax (Zm c s).1 (Zm c s).2∧iMax (Zm c s).1 (Zm c s).2≤54:=by unfold iMax;split <;> omega
  generalize iMax (Zm c s).1 (Zm c s).2=X at hx ⊢
  rw [Qo (x:=P) (by omega) (by omega),Qo (x:=P+X) (by omega) (by omega)]
  have hf:0≤(if YD c s=true then Zz c s else 0)∧(if YD c s=true then Zz c s else 0)≤54:=by split <;> omega
  generalize (if YD c s=true then Zz c s else 0)=F at hf ⊢
  rw [Qo (by omega) (by omega)]
 ·left
  refine ⟨?_,fun h=>hc (by simp [h.1,h.2.1,h.2.2])⟩
  unfold Zy
  rw [if_neg hc]
theorem QOs (c:Ql) (s m:Int):0≤Zy c s m∧(0<Zy c s m→ZX c s≤Zy c s m):=by
 have h:=QhX c s
 have hv:=Qnm c s
 rcases Qyi c s m with ⟨h0,_⟩ | ⟨⟨h1,h2,h3⟩,h0⟩
 ·rw [h0];exact ⟨Int.le_refl _,fun h=>absurd h (by omega)⟩
 ·rw [h0]
  have h1:=QJ.1 h1
  have h2:=QJ.1 h2
  have hk:1≤(if c.2.2.1=2 then iMin m (QH c-s) else m):=by
   unfold iMin;split <;> (try split) <;> omega
  generalize (if c.2.2.1=2 then iMin m (QH c-s) else m)=k at hk ⊢
  have hp:1*ZX c s≤k*ZX c s:=Int.mul_le_mul_of_nonneg_right hk hv.1
  have hx:0≤iMax (Zm c s).1 (Zm c s).2:=by unfold iMax;split <;> omega
  have hf:0≤(if YD c s=true then Zz c s else 0):=by split <;> omega
  generalize k*ZX c s=P at hp ⊢
  omega
end Go.Proofs.YtjbdljkhbglnhaaGreat.Am
namespace Go.Proofs.YtjbdljkhbglnhaaGreat.Am
open Go Sz
def Qdf (r:List Int):Int:=if 0<r.length then w64 (gtd 0 r (r.length-1)+1) else 1
def ext (lim:Int) (r:List Int):List (List Int):=(List.range (lim+1-Qdf r).toNat).map fun j:Nat=>r++[Qdf r+(j:Int)]
def grow (n k:Int):Nat→List (List Int)
 | 0=>[[]]
 | i+1=>(grow n k i).flatMap (ext (n-k+((i+1:Nat):Int)))
def Q2 (n k:Int):List (List Int):=if m_in n 1 8&&m_in k 1 n then grow n k (k-1).toNat else []
def fk (n:Int) (now:List Int):Nat→Int
 | 0=>-1
 | k+1=>if gtd 0 now k=w64 (w64 (n-now.length)+k) then fk n now k else k
def fill (now:List Int) (i:Nat):Nat→List Int
 | 0=>now
 | f+1=>fill (now.set i (w64 (gtd 0 now (i-1)+1))) (i+1) f
def Qfp (n:Int) (now:List Int):Option (List Int) :=
 if fk n now now.length<0 then none
 else some (fill (now.set (fk n now now.length).toNat (w64 (gtd 0 now (fk n now now.length).toNat+1))) ((fk n now now.length).toNat+1) (now.length-((fk n now now.length).toNat+1)))
def Qd3 (n:Int):List (List Int)→Bool
 | []=>false
 | [x]=>(Qfp n x).isNone
 | x::y::r=>decide (Qfp n x=some y)&&Qd3 n (y::r)
def QzL (n k:Int) (i:Nat):Bool:=decide ((grow n k i).length≤100)&&(grow n k i).all fun r=>decide (r.length=i)&&decide (1≤Qdf r)&&decide (Qdf r≤9)
def Qhu (n k:Int):Bool :=
 ((List.range k.toNat).all fun i=>QzL n k i)&&Qd3 n (Q2 n k)&&decide ((Q2 n k).head? = some ((List.range (k-1).toNat).map fun i:Nat=>(i:Int)+1)) &&
  (Q2 n k).all fun v=>ZR (n-1) none v&&decide ((v.length:Int)=k-1)
def Qyj:Bool:=[1,2,3,4,5,6,7,8].all fun n:Int=>[1,2,3,4,5,6,7,8].all fun k:Int=>!(decide (k≤n))||Qhu n k
set_option maxRecDepth 100000 in
theorem QCH:Qyj=true:=by kernel_rfl
theorem Qyq {n k:Int} (h1:n≤8) (h2:1≤k) (h3:k≤n):Qhu n k=true:=by
 have h:=QCH
 unfold Qyj at h
 rw [List.all_eq_true] at h
 have h:=h n (by have:n=1∨n=2∨n=3∨n=4∨n=5∨n=6∨n=7∨n=8:=(by omega);rcases this with rfl | rfl | rfl | rfl | rfl | rfl | rfl | rfl <;> simp)
 rw [List.all_eq_true] at h
 have h:=h k (by have:k=1∨k=2∨k=3∨k=4∨k=5∨k=6∨k=7∨k=8:=(by omega);rcases this with rfl | rfl | rfl | rfl | rfl | rfl | rfl | rfl <;> simp)
 simpa [h3] using h
theorem QN4 {n k:Int} (h1:n≤8) (h2:1≤k) (h3:k≤n) {i:Nat} (hi:i<k.toNat):(grow n k i).length≤100∧∀ r,r∈grow n k i→r.length=i∧1≤Qdf r∧Qdf r≤9:=by
 have h:=Qyq h1 h2 h3
 simp only [Qhu,Bool.and_eq_true,List.all_eq_true,List.mem_range,QzL,decide_eq_true_eq] at h
 have h4:=h.1.1.1 i hi
 exact ⟨h4.1,fun r hr=>⟨(h4.2 r hr).1.1,(h4.2 r hr).1.2,(h4.2 r hr).2⟩⟩
theorem QhE {n k:Int} (h1:n≤8) (h2:1≤k) (h3:k≤n):Qd3 n (Q2 n k)=true∧(Q2 n k).head? = some ((List.range (k-1).toNat).map fun i:Nat=>(i:Int)+1) ∧
  ∀ v,v∈Q2 n k→ZR (n-1) none v=true∧(v.length:Int)=k-1:=by
 have h:=Qyq h1 h2 h3
 simp only [Qhu,Bool.and_eq_true,List.all_eq_true,decide_eq_true_eq] at h
 exact ⟨h.1.1.2,h.1.2,h.2⟩
theorem QkZ {n k:Int} (h1:n≤8) (h2:1≤k) (h3:k≤n):1≤(Q2 n k).length∧(Q2 n k).length≤100:=by
 have h:=(QhE h1 h2 h3).2.1
 constructor
 ·cases hl:Q2 n k with
  | nil=>rw [hl] at h;simp at h
  | cons x l=>simp
 ·unfold Q2
  split
  ·exact (QN4 h1 h2 h3 (by omega)).1
  ·simp
def JH (f:List Int→Int):List (List Int)→List Int→List Int
 | [],b=>b
 | x::r,b=>JH f r (if f x<f b then x else b)
def Yj (m:QU) (k:Int):List Int × Bool :=
 if Qw m&&m_in k 1 m.length then (JH (YX m) (Q2 m.length k) (gtd [] (Q2 m.length k) 0),true) else ([],false)
def Qnl (f:List Int→Int) (l:List (List Int)) (b:List Int):Prop:=∃ pre post,l=pre++b::post∧(∀ y,y∈pre→f b<f y)∧∀ y,y∈post→f b≤f y
theorem Qrw (f:List Int→Int):∀ (r l:List (List Int)) (b:List Int),Qnl f l b→Qnl f (l++r) (JH f r b)
 | [],l,b,h=>by rw [List.append_nil];exact h
 | x::r,l,b,h=>by
  rw [JH,show l++x::r=(l++[x])++r by simp]
  refine Qrw f r (l++[x]) _ ?_
  obtain ⟨pre,post,hl,h1,h2⟩:=h
  by_cases hx:f x<f b
  ·rw [if_pos hx]
   refine ⟨l,[],by simp,fun y hy=>?_,by simp⟩
   rw [hl] at hy
   rcases List.mem_append.1 hy with hy | hy
   ·have:=h1 y hy;omega
   ·rcases List.mem_cons.1 hy with rfl | hy
    ·exact hx
    ·have:=h2 y hy;omega
  ·rw [if_neg hx]
   refine ⟨pre,post++[x],by rw [hl];simp,h1,fun y hy=>?_⟩
   rcases List.mem_append.1 hy with hy | hy
   ·exact h2 y hy
   ·rw [List.mem_singleton.1 hy];omega
theorem QCC {m:QU} {k:Int} (h:(Qw m&&m_in k 1 m.length)=true):Qnl (YX m) (Q2 m.length k) (Yj m k).1:=by
 unfold Yj
 rw [if_pos h]
 simp only [Bool.and_eq_true,QJ] at h
 have hm:=Yx h.1
 have hl:=QkZ (n:=m.length) (k:=k) (by omega) (by omega) (by omega)
 cases hA:Q2 m.length k with
 | nil=>rw [hA] at hl;simp at hl
 | cons x r =>
  have e:JH (YX m) (x::r) (gtd [] (x::r) 0)=JH (YX m) r x:=by
   rw [Qbg,JH,if_neg (by omega)]
  rw [e]
  exact Qrw (YX m) r [x] x ⟨[],[],rfl,by simp,by simp⟩
end Go.Proofs.YtjbdljkhbglnhaaGreat.Am

