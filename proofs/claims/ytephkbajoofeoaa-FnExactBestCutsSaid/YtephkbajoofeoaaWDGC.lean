/- -/
import Derived.Test.YtephkbajoofeoaaWDGA
import Derived.Test.YtephkbajoofeoaaWDG8
set_option linter.all false
namespace Go.Proofs.Ytephkbajoofeoaa.Am
open Go Sz
section
variable {m:QA} {cuts:List Int} (hc:Qp m cuts=true)
include hc
end
end Go.Proofs.Ytephkbajoofeoaa.Am
namespace Go.Proofs.Ytephkbajoofeoaa.Am
open Go Sz
end Go.Proofs.Ytephkbajoofeoaa.Am
namespace Go.Proofs.Ytephkbajoofeoaa.Am
open Go Sz
def ZW (r:List Int):Int:=if 0<r.length then w64 (gtd 0 r (r.length-1)+1) else 1
def ext (lim:Int) (r:List Int):List (List Int):=(List.range (lim+1-ZW r).toNat).map fun j:Nat=>r++[ZW r+(j:Int)]
def grow (n k:Int):Nat→List (List Int)
 | 0=>[[]]
 | i+1=>(grow n k i).flatMap (ext (n-k+((i+1:Nat):Int)))
def Qe (n k:Int):List (List Int):=if m_in n 1 8&&m_in k 1 n then grow n k (k-1).toNat else []
def fk (n:Int) (now:List Int):Nat→Int
 | 0=>-1
 | k+1=>if gtd 0 now k=w64 (w64 (n-now.length)+k) then fk n now k else k
def fill (now:List Int) (i:Nat):Nat→List Int
 | 0=>now
 | f+1=>fill (now.set i (w64 (gtd 0 now (i-1)+1))) (i+1) f
def J2 (n:Int) (now:List Int):Option (List Int) :=
 if fk n now now.length<0 then none
 else some (fill (now.set (fk n now now.length).toNat (w64 (gtd 0 now (fk n now now.length).toNat+1))) ((fk n now now.length).toNat+1) (now.length-((fk n now now.length).toNat+1)))
def Jj (n:Int):List (List Int)→Bool
 | []=>false
 | [x]=>(J2 n x).isNone
 | x::y::r=>decide (J2 n x=some y)&&Jj n (y::r)
def Qji (n k:Int) (i:Nat):Bool:=decide ((grow n k i).length≤100)&&(grow n k i).all fun r=>decide (r.length=i)&&decide (1≤ZW r)&&decide (ZW r≤9)
def QaP (n k:Int):Bool :=
 ((List.range k.toNat).all fun i=>Qji n k i)&&Jj n (Qe n k)&&decide ((Qe n k).head? = some ((List.range (k-1).toNat).map fun i:Nat=>(i:Int)+1)) &&
  (Qe n k).all fun v=>QQ (n-1) none v&&decide ((v.length:Int)=k-1)
def QkS:Bool:=[1,2,3,4,5,6,7,8].all fun n:Int=>[1,2,3,4,5,6,7,8].all fun k:Int=>!(decide (k≤n))||QaP n k
set_option maxRecDepth 100000 in
theorem QnQ:QkS=true:=by kernel_rfl
theorem Qic {n k:Int} (h1:n≤8) (h2:1≤k) (h3:k≤n):QaP n k=true:=by
 have h:=QnQ
 unfold QkS at h
 rw [List.all_eq_true] at h
 have h:=h n (by have:n=1∨n=2∨n=3∨n=4∨n=5∨n=6∨n=7∨n=8:=(by omega);rcases this with rfl | rfl | rfl | rfl | rfl | rfl | rfl | rfl <;> simp)
 rw [List.all_eq_true] at h
 have h:=h k (by have:k=1∨k=2∨k=3∨k=4∨k=5∨k=6∨k=7∨k=8:=(by omega);rcases this with rfl | rfl | rfl | rfl | rfl | rfl | rfl | rfl <;> simp)
 simpa [h3] using h
theorem Qj1 {n k:Int} (h1:n≤8) (h2:1≤k) (h3:k≤n) {i:Nat} (hi:i<k.toNat):(grow n k i).length≤100∧∀ r,r∈grow n k i→r.length=i∧1≤ZW r∧ZW r≤9:=by
 have h:=Qic h1 h2 h3
 simp only [QaP,Bool.and_eq_true,List.all_eq_true,List.mem_range,Qji,decide_eq_true_eq] at h
 have h4:=h.1.1.1 i hi
 exact ⟨h4.1,fun r hr=>⟨(h4.2 r hr).1.1,(h4.2 r hr).1.2,(h4.2 r hr).2⟩⟩
theorem JW {n k:Int} (h1:n≤8) (h2:1≤k) (h3:k≤n):Jj n (Qe n k)=true∧(Qe n k).head? = some ((List.range (k-1).toNat).map fun i:Nat=>(i:Int)+1) ∧
  ∀ v,v∈Qe n k→QQ (n-1) none v=true∧(v.length:Int)=k-1:=by
 have h:=Qic h1 h2 h3
 simp only [QaP,Bool.and_eq_true,List.all_eq_true,decide_eq_true_eq] at h
 exact ⟨h.1.1.2,h.1.2,h.2⟩
theorem Qcp {n k:Int} (h1:n≤8) (h2:1≤k) (h3:k≤n):1≤(Qe n k).length∧(Qe n k).length≤100:=by
 have h:=(JW h1 h2 h3).2.1
 constructor
 ·cases hl:Qe n k with
  | nil=>rw [hl] at h;simp at h
  | cons x l=>simp
 ·unfold Qe
  split
  ·exact (Qj1 h1 h2 h3 (by omega)).1
  ·simp
def QS (f:List Int→Int):List (List Int)→List Int→List Int
 | [],b=>b
 | x::r,b=>QS f r (if f x<f b then x else b)
def QB (m:QA) (k:Int):List Int × Bool :=
 if Qq m&&m_in k 1 m.length then (QS (Qx m) (Qe m.length k) (gtd [] (Qe m.length k) 0),true) else ([],false)
def QdR (f:List Int→Int) (l:List (List Int)) (b:List Int):Prop:=∃ pre post,l=pre++b::post∧(∀ y,y∈pre→f b<f y)∧∀ y,y∈post→f b≤f y
theorem Qjg (f:List Int→Int):∀ (r l:List (List Int)) (b:List Int),QdR f l b→QdR f (l++r) (QS f r b)
 | [],l,b,h=>by rw [List.append_nil];exact h
 | x::r,l,b,h=>by
  rw [QS,show l++x::r=(l++[x])++r by simp]
  refine Qjg f r (l++[x]) _ ?_
  obtain ⟨pre,post,hl,h1,h2⟩:=h
  by_cases hx:f x<f b
  ·rw [if_pos hx]
   refine ⟨l,[],by simp,fun y hy=>?_,by simp⟩
   rw [hl] at hy
   rcases List.mem_append.1 hy with hy | hy
   ·have:=h1 y hy;omega
   ·rcases List.mem_cons.1 hy with rfl | hy
    ·exact hx
    ·have:=h2 y hy;omega
  ·rw [if_neg hx]
   refine ⟨pre,post++[x],by rw [hl];simp,h1,fun y hy=>?_⟩
   rcases List.mem_append.1 hy with hy | hy
   ·exact h2 y hy
   ·rw [List.mem_singleton.1 hy];omega
theorem Qs5 {m:QA} {k:Int} (h:(Qq m&&m_in k 1 m.length)=true):QdR (Qx m) (Qe m.length k) (QB m k).1:=by
 unfold QB
 rw [if_pos h]
 simp only [Bool.and_eq_true,QN] at h
 have hm:=JY h.1
 have hl:=Qcp (n:=m.length) (k:=k) (by omega) (by omega) (by omega)
 cases hA:Qe m.length k with
 | nil=>rw [hA] at hl;simp at hl
 | cons x r =>
  have e:QS (Qx m) (x::r) (gtd [] (x::r) 0)=QS (Qx m) r x:=by
   rw [QfX,QS,if_neg (by omega)]
  rw [e]
  exact Qjg (Qx m) r [x] x ⟨[],[],rfl,by simp,by simp⟩
end Go.Proofs.Ytephkbajoofeoaa.Am

