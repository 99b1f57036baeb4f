/- -/
import Derived.Test.YtephkbajoofeoaaYFG8
set_option linter.all false
namespace Go.Proofs.Ytephkbajoofeoaa.Am
open Go Sz
theorem Qau (st s m:Int):(Qq st s m).length≤3:=by unfold Qq;split <;> split <;> simp
theorem QcG (st s m:Int) (redo:Bool):(Qs st s m redo).length≤4:=by unfold Qs;split <;> split <;> split <;> simp
theorem Qb6 {st s mi:Int}:QD st s mi=true↔1≤st∧st≤4∧0≤s∧s<st∧1≤mi∧mi≤5:=by
 simp only [QD,Bool.and_eq_true,Qbu];omega
theorem QgC {α:Type} {l x:List α} (h:l.length+x.length≤1000000):(l.length=l.length∨l.length+(List.take x.length (List.drop 0 x)).length≤l.length)∧l.length+(List.take x.length (List.drop 0 x)).length≤big:=by
 rw [List.drop_zero,List.take_length];exact ⟨.inl rfl,by rw [Q0];omega⟩
end Go.Proofs.Ytephkbajoofeoaa.Am
namespace Go.Proofs.Ytephkbajoofeoaa.Am
open Go Sz
def want (st s m:Int) (redo:Bool):List TIns:=Qq st s m++Qs st s m redo
def Qh (st s:Int) (redo:Bool):List Int:=(want st s 0 redo).map Prod.fst
def Qa1 (st s:Int) (_:Bool):Prop:=-1000≤st∧st≤1000
theorem JK (st s m:Int) (redo:Bool):want st s m redo=(Qh st s redo).map fun k=>(k,m):=by
 unfold Qh want Qq Qs
 by_cases h1:0<s <;> by_cases h2:s<st-1 <;> cases redo <;> simp [h1,h2]
theorem QiI (st s:Int) (redo:Bool):(Qh st s redo).Pairwise (· < ·)∧∀ k,k∈Qh st s redo→k≠8:=by
 unfold Qh want Qq Qs
 by_cases h1:0<s <;> by_cases h2:s<st-1 <;> cases redo <;> simp [h1,h2]
theorem Qaw (st s:Int) (redo:Bool):(Qh st s redo).length≤7:=by
 have h1:=Qau st s 0
 have h2:=QcG st s 0 redo
 simp [Qh,want];omega
theorem QcW (st s m:Int) (redo:Bool):(want st s m redo).length=(Qh st s redo).length:=by rw [JK];simp
def QR (l:List TIns):Bool:=(List.range l.length).all fun k=>(List.range k).all fun j=>!(((gtd dIns l k).1==(gtd dIns l j).1)&&decide ((gtd dIns l k).2≤(gtd dIns l j).2))
def Qw (l:List TIns) (st s mi:Int) (redo:Bool):Bool :=
 QD st s mi&&(decide (1≤l.length)&&decide (gtd dIns l (l.length-1)=(8,0))) &&
  ((List.range mi.toNat).all fun m=>decide ((l.take (l.length-1)).filter (fun x=>x.2==(m:Int))=want st s m redo)) &&
  (decide (l.length-1=mi.toNat*(Qh st s redo).length)&&QR (l.take (l.length-1)))
def QM (x:TIns):List TIns→Nat→Int→Int
 | [],_,a=>a
 | y::r,i,a=>if y=x then (if 0≤a then -1 else QM x r (i+1) i) else QM x r (i+1) a
def Ql (l:List TIns) (kind m:Int):Int:=QM (kind,m) l 0 (-1)
def Zr (l:List TIns) (o:List Int) (k m:Nat):Bool :=
 !(decide (Ql l (gtd 0 o k) m<0)||(decide (0<k)&&decide (Ql l (gtd 0 o k) m≤Ql l (gtd 0 o (k-1)) m)) ||
  (decide (0<m)&&decide (Ql l (gtd 0 o k) m≤Ql l (gtd 0 o k) ((m:Int)-1))))
def Zm (l:List TIns) (st s mi:Int) (redo:Bool):Bool :=
 QD st s mi&&(decide (l.length=mi.toNat*(Qh st s redo).length+1)&&decide (gtd dIns l (l.length-1)=(8,0))) &&
  ((List.range (Qh st s redo).length).all fun k=>(List.range mi.toNat).all fun m=>Zr l (Qh st s redo) k m)
theorem go1 (x:TIns):∀ (r:List TIns) (k:Nat) (a:Int),0≤a→QM x r k a=if x∈r then -1 else a
 | [],k,a,h=>by simp [QM]
 | y::r,k,a,h=>by
  unfold QM
  by_cases e:y=x
  ·subst e;simp [h]
  ·rw [if_neg e,go1 x r (k+1) a h]
   have:¬ x=y:=fun q=>e q.symm
   simp [this]
theorem QdR {x:TIns}:∀ {r:List TIns} {k:Nat},0≤QM x r k (-1)→∃ i:Nat,r[i]? = some x∧(∀ j,r[j]? = some x→j=i)∧QM x r k (-1)=((k+i:Nat):Int)
 | [],k,h=>by simp [QM] at h
 | y::r,k,h=>by
  unfold QM at h ⊢
  by_cases e:y=x
  ·subst e
   rw [if_pos rfl,if_neg (by omega),go1 y r (k+1) k (by omega)] at h ⊢
   by_cases hm:y∈r
   ·simp [hm] at h
   ·refine ⟨0,by simp,fun j hj=>?_,by simp [hm]⟩
    cases j with
    | zero=>rfl
    | succ j=>exact absurd (List.mem_of_getElem? (by simpa using hj)) hm
  ·rw [if_neg e] at h ⊢
   obtain ⟨i,h1,h2,h3⟩:=QdR h
   refine ⟨i+1,by simpa using h1,fun j hj=>?_,by rw [h3];omega⟩
   cases j with
   | zero=>simp at hj;exact absurd hj e
   | succ j=>rw [h2 j (by simpa using hj)]
theorem QcK {x:TIns}:∀ {r:List TIns} {k i:Nat},r[i]? = some x→(∀ j,r[j]? = some x→j=i)→QM x r k (-1)=((k+i:Nat):Int)
 | [],k,i,h,hu=>by simp at h
 | y::r,k,i,h,hu=>by
  unfold QM
  cases i with
  | zero =>
   simp at h;subst h
   rw [if_pos rfl,if_neg (by omega),go1 y r (k+1) k (by omega),if_neg]
   ·simp
   ·intro hm
    obtain ⟨j,hj⟩:=List.getElem?_of_mem hm
    have:=hu (j+1) (by simpa using hj)
    omega
  | succ i =>
   rw [if_neg (fun e=>by have:=hu 0 (by simp [e]);omega),QcK (by simpa using h) (fun j hj=>by have:=hu (j+1) (by simpa using hj);omega)]
   omega
theorem Qbn {α:Type} {l:List α} {i:Nat} {x:α} (h:l[i]? = some x):l.drop i=x::l.drop (i+1):=by
 obtain ⟨hi,rfl⟩:=List.getElem?_eq_some_iff.1 h
 exact List.drop_eq_getElem_cons hi
theorem QaU {α:Type} {l:List α}:∀ (w:List α) (p:Nat→Nat) (b:Nat),(∀ k,k<w.length→b≤p k∧l[p k]? = w[k]?)→(∀ k,k+1<w.length→p k<p (k+1))→w.Sublist (l.drop b)
 | [],p,b,h,hm=>List.nil_sublist _
 | x::r,p,b,h,hm=>by
  have h0:=h 0 (by simp)
  have hx:=Qbn (l:=l) (i:=p 0) (x:=x) (by rw [h0.2];rfl)
  have ih:=QaU (l:=l) r (fun k=>p (k+1)) (p 0+1) (fun k hk=>by
   have h1:=h (k+1) (by simpa using hk)
   refine ⟨?_,by rw [h1.2];rfl⟩
   clear h1
   induction k with
   | zero=>exact hm 0 (by simpa using hk)
   | succ k ihk =>
    have h2:=ihk (by omega)
    have h3:=hm (k+1) (by simp;omega)
    omega) (fun k hk=>hm (k+1) (by simpa using hk))
  have h1:(x::r).Sublist (l.drop (p 0)):=by rw [hx];exact ih.cons_cons x
  have h2:(l.drop (p 0)).Sublist (l.drop b):=by
   rw [show p 0=b+(p 0-b) by omega,← List.drop_drop]
   exact List.drop_sublist _ _
  exact h1.trans h2
def filt (b:List TIns) (m:Int):List TIns:=b.filter (fun x=>x.2==m)
theorem Qd5 (b:List TIns):∀ n:Nat,(((List.range n).map fun m:Nat=>(filt b m).length).sum)=(b.filter fun x=>decide (0≤x.2)&&decide (x.2<(n:Int))).length
 | 0=>by
  have:(b.filter fun x=>decide (0≤x.2)&&decide (x.2<((0:Nat):Int)))=[]:=by
   rw [List.filter_eq_nil_iff];intro x _;simp
  rw [this];simp
 | n+1=>by
  rw [Qbg,List.sum_append,Qd5 b n]
  unfold filt
  induction b with
  | nil=>simp
  | cons y r ih =>
   simp only [List.sum_cons,List.sum_nil,Nat.add_zero] at ih ⊢
   by_cases h1:y.2=n
   ·have a1:(decide (0≤y.2)&&decide (y.2<(n:Int)))=false:=by simp;omega
    have a2:(decide (0≤y.2)&&decide (y.2<((n+1:Nat):Int)))=true:=by simp;omega
    have a3:(y.2==(n:Int))=true:=by simp [h1]
    simp only [List.filter_cons,a1,a2,a3,if_true,Bool.false_eq_true,if_false,List.length_cons]
    omega
   ·have a3:(y.2==(n:Int))=false:=by simp [h1]
    by_cases h2:0≤y.2∧y.2<n
    ·have a1:(decide (0≤y.2)&&decide (y.2<(n:Int)))=true:=by simp;omega
     have a2:(decide (0≤y.2)&&decide (y.2<((n+1:Nat):Int)))=true:=by simp;omega
     simp only [List.filter_cons,a1,a2,a3,if_true,Bool.false_eq_true,if_false,List.length_cons]
     omega
    ·have a1:(decide (0≤y.2)&&decide (y.2<(n:Int)))=false:=by simp;omega
     have a2:(decide (0≤y.2)&&decide (y.2<((n+1:Nat):Int)))=false:=by simp;omega
     simp only [List.filter_cons,a1,a2,a3,Bool.false_eq_true,if_false]
     omega
theorem QaM {f:Nat→Nat} {c:Nat}:∀ n:Nat,(∀ m,m<n→c≤f m)→n*c≤((List.range n).map f).sum
 | 0,_=>by simp
 | n+1,h=>by
  have h1:=QaM n (fun m hm=>h m (by omega))
  have h2:=h n (by omega)
  rw [Qbg,List.sum_append,Nat.add_mul];simp;omega
theorem QcF {f:Nat→Nat} {c:Nat}:∀ n:Nat,(∀ m,m<n→c≤f m)→((List.range n).map f).sum≤n*c→∀ m,m<n→f m=c
 | 0,_,_,m,hm=>by omega
 | n+1,h,hs,m,hm=>by
  have h1:=QaM (f:=f) n (fun m hm=>h m (by omega))
  have h2:=h n (by omega)
  rw [Qbg,List.sum_append,Nat.add_mul] at hs;simp at hs
  by_cases e:m=n
  ·subst e;omega
  ·exact QcF n (fun m hm=>h m (by omega)) (by omega) m (by omega)
def Qai (b:List TIns):Prop:=∀ (i j:Nat) (x y:TIns),i<j→b[i]? = some x→b[j]? = some y→x.1=y.1→x.2<y.2
theorem QcA (b:List TIns):QR b=true↔Qai b:=by
 unfold QR Qai
 rw [List.all_eq_true]
 constructor
 ·intro h i j x y hij hx hy he
  have hj:=(List.getElem?_eq_some_iff.1 hy).1
  have:=List.all_eq_true.1 (h j (List.mem_range.2 hj)) i (List.mem_range.2 hij)
  rw [Z9 hx,Z9 hy] at this
  simp [he] at this;omega
 ·intro h k hk
  rw [List.all_eq_true]
  intro j hj
  have hk:=List.mem_range.1 hk
  have hj:=List.mem_range.1 hj
  have h1:=Z1 hk dIns
  have h2:=Z1 (show j<b.length by omega) dIns
  have:=h j k _ _ hj h2 h1
  generalize gtd dIns b k=x at *
  generalize gtd dIns b j=y at *
  simp
  by_cases e:x.1=y.1
  ·exact .inr (this e.symm)
  ·exact .inl e
theorem Qe7 {α:Type} {l:List α} {i j:Nat} {x y:α} (h:i<j) (hx:l[i]? = some x) (hy:l[j]? = some y):[x,y].Sublist l:=by
 have:=QaU (l:=l) [x,y] (fun k=>if k=0 then i else j) 0 (fun k hk=>by
  simp at hk
  have:k=0∨k=1:=by omega
  rcases this with rfl | rfl
  ·simp [hx]
  ·simp [hy]) (fun k hk=>by
  have:k=0:=by simp at hk;omega
  subst this;simp [h])
 simpa using this
theorem Qfq {o:List Int} (ho:o.Pairwise (· < ·)) {i j:Nat} (hij:i<j) (hj:j<o.length):gtd 0 o i<gtd 0 o j:=by
 have:=(List.pairwise_iff_getElem.1 ho) i j (by omega) hj hij
 rw [Z9 (List.getElem?_eq_getElem (by omega)),Z9 (List.getElem?_eq_getElem hj)]
 exact this
theorem Qc5 {b:List TIns} {z x:TIns} {j:Nat} (h:(b++[z])[j]? = some x) (hz:x≠z):b[j]? = some x:=by
 rw [List.getElem?_append] at h
 by_cases hj:j<b.length
 ·rw [if_pos hj] at h;exact h
 ·rw [if_neg hj] at h
  cases hk:j-b.length with
  | zero=>rw [hk] at h;simp at h;exact absurd h.symm hz
  | succ n=>rw [hk] at h;simp at h
theorem QcJ {b:List TIns} {z x:TIns} {j:Nat} (h:b[j]? = some x):(b++[z])[j]? = some x:=by
 rw [List.getElem?_append,if_pos (List.getElem?_eq_some_iff.1 h).1];exact h
theorem QiG {b:List TIns} {o:List Int} {mi:Nat} (ho:o.Pairwise (· < ·)) (h8:∀ k,k∈o→k≠8) (hl:b.length=mi*o.length) :
  ((∀ m:Nat,m<mi→filt b m=o.map fun k=>(k,(m:Int)))∧Qai b) ↔
  ∀ k,k<o.length→∀ m:Nat,m<mi→0≤Ql (b++[(8,0)]) (gtd 0 o k) m∧(0<k→Ql (b++[(8,0)]) (gtd 0 o (k-1)) m<Ql (b++[(8,0)]) (gtd 0 o k) m) ∧
   (0<m→Ql (b++[(8,0)]) (gtd 0 o k) ((m:Int)-1)<Ql (b++[(8,0)]) (gtd 0 o k) m):=by
 have hne:∀ k,k<o.length→∀ m:Int,((gtd 0 o k,m):TIns)≠(8,0):=fun k hk m e=>h8 _ (Qbv hk 0) (congrArg Prod.fst e)
 constructor
 ·intro ⟨hf,hr⟩
  have A1:∀ k,k<o.length→∀ m:Nat,m<mi→∃ i:Nat,b[i]? = some (gtd 0 o k,(m:Int))∧Ql (b++[(8,0)]) (gtd 0 o k) m=i:=by
   intro k hk m hm
   have h1:((gtd 0 o k,(m:Int)):TIns)∈filt b m:=by rw [hf m hm];exact List.mem_map.2 ⟨_,Qbv hk 0,rfl⟩
   have h2:((gtd 0 o k,(m:Int)):TIns)∈b:=(List.mem_filter.1 h1).1
   obtain ⟨i,hi⟩:=List.getElem?_of_mem h2
   refine ⟨i,hi,?_⟩
   unfold Ql
   rw [QcK (i:=i) (QcJ hi) (fun j hj=>?_)]
   ·simp
   ·have hj:=Qc5 hj (hne k hk m)
    rcases Nat.lt_trichotomy i j with h | h | h
    ·have:=hr i j _ _ h hi hj rfl;omega
    ·exact h.symm
    ·have:=hr j i _ _ h hj hi rfl;omega
  intro k hk m hm
  obtain ⟨i,hi,hp⟩:=A1 k hk m hm
  refine ⟨by rw [hp];omega,fun h0=>?_,fun h0=>?_⟩
  ·obtain ⟨i2,hi2,hp2⟩:=A1 (k-1) (by omega) m hm
   rw [hp,hp2]
   have hs:=Qfq ho (show k-1<k by omega) hk
   rcases Nat.lt_trichotomy i2 i with h | h | h
   ·omega
   ·subst h;rw [hi] at hi2;simp at hi2;omega
   ·have h1:=(Qe7 h hi hi2).filter (fun x=>x.2==(m:Int))
    simp at h1
    have h2:([(gtd 0 o k,(m:Int)),(gtd 0 o (k-1),(m:Int))]:List TIns).Sublist (o.map fun k=>(k,(m:Int))):=by rw [← hf m hm];exact h1
    have h3:(o.map fun k=>((k,(m:Int)):TIns)).Pairwise (fun a c=>a.1<c.1):=by rw [List.pairwise_map];exact ho
    have h4:=h3.sublist h2
    simp at h4;omega
  ·obtain ⟨i2,hi2,hp2⟩:=A1 k hk (m-1) (by omega)
   rw [hp,show ((m:Int)-1)=((m-1:Nat):Int) by omega,hp2]
   rcases Nat.lt_trichotomy i2 i with h | h | h
   ·omega
   ·subst h;rw [hi] at hi2;simp at hi2;omega
   ·have:=hr i i2 _ _ h hi hi2 rfl
    simp at this;omega
 ·intro H
  have B1:∀ k,k<o.length→∀ m:Nat,m<mi→∃ i:Nat,b[i]? = some (gtd 0 o k,(m:Int))∧(∀ j,b[j]? = some (gtd 0 o k,(m:Int))→j=i)∧Ql (b++[(8,0)]) (gtd 0 o k) m=i:=by
   intro k hk m hm
   obtain ⟨i,h1,h2,h3⟩:=QdR (H k hk m hm).1
   exact ⟨i,Qc5 h1 (hne k hk m),fun j hj=>h2 j (QcJ hj),by unfold Ql;rw [h3];simp⟩
  have B2:∀ m:Nat,m<mi→(o.map fun k=>((k,(m:Int)):TIns)).Sublist (filt b m):=by
   intro m hm
   have h1:=QaU (l:=b) (o.map fun k=>((k,(m:Int)):TIns)) (fun k=>(Ql (b++[(8,0)]) (gtd 0 o k) m).toNat) 0 (fun k hk=>by
    simp at hk
    obtain ⟨i,h1,h2,h3⟩:=B1 k hk m hm
    rw [h3]
    refine ⟨Nat.zero_le _,?_⟩
    simp only [Int.toNat_natCast]
    rw [h1,List.getElem?_map,Z1 hk 0];rfl) (fun k hk=>by
    simp at hk
    have h1:=(H (k+1) hk m hm).2.1 (by omega)
    have h2:=(H k (by omega) m hm).1
    simp only [Nat.add_sub_cancel] at h1
    omega)
   have h2:=h1.filter (fun x=>x.2==(m:Int))
   rw [List.drop_zero,List.filter_eq_self.2 (by intro x hx;obtain ⟨k,_,rfl⟩:=List.mem_map.1 hx;simp)] at h2
   exact h2
  have hsum:=Qd5 b mi
  have hle:=List.length_filter_le (fun x:TIns=>decide (0≤x.2)&&decide (x.2<(mi:Int))) b
  have hge:∀ m:Nat,m<mi→o.length≤(filt b m).length:=fun m hm=>by have:=(B2 m hm).length_le;simpa using this
  have heq:=QcF mi hge (by rw [hsum,← hl];exact hle)
  have hF:∀ m:Nat,m<mi→filt b m=o.map fun k=>(k,(m:Int)):=fun m hm=>((B2 m hm).eq_of_length (by rw [heq m hm];simp)).symm
  refine ⟨hF,?_⟩
  have hall:(b.filter fun x:TIns=>decide (0≤x.2)&&decide (x.2<(mi:Int))).length=b.length:=by
   have:=QaM mi hge
   rw [hsum] at this;omega
  have hmem:∀ x,x∈b→0≤x.2∧x.2<mi:=by
   intro x hx
   rw [← List.filter_sublist.eq_of_length hall] at hx
   have:=(List.mem_filter.1 hx).2
   simpa using this
  have hk:∀ (i:Nat) (x:TIns),b[i]? = some x→∃ k,k<o.length∧gtd 0 o k=x.1∧0≤x.2∧x.2<mi∧Ql (b++[(8,0)]) x.1 x.2=i:=by
   intro i x hx
   have h1:=hmem x (List.mem_of_getElem? hx)
   have h2:x∈filt b (x.2.toNat:Nat):=by
    refine List.mem_filter.2 ⟨List.mem_of_getElem? hx,?_⟩
    rw [Int.toNat_of_nonneg h1.1];simp
   rw [hF _ (by omega)] at h2
   obtain ⟨y,hy,he⟩:=List.mem_map.1 h2
   obtain ⟨k,hk⟩:=List.getElem?_of_mem hy
   have hkl:=(List.getElem?_eq_some_iff.1 hk).1
   have h3:gtd 0 o k=x.1:=by rw [Z9 hk,← he]
   refine ⟨k,hkl,h3,h1.1,h1.2,?_⟩
   obtain ⟨i2,g1,g2,g3⟩:=B1 k hkl x.2.toNat (by omega)
   rw [Int.toNat_of_nonneg h1.1,h3] at g1 g2 g3
   rw [g3,g2 i hx]
  intro i j x y hij hx hy he
  obtain ⟨k,hkl,hkx,h1,h2,hpx⟩:=hk i x hx
  obtain ⟨k',_,_,h3,h4,hpy⟩:=hk j y hy
  apply Classical.byContradiction
  intro hn
  have chain:∀ d m:Nat,m+d<mi→Ql (b++[(8,0)]) (gtd 0 o k) m≤Ql (b++[(8,0)]) (gtd 0 o k) ((m+d:Nat):Int):=by
   intro d
   induction d with
   | zero=>intro m _;exact Int.le_refl _
   | succ d ih =>
    intro m hm
    have a1:=ih m (by omega)
    have a2:=(H k hkl (m+d+1) (by omega)).2.2 (by omega)
    rw [show (((m+d+1:Nat):Int)-1)=((m+d:Nat):Int) by omega] at a2
    rw [show m+(d+1)=m+d+1 by omega]
    omega
  have:=chain (x.2.toNat-y.2.toNat) y.2.toNat (by omega)
  rw [hkx,show ((y.2.toNat:Nat):Int)=y.2 by omega,show ((y.2.toNat+(x.2.toNat-y.2.toNat):Nat):Int)=x.2 by omega,hpx,he,hpy] at this
  omega
theorem Qhy (l:List TIns) (st s mi:Int) (redo:Bool):Zm l st s mi redo=Qw l st s mi redo:=by
 rw [Bool.eq_iff_iff]
 unfold Zm Qw
 by_cases hp:QD st s mi=true
 case neg=>simp [hp]
 rcases List.eq_nil_or_concat l with rfl | ⟨b,z,rfl⟩
 ·simp
 rw [List.concat_eq_append]
 have e1:gtd dIns (b++[z]) ((b++[z]).length-1)=z:=Z9 (by simp) dIns
 have e2:(b++[z]).take ((b++[z]).length-1)=b:=by simp
 rw [e1,e2]
 by_cases hz:z=(8,0)
 case neg=>simp [hz]
 subst hz
 have hs:=QiI st s redo
 simp only [hp,Bool.true_and,decide_true,Bool.and_true,Bool.and_eq_true,decide_eq_true_eq,List.length_append,List.length_cons,List.length_nil,Nat.add_sub_cancel,Nat.zero_add,Nat.le_add_left,true_and]
 have hc:=fun hl=>QiG (b:=b) (mi:=mi.toNat) hs.1 hs.2 hl
 constructor
 ·intro ⟨h1,h2⟩
  have hl:b.length=mi.toNat*(Qh st s redo).length:=by omega
  have:=(hc hl).2 (fun k hk m hm=>by
   have h3:=List.all_eq_true.1 (List.all_eq_true.1 h2 k (List.mem_range.2 hk)) m (List.mem_range.2 hm)
   unfold Zr at h3
   simp at h3
   exact ⟨h3.1.1,fun h0=>h3.1.2.resolve_left (by omega),fun h0=>h3.2.resolve_left (by omega)⟩)
  refine ⟨?_,hl,(QcA b).2 this.2⟩
  rw [List.all_eq_true]
  intro m hm
  rw [JK]
  exact decide_eq_true (this.1 m (List.mem_range.1 hm))
 ·intro ⟨h1,hl,h2⟩
  refine ⟨by omega,?_⟩
  have:=(hc hl).1 ⟨fun m hm=>by
   have h3:=of_decide_eq_true (List.all_eq_true.1 h1 m (List.mem_range.2 hm))
   rw [JK] at h3;exact h3,(QcA b).1 h2⟩
  rw [List.all_eq_true]
  intro k hk
  rw [List.all_eq_true]
  intro m hm
  have h3:=this k (List.mem_range.1 hk) m (List.mem_range.1 hm)
  unfold Zr
  simp
  exact ⟨⟨h3.1,(Nat.eq_zero_or_pos k).imp_right h3.2.1⟩,(Nat.eq_zero_or_pos m).imp_right h3.2.2⟩
theorem Qfy {α:Type} {d:α} {l:List α} {n j:Nat} (h:j<n):gtd d (l.take n) j=gtd d l j:=by
 simp [gtd,List.getD_eq_getElem?_getD,List.getElem?_take,h]
theorem QeI (x y:TIns):decide (([x.1,x.2]:List Int)=[y.1,y.2])=decide (x=y):=by
 rw [decide_eq_decide];simp [Prod.ext_iff]
theorem Qc8 (x:TIns):decide (([x.1,x.2]:List Int)=[(8:Int),(0:Int)])=decide (x=(8,0)):=by
 rw [decide_eq_decide];simp [Prod.ext_iff]
theorem Qgf {st s mi:Int}:(((!(m_in st 1 4))||(!(m_in s 0 (w64 (st-1)))))||(!(m_in mi 1 5))) = !(QD st s mi):=by
 by_cases hst:m_in st 1 4=true
 ·have:=Qbu.1 hst
  rw [QC (by omega) (by omega)]
  unfold QD
  cases m_in st 1 4 <;> cases m_in s 0 (st-1) <;> cases m_in mi 1 5 <;> rfl
 ·simp only [Bool.not_eq_true] at hst
  unfold QD
  rw [hst];rfl
theorem Qeo (st s m:Int) (redo:Bool):List.take ((Qq st s m).length+(Qs st s m redo).length) (Qq st s m++Qs st s m redo)=want st s m redo:=by
 rw [← List.length_append,List.take_length];rfl
theorem QeJ (l:List TIns) (o:List Int) {k m:Nat} (hk:k≤100) (hm:m≤100) :
  ((decide (Ql l (gtd 0 o k) m<0)||(decide ((k:Int)>0)&&decide (Ql l (gtd 0 o (Int.toNat (w64 ((k:Int)-1)))) m≥Ql l (gtd 0 o k) m))) ||
   (decide ((m:Int)>0)&&decide (Ql l (gtd 0 o k) (w64 ((m:Int)-1))≥Ql l (gtd 0 o k) m))) = !Zr l o k m:=by
 unfold Zr
 rw [Bool.not_not]
 have h1:decide ((k:Int)>0)=decide (0<k):=by rw [decide_eq_decide];omega
 have h2:decide ((m:Int)>0)=decide (0<m):=by rw [decide_eq_decide];omega
 have h3:w64 ((m:Int)-1)=(m:Int)-1:=QC (by omega) (by omega)
 have h4:Int.toNat (w64 ((k:Int)-1))=k-1:=by rw [QC (by omega) (by omega)];omega
 rw [h1,h2,h3,h4]
end Go.Proofs.Ytephkbajoofeoaa.Am
namespace Go.Proofs.Ytephkbajoofeoaa.Am
open Go Sz
end Go.Proofs.Ytephkbajoofeoaa.Am
namespace Go.Proofs.Ytephkbajoofeoaa.Am
open Go Sz
end Go.Proofs.Ytephkbajoofeoaa.Am

