/- -/
import Derived.Test.YtdplaepmjogjjaaGreatVEG8
set_option linter.all false
namespace Go.Proofs.YtdplaepmjogjjaaGreat.Am
open Go Go.RowKit Sz
def sst {α:Type} (d:α) (i:Nat) (p:α→Int→α) (z:Int × List α):Int × List α:=(w64 (z.1+(1:Int)),z.2.set i (p (gtd d z.2 i) z.1))
def nst {α β:Type} (d:α) (i:Nat) (g:α→β) (p:α→β→α) (f:β→Int→Int × β) (z:Int × List α):Int × List α :=
 ((f (g (gtd d z.2 i)) z.1).1,z.2.set i (p (gtd d z.2 i) (f (g (gtd d z.2 i)) z.1).2))
theorem Zh {α:Type} (d:α) (pre post:List α) (x:α):gtd d (pre++x::post) pre.length=x:=by
 simp [gtd]
theorem YD {α:Type} (pre post:List α) (x y:α):(pre++x::post).set pre.length y=pre++y::post:=by
 simp
theorem YL {α:Type} (d:α) (p:α→Int→α) (k:Int) (pre post:List α) (x:α):sst d pre.length p (k,pre++x::post)=(w64 (k+1),pre++p x k::post):=by
 simp [sst,Zh]
theorem YV {α β:Type} (d:α) (g:α→β) (p:α→β→α) (f:β→Int→Int × β) (k:Int) (pre post:List α) (x:α):nst d pre.length g p f (k,pre++x::post)=((f (g x) k).1,pre++p x (f (g x) k).2::post):=by
 simp [nst,Zh]
theorem lt_f {α:Type} (pre post:List α) (x:α):(pre.length<(pre++x::post).length)=True:=by
 simp
class Mk (α:Type) where
 m:α→Int→Int × α
 n:α→Nat
 cnt:∀ (x:α) (k:Int),0≤k→k+(n x:Nat)≤1099511627776→(m x k).1=k+(n x:Nat)
 idem:∀ (x:α) (k:Int),m (m x k).2 k=m x k
 same:∀ (x:α) (k:Int),n (m x k).2=n x
instance:Mk Int where
 m _ k:=(w64 (k+1),k)
 n _:=1
 cnt x k h1 h2:=Qx (by omega) (by simp at h2;omega)
 idem _ _:=rfl
 same _ _:=rfl
instance:Mk Bool where
 m _ k:=(w64 (k+1),Int.tmod k 3==0)
 n _:=1
 cnt x k h1 h2:=Qx (by omega) (by simp at h2;omega)
 idem _ _:=rfl
 same _ _:=rfl
instance {α β:Type} [Mk α] [Mk β]:Mk (α × β) where
 m x k:=((Mk.m x.2 (Mk.m x.1 k).1).1,((Mk.m x.1 k).2,(Mk.m x.2 (Mk.m x.1 k).1).2))
 n x:=Mk.n x.1+Mk.n x.2
 cnt x k h1 h2:=by
  have e:=Mk.cnt x.1 k h1 (by omega)
  simp only
  rw [e,Mk.cnt x.2 _ (by omega) (by omega)]
  omega
 idem x k:=by simp only [Mk.idem]
 same x k:=by simp only [Mk.same]
def mkL {α:Type} [Mk α]:List α→Int→Int × List α
 | [],k=>(k,[])
 | x::r,k=>((mkL r (Mk.m x k).1).1,(Mk.m x k).2::(mkL r (Mk.m x k).1).2)
def nL {α:Type} [Mk α]:List α→Nat
 | []=>0
 | x::r=>Mk.n x+nL r
instance {α:Type} [Mk α]:Mk (List α) where
 m:=mkL
 n:=nL
 cnt x:=by
  induction x with
  | nil=>intro k _ _;simp [mkL,nL]
  | cons x r ih =>
   intro k h1 h2
   simp only [nL] at h2 ⊢
   have e:=Mk.cnt x k h1 (by omega)
   simp only [mkL,e]
   rw [ih _ (by omega) (by omega)]
   omega
 idem x:=by
  induction x with
  | nil=>intro k;rfl
  | cons x r ih=>intro k;simp only [mkL,Mk.idem,ih]
 same x:=by
  induction x with
  | nil=>intro k;rfl
  | cons x r ih=>intro k;simp only [mkL,nL,Mk.same,ih]
theorem Qz8 {α:Type} [Mk α] (x:List α):∀ (k:Int),(Mk.m x k).2.length=x.length:=by
 induction x with
 | nil=>intro k;rfl
 | cons x r ih=>intro k;show (Mk.m r (Mk.m x k).1).2.length+1=r.length+1;rw [ih]
theorem Qep {α:Type} [Mk α] (x:List α) (k:Int):List.take x.length (Mk.m x k).2=(Mk.m x k).2:=List.take_of_length_le (by rw [Qz8];exact Nat.le_refl _)
class MkS (α:Type) where
 m:α→Int→Int × α
 n:α→Nat
 cnt:∀ (x:α) (k:Int),0≤k→k+(n x:Nat)≤1099511627776→(m x k).1=k+(n x:Nat)
 idem:∀ (x:α) (k:Int),m (m x k).2 k=m x k
 same:∀ (x:α) (k:Int),n (m x k).2=n x
instance:MkS Int where
 m x k:=(k,x)
 n _:=0
 cnt x k _ _:=by simp
 idem _ _:=rfl
 same _ _:=rfl
instance:MkS Bool where
 m x k:=(k,x)
 n _:=0
 cnt x k _ _:=by simp
 idem _ _:=rfl
 same _ _:=rfl
instance {α β:Type} [MkS α] [MkS β]:MkS (α × β) where
 m x k:=((MkS.m x.2 (MkS.m x.1 k).1).1,((MkS.m x.1 k).2,(MkS.m x.2 (MkS.m x.1 k).1).2))
 n x:=MkS.n x.1+MkS.n x.2
 cnt x k h1 h2:=by
  have e:=MkS.cnt x.1 k h1 (by omega)
  simp only
  rw [e,MkS.cnt x.2 _ (by omega) (by omega)]
  omega
 idem x k:=by simp only [MkS.idem]
 same x k:=by simp only [MkS.same]
instance {α:Type} [Mk α]:MkS (List α) where
 m:=Mk.m
 n:=Mk.n
 cnt:=Mk.cnt
 idem:=Mk.idem
 same:=Mk.same
def Qn {α:Type} [Mk α] (x:α) (k:Int):Int × α:=Mk.m x k
def QX {α:Type} [MkS α] (x:α) (k:Int):Int × α:=MkS.m x k
def QD {α:Type} [Mk α] (x:α) (k:Int):Prop:=0≤k∧k+(Mk.n x:Nat)≤1099511627776
def Yn {α:Type} [MkS α] (x:α) (k:Int):Prop:=0≤k∧k+(MkS.n x:Nat)≤1099511627776
open Classical in
noncomputable def m_held {α:Type} [Mk α] (x:α) (k:Int):Int:=if (Mk.m x k).2=x then (Mk.m x k).1 else -1
open Classical in
noncomputable def m_heldS {α:Type} [MkS α] (x:α) (k:Int):Int:=if (MkS.m x k).2=x then (MkS.m x k).1 else -1
theorem Qcv {α:Type} [Mk α] {x:α} {k:Int} (h:(Mk.m x k).2=x):m_held x k=(Mk.m x k).1:=by simp [m_held,h]
theorem QeP {α:Type} [Mk α] {x:α} {k:Int} (h:¬ (Mk.m x k).2=x):m_held x k = -1:=by simp [m_held,h]
theorem Qrl {α:Type} [MkS α] {x:α} {k:Int} (h:(MkS.m x k).2=x):m_heldS x k=(MkS.m x k).1:=by simp [m_heldS,h]
theorem Qgm {α:Type} [MkS α] {x:α} {k:Int} (h:¬ (MkS.m x k).2=x):m_heldS x k = -1:=by simp [m_heldS,h]
theorem Zl {α:Type} [Mk α] {x:α} {k:Int} (hp:QD x k) (h:m_held x k<0):¬ (Mk.m x k).2=x:=fun e=>by
 rw [Qcv e,Mk.cnt x k hp.1 hp.2] at h
 have:=hp.1
 omega
theorem Zn {α:Type} [Mk α] {x:α} {k:Int} (h:¬ m_held x k<0):(Mk.m x k).2=x∧m_held x k=(Mk.m x k).1:=by
 apply Classical.byContradiction
 intro hn
 have:¬ (Mk.m x k).2=x:=fun e=>hn ⟨e,Qcv e⟩
 rw [QeP this] at h
 omega
theorem JN {α β:Type} [Mk α] [Mk β] (x:α × β) (k:Int):Mk.m x k=((Mk.m x.2 (Mk.m x.1 k).1).1,((Mk.m x.1 k).2,(Mk.m x.2 (Mk.m x.1 k).1).2)):=rfl
theorem J4 (x:Int) (k:Int):Mk.m x k=(w64 (k+1),k):=rfl
theorem JC (x:Bool) (k:Int):Mk.m x k=(w64 (k+1),Int.tmod k 3==0):=rfl
theorem Qva {α β:Type} [MkS α] [MkS β] (x:α × β) (k:Int):MkS.m x k=((MkS.m x.2 (MkS.m x.1 k).1).1,((MkS.m x.1 k).2,(MkS.m x.2 (MkS.m x.1 k).1).2)):=rfl
theorem Qv3 (x:Int) (k:Int):MkS.m x k=(k,x):=rfl
theorem QvF (x:Bool) (k:Int):MkS.m x k=(k,x):=rfl
theorem QIj {α:Type} [Mk α] (x:List α) (k:Int):MkS.m x k=Mk.m x k:=rfl
theorem QH {α β:Type} [Mk α] [Mk β] {x:α × β} {k:Int} (h:QD x k):QD x.1 k∧QD x.2 (Mk.m x.1 k).1:=by
 have hn:Mk.n x=Mk.n x.1+Mk.n x.2:=rfl
 unfold QD at *
 rw [hn] at h
 have e:=Mk.cnt x.1 k h.1 (by omega)
 rw [e]
 omega
theorem QbW {α β:Type} [MkS α] [MkS β] {x:α × β} {k:Int} (h:Yn x k):Yn x.1 k∧Yn x.2 (MkS.m x.1 k).1:=by
 have hn:MkS.n x=MkS.n x.1+MkS.n x.2:=rfl
 unfold Yn at *
 rw [hn] at h
 have e:=MkS.cnt x.1 k h.1 (by omega)
 rw [e]
 omega
theorem JX {α:Type} [Mk α] {x:List α} {k:Int} (h:Yn x k):QD x k:=h
theorem Zu:(¬ (3:Int)=0)=True:=by simp
theorem ZY {α:Type} [BEq α] [LawfulBEq α] {x y:α} (h:(x != y)=false):x=y:=by simpa using h
theorem Z1 {α:Type} [BEq α] [LawfulBEq α] {x y:α} (h:(x != y)=true):¬ x=y:=by simpa using h
theorem Jv {α:Type} [Sz α] {a:List α} (h:p_to a):a.length≤1048576:=Nat.le_trans (Qav a) h
theorem QeV {α:Type} (l:List α) (i:Nat) (x:α):(l.set i x).take l.length=l.set i x:=List.take_of_length_le (by simp)
theorem QeT {α:Type} [Sz α] (a:List α) {d:α} {A:Int→List α→Prop} {Q:List α→Prop} (h:p_to a)
  (hs:∀ (k:Nat) (x:α) (out:List α),k<a.length→(∀ d,gtd d a k=x)→out.length=a.length→p_to x→A ((k+1:Nat):Int) (out.set k x)→A ((k:Nat):Int) out)
  (he:∀ out:List α,out.length=a.length→Q out→A ((a.length:Nat):Int) out) (hq:Q a):A 0 (List.take (Int.toNat (a.length:Int)) (List.replicate (Int.toNat (a.length:Int)) d)):=by
 have key:∀ out:List α,out.length=a.length→out.take 0=a.take 0→A (0:Nat) out:=by
  refine Zy a (fun r k=>∀ out:List α,out.length=a.length→out.take k=a.take k→A k out) ?_ ?_
  ·intro out hl ht
   refine he out hl ?_
   rw [List.take_of_length_le (by omega),List.take_of_length_le (by omega)] at ht
   rw [ht];exact hq
  ·intro k x r hk hlt hg ih out hl ht
   refine hs k x out hlt hg hl (by have:=Qjv hk;unfold p_to at h ⊢;omega) (ih _ (by simp [hl]) ?_)
   have hx:a[k]? = some x:=by have:=congrArg List.head? hk;simpa [List.head?_drop] using this
   rw [List.take_add_one,List.take_add_one,List.getElem?_set_self (by omega),hx,List.take_set_of_le (by omega),ht]
 exact key _ (by simp) rfl
theorem YU {α:Type} [Mk α] (a:List α) (k:Int) {A:Int→Int→List α→Prop} {Q:Int × List α→Prop}
  (hs:∀ (k:Int) (pre post:List α) (x:α),pre.length+1+post.length=a.length→A (Mk.m x k).1 (((pre.length+1:Nat)):Int) (pre++(Mk.m x k).2::post)→A k ((pre.length:Nat):Int) (pre++x::post))
  (he:∀ (k:Int) (l:List α),l.length=a.length→Q (k,l)→A k ((a.length:Nat):Int) l) (hq:Q (Qn a k)):A k 0 a:=by
 suffices ∀ (post pre:List α) (k:Int),pre.length+post.length=a.length→Q ((mkL post k).1,pre++(mkL post k).2)→A k ((pre.length:Nat):Int) (pre++post) from this a [] k (by simp) hq
 intro post
 induction post with
 | nil =>
  intro pre k hl hq
  have:=he k (pre++[]) (by simpa using hl) (by simpa [mkL] using hq)
  rw [show pre.length=a.length by simpa using hl]
  exact this
 | cons x post ih =>
  intro pre k hl hq
  refine hs k pre post x (by simp at hl;omega) ?_
  have:=ih (pre++[(Mk.m x k).2]) (Mk.m x k).1 (by simp at hl ⊢;omega) (by simpa [mkL] using hq)
  simpa using this
theorem Ji {α:Type} [Mk α] (a:List α) (k:Int) (hp:QD a k) {A:Int→Int→Prop} {Q:Int→Prop}
  (hs:∀ (k:Int) (pre post:List α) (x:α),a=pre++x::post→QD x k→(¬ (Mk.m x k).2=x→Q (-1))→((Mk.m x k).2=x→A (Mk.m x k).1 (((pre.length+1:Nat)):Int))→A k ((pre.length:Nat):Int))
  (he:∀ (k:Int),Q k→A k ((a.length:Nat):Int)) (hq:Q (m_held a k)):A k 0:=by
 suffices ∀ (post pre:List α) (k:Int),a=pre++post→QD post k→Q (m_held post k)→A k ((pre.length:Nat):Int) from this a [] k (by simp) hp hq
 intro post
 induction post with
 | nil =>
  intro pre k hl _ hq
  have:pre.length=a.length:=by rw [hl];simp
  rw [this]
  exact he k (by have:=Qcv (x:=([]:List α)) (k:=k) rfl;rw [this] at hq;exact hq)
 | cons x post ih =>
  intro pre k hl hp hq
  have hn:Mk.n (x::post)=Mk.n x+Mk.n post:=rfl
  have hp':=hp
  unfold QD at hp
  rw [hn] at hp
  have hpx:QD x k:=⟨hp.1,by have:=hp.2;omega⟩
  have hcx:=Mk.cnt x k hpx.1 hpx.2
  refine hs k pre post x hl hpx (fun hne=>?_) (fun heq=>?_)
  ·rw [QeP (fun h=>hne (by have:((Mk.m x k).2::(Mk.m post (Mk.m x k).1).2)=x::post:=h;injection this))] at hq
   exact hq
  ·have:=ih (pre++[x]) (Mk.m x k).1 (by simp [hl]) ⟨by rw [hcx];omega,by rw [hcx];have:=hp.2;omega⟩ (by
    by_cases h:(Mk.m post (Mk.m x k).1).2=post
    ·rw [Qcv h]
     rw [Qcv (show (Mk.m (x::post) k).2=x::post from by show (Mk.m x k).2::(Mk.m post (Mk.m x k).1).2=_;rw [heq,h])] at hq
     exact hq
    ·rw [QeP h]
     rw [QeP (fun h'=>h (by have:((Mk.m x k).2::(Mk.m post (Mk.m x k).1).2)=x::post:=h';injection this))] at hq
     exact hq)
   simpa using this
end Go.Proofs.YtdplaepmjogjjaaGreat.Am
namespace Go.Proofs.YtdplaepmjogjjaaGreat.Am
open Go Go.RowKit Sz
theorem Jn {α β:Type} [Mk α] [Mk β] (x:α × β):Mk.n x=Mk.n x.1+Mk.n x.2:=rfl
theorem YJ (x:Int):Mk.n x=1:=rfl
theorem Qqy (x:Bool):Mk.n x=1:=rfl
theorem QsB {α β:Type} [MkS α] [MkS β] (x:α × β):MkS.n x=MkS.n x.1+MkS.n x.2:=rfl
theorem QAl (x:Int):MkS.n x=0:=rfl
theorem Qtq {α:Type} [Mk α] (x:List α):MkS.n x=Mk.n x:=rfl
theorem YY {α:Type} [Sz α] [Mk α] (h:∀ x:α,Mk.n x≤16+16*sz x) (l:List α):Mk.n l≤16*sz l:=by
 induction l with
 | nil=>exact Nat.zero_le _
 | cons x r ih =>
  have h1:=h x
  have h2:Mk.n (x::r)=Mk.n x+Mk.n r:=rfl
  rw [h2,Qai]
  omega
theorem Yp (l:List Int):Mk.n l≤16*sz l:=YY (fun x=>by rw [YJ];omega) l
theorem QG8 (l:List Bool):Mk.n l≤16*sz l:=YY (fun x=>by rw [Qqy];omega) l
theorem Qh5 (l:List (List Int)):Mk.n l≤16*sz l:=YY (fun x=>by have:=Yp x;omega) l
theorem QAm (l:List TIns):Mk.n l≤16*sz l:=YY (fun x=>by rw [Jn,YJ,YJ];omega) l
theorem Qwd (l:List Qy):Mk.n l≤16*sz l:=YY (fun x=>by have:=Yp x.2;rw [Jn,YJ,QM,QS];omega) l
theorem Qu4 (l:List TOp'):Mk.n l≤16*sz l:=YY (fun x=>by
 have:=Yp x.2.2.2
 rw [Jn,Jn x.2,Jn x.2.2,YJ,YJ,YJ,QM,QM x.2,QM x.2.2,QS,QS,QS];omega) l
theorem QqO (l:List Qc):Mk.n l≤16*sz l:=YY (fun x=>by have:=Yp x.1;have:=Yp x.2;rw [Jn,QM];omega) l
theorem QIz (l:List QA):Mk.n l≤16*sz l:=YY (fun x=>by have:=Qh5 x.2;rw [Jn,YJ,QM,QS];omega) l
theorem Qnr (l:List Qp):Mk.n l≤16*sz l:=YY (fun x=>by have:=Qwd x.2;rw [Jn,YJ,QM,QS];omega) l
theorem QGW (l:List Qr):Mk.n l≤16*sz l:=YY (fun x=>by
 obtain ⟨a,b,c,d,e,f,g,h,i,j,k,m,n,o⟩:=x
 have h1:=QAm b;have h2:=Qu4 c;have h3:=QIz f;have h4:=Qh5 g;have h5:=Yp h;have h6:=Yp i;have h7:=Yp j;have h8:=Yp k;have h9:=Qh5 m
 simp only [Jn,YJ,Qqy,QcN,QS,Za]
 omega) l
theorem QGR (x:QO):MkS.n x≤16*sz x:=by
 obtain ⟨a,b,c,d⟩:=x
 have h1:=QqO a;have h2:=QGW b;have h3:=Qnr c;have h4:=Qnr d
 simp only [QsB,Qtq,QcN]
 omega
theorem QFO (x:Qf):MkS.n x≤16*sz x:=by
 obtain ⟨a,b,c,d,e,f⟩:=x
 have h1:=Qu4 a;have h2:=Yp b;have h3:=QG8 d;have h4:=Yp e;have h5:=Yp f
 simp only [QsB,QAl,Qtq,QcN,QS]
 omega
theorem QCG {α:Type} [Sz α] [Mk α] {x:α} {k:Int} {b c:Nat} (hk:0≤k∧k≤b) (hn:Mk.n x≤16*sz x) (hs:sz x≤c) (hb:b+16*c≤1099511627776):QD x k∧0≤(Qn x k).1∧(Qn x k).1≤((b+16*c:Nat):Int):=by
 have hp:QD x k:=⟨hk.1,by omega⟩
 have:=Mk.cnt x k hp.1 hp.2
 have:(Qn x k).1=k+(Mk.n x:Nat):=this
 exact ⟨hp,by omega,by omega⟩
theorem Qsq {α:Type} [Sz α] [MkS α] {x:α} {k:Int} {b c:Nat} (hk:0≤k∧k≤b) (hn:MkS.n x≤16*sz x) (hs:sz x≤c) (hb:b+16*c≤1099511627776):Yn x k∧0≤(QX x k).1∧(QX x k).1≤((b+16*c:Nat):Int):=by
 have hp:Yn x k:=⟨hk.1,by omega⟩
 have:=MkS.cnt x k hp.1 hp.2
 have:(QX x k).1=k+(MkS.n x:Nat):=this
 exact ⟨hp,by omega,by omega⟩
theorem QA9 {α:Type} [MkS α] {x:α} {k:Int} (hp:Yn x k):Yn (QX x k).2 k∧m_heldS (QX x k).2 k=(QX x k).1:=by
 refine ⟨⟨hp.1,?_⟩,?_⟩
 ·have:MkS.n (QX x k).2=MkS.n x:=MkS.same x k
  rw [this];exact hp.2
 ·have h:MkS.m (QX x k).2 k=MkS.m x k:=MkS.idem x k
  rw [Qrl (by rw [h];rfl),h];rfl
end Go.Proofs.YtdplaepmjogjjaaGreat.Am

