/- -/
import Derived.Test.YtjbdljkhbglnhaaGreatZCG8
set_option linter.all false
namespace Go.Proofs.YtjbdljkhbglnhaaGreat.Am
open Go Sz
def Zw (m:Q9) (cuts:List Int) (s:Nat):Nat:=if s=0 then 0 else if s≤cuts.length then (gtd 0 cuts (s-1)).toNat else m.length
def Yn (m:Q9) (cuts:List Int) (s:Nat):List TOp':=(m.drop (Zw m cuts s)).take (Zw m cuts (s+1)-Zw m cuts s)
section
variable {m:Q9} {cuts:List Int} (hc:Zg m cuts=true)
include hc
theorem Qiy {s:Nat} (hs:s≤cuts.length):Zw m cuts s<Zw m cuts (s+1):=by
 have hl:=QaV hc
 have hg:Z2 (m.length-1) none cuts=true:=by have:=hc;simp only [Zg,Bool.and_eq_true] at this;exact this.2
 have h1:∀ k:Nat,k<cuts.length→1≤gtd 0 cuts k∧gtd 0 cuts k≤(m.length:Int)-1:=fun k hk=>by
  have:=QcK hg k _ (Js hk 0);omega
 have h2:∀ k:Nat,k+1<cuts.length→gtd 0 cuts k<gtd 0 cuts (k+1):=fun k hk=>Qpi hg k _ _ (Js (by omega) 0) (Js hk 0)
 unfold Zw
 rw [if_neg (Nat.succ_ne_zero s)]
 by_cases h0:s=0
 ·subst h0
  rw [if_pos rfl]
  split
  ·have:=h1 0 (by omega);simp;omega
  ·omega
 ·rw [if_neg h0,if_pos hs]
  have h3:=h1 (s-1) (by omega)
  split
  ·have h4:=h2 (s-1) (by omega)
   rw [show s-1+1=s by omega] at h4
   rw [show s+1-1=s by omega]
   omega
  ·omega
theorem QrH {s:Nat}:Zw m cuts s≤m.length:=by
 have hl:=QaV hc
 have hg:Z2 (m.length-1) none cuts=true:=by have:=hc;simp only [Zg,Bool.and_eq_true] at this;exact this.2
 unfold Zw
 split
 ·omega
 ·split
  ·have:=QcK hg (s-1) _ (Js (by omega) 0);omega
  ·omega
theorem Qdn:Zw m cuts (cuts.length+1)=m.length:=by have _:=hc;unfold Zw;rw [if_neg (by omega),if_neg (by omega)]
theorem QXj {s:Nat} (hs:s≤cuts.length):Qt m cuts (s:Int)=((Zw m cuts s:Int),(Zw m cuts (s+1):Int)):=by
 have hl:=QaV hc
 have hg:Z2 (m.length-1) none cuts=true:=by have:=hc;simp only [Zg,Bool.and_eq_true] at this;exact this.2
 have h1:∀ k:Nat,k<cuts.length→1≤gtd 0 cuts k∧gtd 0 cuts k≤(m.length:Int)-1:=fun k hk=>by
  have:=QcK hg k _ (Js hk 0);omega
 unfold Qt
 rw [if_pos (by rw [hc,Bool.true_and,QR];omega)]
 unfold Zw
 refine Prod.ext ?_ ?_
 ·dsimp only
  by_cases h0:s=0
  ·subst h0;simp
  ·rw [if_pos (by omega),if_neg h0,if_pos hs,Int.toNat_natCast]
   have:=h1 (s-1) (by omega);omega
 ·dsimp only
  rw [if_neg (Nat.succ_ne_zero s)]
  by_cases h2:s<cuts.length
  ·rw [if_pos (by omega),if_pos (by omega),Int.toNat_natCast,show s+1-1=s by omega]
   have:=h1 s h2;omega
  ·rw [if_neg (by omega),if_neg (by omega)]
theorem QL8 {s:Nat} (hs:s≤cuts.length):slice m (Qt m cuts (s:Int)).1 (Qt m cuts (s:Int)).2=Yn m cuts s:=by
 rw [QXj hc hs];simp [slice,Yn]
theorem QKb {s:Nat} (hs:s≤cuts.length):(Yn m cuts s).length=Zw m cuts (s+1)-Zw m cuts s:=by
 have:=QrH hc (s:=s+1)
 have:=Qiy hc hs
 unfold Yn;simp;omega
theorem Qh3 {s:Nat} (hs:s≤cuts.length):1≤(Yn m cuts s).length∧(Yn m cuts s).length≤8:=by
 rw [QKb hc hs]
 have:=QrH hc (s:=s+1)
 have:=Qiy hc hs
 have:=(QaV hc).2.1
 omega
theorem QKV {s:Nat} (hs:s≤cuts.length):m.take (Zw m cuts (s+1))=m.take (Zw m cuts s)++Yn m cuts s:=by
 have:=Qiy hc hs
 unfold Yn
 rw [← List.take_add,show Zw m cuts s+(Zw m cuts (s+1)-Zw m cuts s)=Zw m cuts (s+1) by omega]
theorem QdM {s:Nat} (hs:s≤cuts.length):m.drop (Zw m cuts s)=Yn m cuts s++m.drop (Zw m cuts (s+1)):=by
 have:=Qiy hc hs
 unfold Yn
 have h:=List.take_append_drop (Zw m cuts (s+1)-Zw m cuts s) (m.drop (Zw m cuts s))
 rw [List.drop_drop,show Zw m cuts s+(Zw m cuts (s+1)-Zw m cuts s)=Zw m cuts (s+1) by omega] at h
 exact h.symm
end
def inp (m:Q9) (cuts:List Int) (x:List Int) (s:Nat):List Int:=ZY (m.take (Zw m cuts s)) x
def QbZ (m:Q9) (cuts:List Int) (x:List Int) (s:Nat):List (List Int):=(Qu (Yn m cuts s) (inp m cuts x s)).1
def fsat (m:Q9) (cuts:List Int) (x:List Int) (s:Nat):Bool:=(Qu (Yn m cuts s) (inp m cuts x s)).2
def JW (m:Q9) (cuts:List Int) (p:Qi) (s:Nat):List (List Int) × List Int × Bool :=
 Qy (m.drop (Zw m cuts s)) (Qu (m.drop (Zw m cuts s)) (inp m cuts p.1 s)).1 (Q3 (ZY m p.1) p.2).1
def dOut (m:Q9) (cuts:List Int) (p:Qi) (s:Nat):List Int:=(JW m cuts p s).2.1
def Qal (m:Q9) (cuts:List Int) (p:Qi) (s:Nat):List (List Int) × List Int × Bool:=Qy (Yn m cuts s) (QbZ m cuts p.1 s) (dOut m cuts p (s+1))
section
variable {m:Q9} {cuts:List Int} (hc:Zg m cuts=true)
include hc
theorem Qup (x:List Int):inp m cuts x 0=x:=by have _:=hc;unfold inp Zw;simp [Qkw]
theorem Qkp (x:List Int):inp m cuts x (cuts.length+1)=ZY m x:=by unfold inp;rw [Qdn hc,List.take_length]
theorem Qmx {s:Nat} (hs:s≤cuts.length) (x:List Int):inp m cuts x (s+1)=ZY (Yn m cuts s) (inp m cuts x s):=by
 unfold inp;rw [QKV hc hs,QWq]
theorem QAw {s:Nat} (hs:s≤cuts.length) (p:Qi) :
  JW m cuts p s=((Qal m cuts p s).1++(JW m cuts p (s+1)).1,(Qal m cuts p s).2.1,(Qal m cuts p s).2.2||(JW m cuts p (s+1)).2.2):=by
 unfold Qal QbZ dOut
 have e:=Qmx hc hs p.1
 conv=>lhs;unfold JW
 rw [QdM hc hs,QXy]
 unfold JW
 rw [e]
theorem QTu {s:Nat} (hs:s≤cuts.length) (p:Qi):dOut m cuts p s=(Qal m cuts p s).2.1:=by unfold dOut;rw [QAw hc hs]
theorem QPK (p:Qi):dOut m cuts p (cuts.length+1)=(Q3 (ZY m p.1) p.2).1:=by
 unfold dOut JW
 rw [Qdn hc,List.drop_length]
 simp [Qy]
theorem QCC (p:Qi):∀ (k s:Nat),s+k=cuts.length+1 →
  (JW m cuts p s).1=(List.range' s k).flatMap (fun j=>(Qal m cuts p j).1)∧(JW m cuts p s).2.2=(List.range' s k).any (fun j=>(Qal m cuts p j).2.2)
 | 0,s,h=>by
  have:s=cuts.length+1:=by omega
  subst this
  unfold JW
  rw [Qdn hc,List.drop_length]
  simp [Qy]
 | k+1,s,h=>by
  have ih:=QCC p k (s+1) (by omega)
  rw [QAw hc (by omega)]
  simp only [List.range'_succ,List.flatMap_cons,List.any_cons,ih.1,ih.2,and_self]
theorem Qsf (x:List Int):∀ (k s:Nat),s+k=cuts.length+1→(Qu (m.drop (Zw m cuts s)) (inp m cuts x s)).2=(List.range' s k).any (fun j=>fsat m cuts x j)
 | 0,s,h=>by
  have:s=cuts.length+1:=by omega
  subst this
  rw [Qdn hc,List.drop_length]
  rfl
 | k+1,s,h=>by
  have ih:=Qsf x k (s+1) (by omega)
  rw [QdM hc (by omega),QqL]
  simp only [List.range'_succ,List.any_cons]
  rw [← Qmx hc (by omega),ih]
  rfl
end
end Go.Proofs.YtjbdljkhbglnhaaGreat.Am
namespace Go.Proofs.YtjbdljkhbglnhaaGreat.Am
open Go Sz
structure Adm (c:Qo) (b:List Qi):Prop where
 model:QN (Q6 c)=true
 batch:ZG (Q6 c) b=true
 cuts:Zg (Q6 c) (Zj c)=true
 stages:(Zj c).length+1≤4
 ds:1≤cDs c∧cDs c≤2
 redo:(J9 c).length=(Zj c).length+1
 caps:YN c=true
 limits:Y1 c b.length=true
theorem QhL {c:Qo} {b:List Qi} (h:Zt c b=0):Adm c b:=by
 unfold Zt at h
 have hs:=QbW (c:=c)
 split at h
 ·simp at h
 split at h
 ·simp at h
 split at h
 ·simp at h
 split at h
 ·simp at h
 split at h
 ·simp at h
 split at h
 ·simp at h
 split at h
 ·simp at h
 rename_i h1 h2 h3 h4 h5 h6 h7
 have hc:=hs.2.2.1.1 (by omega)
 have e:=hs.2.2.2 hc
 have h4':m_in (cDs c) 1 2=true:=by simpa using h4
 exact ⟨by simpa using h1,by simpa using h2,hc,by have:=e;simp only [Zj];omega,QR.1 h4',by have:=e;simp only [Zj,J9];omega,by simpa using h6,by simpa using h7⟩
theorem QVU {c:Qo} {b:List Qi} (A:Adm c b):Zt c b=0:=by
 have hs:=QbW (c:=c)
 have e:=hs.2.2.2 A.cuts
 have h4:=A.stages
 have hr:=A.redo
 simp only [Zj,J9] at h4 hr
 unfold Zt
 rw [if_neg (by simp [A.model]),if_neg (by simp [A.batch]),if_neg (by omega),if_neg (by have:=QR.2 A.ds;simp [this]),if_neg (by simp;omega),if_neg (by simp [A.caps]),if_neg (by simp [A.limits])]
def nSt (c:Qo):Nat:=(Zj c).length+1
abbrev prAt (b:List Qi) (k:Nat):Qi:=gtd Zh b k
def dimI (m:Q9) (cuts:List Int) (s:Nat):Int:=if s≤cuts.length then Q7 (Yn m cuts s) else Za m
section
variable {m:Q9} {cuts:List Int} (hc:Zg m cuts=true)
include hc
theorem QSV:QN m=true:=by have:=hc;simp only [Zg,Bool.and_eq_true] at this;exact this.1
theorem Qiw {s:Nat} (hs:s≤cuts.length+1):Z8 (Q7 m) (m.take (Zw m cuts s)) (dimI m cuts s)∧Z8 (dimI m cuts s) (m.drop (Zw m cuts s)) (Za m):=by
 obtain ⟨_,_,h⟩:=QzQ (QSV hc)
 have h':=h
 rw [← List.take_append_drop (Zw m cuts s) m] at h'
 have h'':Z8 (Q7 m) (m.take (Zw m cuts s)++m.drop (Zw m cuts s)) (Za m):=by rw [List.take_append_drop];exact h
 obtain ⟨k,h1,h2⟩:=Z8.append.1 h''
 have hk:k=dimI m cuts s:=by
  unfold dimI
  by_cases h3:s≤cuts.length
  ·rw [if_pos h3]
   rw [QdM hc h3] at h2
   obtain ⟨k2,h4,h5⟩:=Z8.append.1 h2
   have hp:=Qh3 hc h3
   exact (Qik h4 hp.1 hp.2).2.1.symm
  ·have es:s=cuts.length+1:=by omega
   subst es
   rw [Qdn hc,List.drop_length] at h2
   rw [if_neg h3]
   exact h2
 rw [← hk]
 exact ⟨h1,h2⟩
theorem Qll {s:Nat} (hs:s≤cuts.length):Z8 (dimI m cuts s) (Yn m cuts s) (dimI m cuts (s+1)):=by
 obtain ⟨_,h2⟩:=Qiw hc (s:=s) (by omega)
 rw [QdM hc hs] at h2
 obtain ⟨k2,h4,h5⟩:=Z8.append.1 h2
 have:k2=dimI m cuts (s+1):=by
  obtain ⟨h6,h7⟩:=Qiw hc (s:=s+1) (by omega)
  by_cases h8:s+1≤cuts.length
  ·have hp:=Qh3 hc h8
   rw [QdM hc h8] at h5
   obtain ⟨k3,h9,_⟩:=Z8.append.1 h5
   unfold dimI
   rw [if_pos h8]
   exact (Qik h9 hp.1 hp.2).2.1.symm
  ·rw [show s+1=cuts.length+1 by omega,Qdn hc,List.drop_length] at h5
   unfold dimI
   rw [if_neg h8]
   exact h5
 rw [← this]
 exact h4
theorem QJZ {s:Nat} (hs:s≤cuts.length):QN (Yn m cuts s)=true∧Q7 (Yn m cuts s)=dimI m cuts s∧Za (Yn m cuts s)=dimI m cuts (s+1):=by
 have hp:=Qh3 hc hs
 exact Qik (Qll hc hs) hp.1 hp.2
theorem QvZ:dimI m cuts (cuts.length+1)=Za m:=by have _:=hc;unfold dimI;rw [if_neg (by omega)]
variable {p:Qi} (hp:Z5 m p=true)
include hp
theorem QpE:Qr p.1 (Q7 m)=true∧Qr p.2 (Za m)=true:=by
 have _:=hc
 simp only [Z5,Bool.and_eq_true] at hp;exact ⟨hp.1.2,hp.2⟩
theorem QfK {s:Nat} (hs:s≤cuts.length+1):Qr (inp m cuts p.1 s) (dimI m cuts s)=true:=QnJ (Qiw hc hs).1 (QpE hc hp).1
theorem QOj:Qr (ZY m p.1) (Za m)=true:=by
 have:=QfK hc hp (s:=cuts.length+1) (by omega)
 rwa [Qkp hc,QvZ hc] at this
theorem QXt:Qr (Q3 (ZY m p.1) p.2).1 (Za m)=true:=by
 have h1:=QOj hc hp
 have h2:=(QpE hc hp).2
 have:=QwX (QgU h1 h2)
 rwa [(YD.1 h1).2] at this
theorem Qwn {s:Nat} (hs:s≤cuts.length+1):Qr (dOut m cuts p s) (dimI m cuts s)=true:=(Qke (Qiw hc hs).2 (QfK hc hp hs) (QXt hc hp)).1
theorem QX3 {s:Nat} (hs:s≤cuts.length):ZT (Yn m cuts s) (Qal m cuts p s).1=true∧(Qal m cuts p s).1.length=(Yn m cuts s).length :=
 ⟨(Qke (Qll hc hs) (QfK hc hp (by omega)) (Qwn hc hp (by omega))).2,QeZ _ _ _ (by unfold QbZ;rw [Qbw];omega)⟩
theorem QBT {s:Nat} (hs:s≤cuts.length):Jl (Yn m cuts s) 0 (QbZ m cuts p.1 s)=true :=
 QVi (Qll hc hs) (by have:=Qh3 hc hs;intro e;rw [e] at this;simp at this) (QfK hc hp (by omega))
theorem Qny {s:Nat}:(QbZ m cuts p.1 s).length=(Yn m cuts s).length+1:=by have _:=hc;have _:=hp;exact Qbw _ _
theorem QT1 {s:Nat}:gtd [] (QbZ m cuts p.1 s) 0=inp m cuts p.1 s:=by have _:=hc;have _:=hp;exact QFc _ _
theorem QDa {s:Nat} (hs:s≤cuts.length):gtd [] (QbZ m cuts p.1 s) (Yn m cuts s).length=inp m cuts p.1 (s+1):=by have _:=hp;rw [Qmx hc hs];rfl
end
end Go.Proofs.YtjbdljkhbglnhaaGreat.Am
namespace Go.Proofs.YtjbdljkhbglnhaaGreat.Am
open Go Sz
section
variable (c:Qo) (b:List Qi)
def YP (s:Nat):Bool:=gtd false (J9 c) s
def YJ (s:Nat):List TIns:=ZE (cDs c) (nSt c:Nat) s b.length (YP c s)
abbrev opS (s:Nat):List TOp':=Yn (Q6 c) (Zj c) s
abbrev inS (s j:Nat):List Int:=inp (Q6 c) (Zj c) (prAt b j).1 s
abbrev rowS (s j:Nat):List (List Int):=QbZ (Q6 c) (Zj c) (prAt b j).1 s
abbrev doS (s j:Nat):List Int:=dOut (Q6 c) (Zj c) (prAt b j) s
abbrev bkS (s j:Nat):=Qal (Q6 c) (Zj c) (prAt b j) s
abbrev outA (j:Nat):List Int:=ZY (Q6 c) (prAt b j).1
def Zc (s:Nat):Bool:=decide (s+1=nSt c)
def Qa2 (s:Nat) (r:List (List Int)):List (List Int):=if YP c s then r.take 1 else r
def Jo (s:Nat):Nat→List (List Int)
 | 0=>(Zq (opS c s)).1
 | g+1=>(Zd (Jo s g) (bkS c b s g).1).1
def YY:Nat→Int
 | 0=>0
 | f+1=>(Q4 (YY f) (ZX (outA c b f) (prAt b f).2).1).1
def lsat (f:Nat):Bool:=(ZX (outA c b f) (prAt b f).2).2||(Q4 (YY c b f) (ZX (outA c b f) (prAt b f).2).1).2
def QdV (s j:Nat):Bool:=fsat (Q6 c) (Zj c) (prAt b j).1 s||(Zc c s&&lsat c b j)
def Qfs (s j:Nat):Bool:=(bkS c b s j).2.2||(Zd (Jo c b s j) (bkS c b s j).1).2||(Zc c s&&(Q3 (outA c b j) (prAt b j).2).2)
def satV (s f g:Nat):Bool:=(List.range f).any (QdV c b s)||(List.range g).any (Qfs c b s)
def YG (s f g:Nat):List Ys:=(List.range' g (f-g)).map fun j:Nat=>((j:Int),Qa2 c s (rowS c b s j))
def Qai (s g:Nat) (k1:Int):List (List Int):=if k1=5 then rowS c b s g else []
def vX (s f:Nat) (k1:Int):List Int:=if k1=1 then inS c b s f else []
def vY (s f:Nat) (k1:Int):List Int:=if k1=2∧s+1<nSt c then inS c b (s+1) (f-1) else []
def vG (s g:Nat) (k1:Int):List Int:=if k1=4∨(k1=5∧s+1<nSt c) then doS c b (s+1) g else []
def vD (s g:Nat) (k1:Int):List Int:=if k1=6∧0<s then doS c b s (g-1) else []
def st (s:Nat) (k f g:Nat) (k1:Int):Qc :=
 ((k:Int),YJ c b s,opS c s,Zc c s,YP c s,YG c b s f g,Qai c b s g k1,vX c b s f k1,vY c b s f k1,vG c b s g k1,vD c b s g k1,Jo c b s g,(if Zc c s then YY c b f else 0),satV c b s f g)
end
structure Nums (M f g:Nat) (kk:Int):Prop where
 gf:g≤f
 fM:f≤M
 k1:kk=1→f<M
 k2:kk=2→1≤f
 k45:kk=4∨kk=5→g<f
 k6:kk=6→1≤g
theorem Qxb:∀ {l:List Ys} {m k:Int},(∀ x,x∈l→x.1≠m)→J3 l m k = -1
 | [],m,k,h=>rfl
 | x::r,m,k,h=>by rw [J3,if_neg (h x List.mem_cons_self)];exact Qxb (fun y hy=>h y (List.mem_cons_of_mem _ hy))
theorem QYs {c:Qo} {b:List Qi} {s f g:Nat}:QX (YG c b s f g) (f:Int) = -1:=by
 refine Qxb (fun x hx=>?_)
 unfold YG at hx
 obtain ⟨j,hj,rfl⟩:=List.mem_map.1 hx
 rw [List.mem_range'_1] at hj
 simp only [ne_eq];omega
theorem QjD {c:Qo} {b:List Qi} {s f g:Nat} (h:g<f):YG c b s f g=((g:Int),Qa2 c s (rowS c b s g))::YG c b s f (g+1):=by
 unfold YG
 rw [show f-g=(f-(g+1))+1 by omega,List.range'_succ,List.map_cons]
theorem QUx {c:Qo} {b:List Qi} {s f g:Nat} (h:g≤f):YG c b s (f+1) g=YG c b s f g++[((f:Int),Qa2 c s (rowS c b s f))]:=by
 unfold YG
 rw [show f+1-g=(f-g)+1 by omega,List.range'_concat,List.map_append]
 simp only [List.map_cons,List.map_nil,Nat.one_mul]
 rw [show g+(f-g)=f by omega]
theorem QxT {c:Qo} {b:List Qi} {s f g:Nat} (h:g<f):QX (YG c b s f g) (g:Int)=0:=by
 rw [QjD h];unfold QX;rw [J3,if_pos rfl]
theorem QaN {c:Qo} {b:List Qi} {s g:Nat} {k1:Int} (h:k1≠5):Qai c b s g k1=[]:=by unfold Qai;rw [if_neg h]
theorem QaE {c:Qo} {b:List Qi} {s f:Nat} {k1:Int} (h:k1≠1):vX c b s f k1=[]:=by unfold vX;rw [if_neg h]
theorem Qap {c:Qo} {b:List Qi} {s f:Nat} {k1:Int} (h:¬ (k1=2∧s+1<nSt c)):vY c b s f k1=[]:=by unfold vY;rw [if_neg h]
theorem QbJ {c:Qo} {b:List Qi} {s g:Nat} {k1:Int} (h4:k1≠4) (h5:k1≠5):vG c b s g k1=[]:=by
 unfold vG;rw [if_neg];rintro (e | e)
 ·exact h4 e
 ·exact h5 e.1
theorem Qax {c:Qo} {b:List Qi} {s g:Nat} {k1:Int} (h:¬ (k1=6∧0<s)):vD c b s g k1=[]:=by unfold vD;rw [if_neg h]
theorem JA {p:Prop} {x y:Int} (h:x≠y):¬ (x=y∧p):=fun e=>h e.1
theorem QWc {c:Qo} {b:List Qi} {s f:Nat}:vX c b s f 1=inS c b s f:=by unfold vX;rw [if_pos rfl]
theorem QV2 {c:Qo} {b:List Qi} {s g:Nat}:vG c b s g 4=doS c b (s+1) g:=by unfold vG;rw [if_pos (.inl rfl)]
section
variable {c:Qo} {b:List Qi} (A:Adm c b)
include A
theorem QbE:1≤b.length∧b.length≤5:=by
 have:=A.batch;simp only [ZG,Bool.and_eq_true,QR] at this;omega
theorem QaW {j:Nat} (hj:j<b.length):Z5 (Q6 c) (prAt b j)=true:=by
 have:=A.batch;simp only [ZG,Bool.and_eq_true] at this
 exact List.all_eq_true.1 this.2 _ (JP hj Zh)
theorem QXe (f:Nat):Q8 (YY c b f)=true:=by
 have _:=A
 cases f with
 | zero=>rfl
 | succ f=>exact Qlc _ _
theorem QGF (s f:Nat):Q8 (if Zc c s then YY c b f else 0)=true:=by
 split
 ·exact QXe A f
 ·rfl
theorem Qeq {s:Nat} (hs:s<nSt c):QN (opS c s)=true∧Q7 (opS c s)=dimI (Q6 c) (Zj c) s∧Za (opS c s)=dimI (Q6 c) (Zj c) (s+1):=QJZ A.cuts (by simp only [nSt] at hs;omega)
theorem QOr {s:Nat} (hs:s<nSt c):(Zq (opS c s)).1.length=(opS c s).length∧ZT (opS c s) (Zq (opS c s)).1=true:=by
 unfold Zq
 rw [if_pos (Qeq A hs).1]
 simp only [List.length_map,true_and]
 generalize opS c s=l
 induction l with
 | nil=>rfl
 | cons o l ih=>simp [ZT,ih]
theorem QzF {s j:Nat} (hs:s<nSt c) (hj:j<b.length):(bkS c b s j).1.length=(opS c s).length∧ZT (opS c s) (bkS c b s j).1=true:=by
 have:=QX3 A.cuts (QaW A hj) (s:=s) (by simp only [nSt] at hs;omega)
 exact ⟨this.2,this.1⟩
theorem Qmm {s:Nat} (hs:s<nSt c):∀ {g:Nat},g≤b.length→(Jo c b s g).length=(opS c s).length∧ZT (opS c s) (Jo c b s g)=true
 | 0,_=>QOr A hs
 | g+1,hg=>by
  obtain ⟨h1,h2⟩:=Qmm hs (g:=g) (by omega)
  obtain ⟨h3,h4⟩:=QzF A hs (j:=g) (by omega)
  refine ⟨?_,Qpn h1 h3 h2 h4⟩
  show (Zd _ _).1.length=_
  rw [Qk3];omega
theorem QfN {s j:Nat} (hs:s≤nSt c) (hj:j<b.length):Qr (inS c b s j) (dimI (Q6 c) (Zj c) s)=true:=QfK A.cuts (QaW A hj) hs
theorem Qf1 {s j:Nat} (hs:s≤nSt c) (hj:j<b.length):Qr (doS c b s j) (dimI (Q6 c) (Zj c) s)=true:=Qwn A.cuts (QaW A hj) hs
theorem QiJ {s k f g:Nat} {k1:Int} (hs:s<nSt c) (hk:k≤(YJ c b s).length) (H:Nums b.length f g k1):Zn (st c b s k f g k1)=true:=by
 obtain ⟨hm,hi,ho⟩:=Qeq A hs
 have hs':s≤(Zj c).length:=by simp only [nSt] at hs;omega
 have hsr:=Qmm A hs (g:=g) (by have:=H.gf;have:=H.fM;omega)
 have hX:YX (vX c b s f k1) (Q7 (opS c s))=true:=by
  unfold vX YX;split
  ·rename_i h;rw [hi,QfN A (by omega) (H.k1 h)];simp
  ·simp
 have hY:YX (vY c b s f k1) (Za (opS c s))=true:=by
  unfold vY YX;split
  ·rename_i h;rw [ho,QfN A (by omega) (by have:=H.k2 h.1;have:=H.fM;omega)];simp
  ·simp
 have hG:YX (vG c b s g k1) (Za (opS c s))=true:=by
  unfold vG YX;split
  ·rename_i h
   have:g<f:=H.k45 (h.imp id (fun h=>h.1))
   rw [ho,Qf1 A (by omega) (by have:=H.fM;omega)];simp
  ·simp
 have hD:YX (vD c b s g k1) (Q7 (opS c s))=true:=by
  unfold vD YX;split
  ·rename_i h;rw [hi,Qf1 A (by omega) (by have:=H.k6 h.1;have:=H.gf;have:=H.fM;omega)];simp
  ·simp
 have hst:(YG c b s f g).all (QaR (st c b s k f g k1))=true:=by
  rw [List.all_eq_true]
  intro x hx
  unfold YG at hx
  obtain ⟨j,hj,rfl⟩:=List.mem_map.1 hx
  rw [List.mem_range'_1] at hj
  have hjb:j<b.length:=by have:=H.fM;omega
  have hg:=QBT A.cuts (QaW A hjb) hs'
  have hl:(rowS c b s j).length=(opS c s).length+1:=Qny A.cuts (QaW A hjb)
  have ek:Jr (st c b s k f g k1)=if YP c s=true then 1 else ((opS c s).length:Int)+1:=rfl
  have eo:(st c b s k f g k1).2.2.1=opS c s:=rfl
  unfold QaR YU
  rw [ek,eo]
  simp only [Bool.and_eq_true,beq_iff_eq]
  unfold Qa2
  by_cases hr:YP c s=true
  ·simp only [if_pos hr]
   refine ⟨by rw [List.length_take,hl,Nat.min_eq_left (by omega)];rfl,?_⟩
   exact Qf3 _ _ _ _ (Qf3 _ _ _ _ hg)
  ·simp only [if_neg hr]
   exact ⟨congrArg Int.ofNat hl,Qf3 _ _ _ _ hg⟩
 simp only [Zn,Bool.and_eq_true]
 refine ⟨⟨⟨⟨hm,?_⟩,?_⟩,hst⟩,⟨⟨hX,hD⟩,hY⟩,hG⟩
 ·simp only [st,QR];omega
 ·simp only [st,JQ,Bool.and_eq_true,beq_iff_eq];exact hsr
theorem QKJ {s k f g:Nat} {k1:Int} (h2:¬ (k1=2∧s+1<nSt c)) (h4:k1≠4) (h5:k1≠5) (h6:¬ (k1=6∧0<s)) :
  YB (setX (st c b s k f g k1) (inS c b s f)) ((k:Int)+1)=st c b s (k+1) f g 1:=by
 have _:=A
 simp only [YB,setX,setY,setG,setD,st,sPc,QH,sOps,Qx,QE,Qm,QL,sX,sY,sG,sD,QD,QC,sSat]
 rw [QaN h5,Qap h2,QbJ h4 h5,Qax h6,QaN (k1:=1) (by decide),QWc,Qap (k1:=1) (JA (by decide)),QbJ (k1:=1) (by decide) (by decide),Qax (k1:=1) (JA (by decide))]
 rfl
theorem QE1 {s k f g:Nat} {k1:Int} (h1:k1=2):YB (setY (st c b s k f g k1) []) ((k:Int)+1)=st c b s (k+1) f g 3:=by
 have _:=A
 subst h1
 simp only [YB,setX,setY,setG,setD,st,sPc,QH,sOps,Qx,QE,Qm,QL,sX,sY,sG,sD,QD,QC,sSat]
 rw [QaN (k1:=2) (by decide),QaE (k1:=2) (by decide),QbJ (k1:=2) (by decide) (by decide),Qax (k1:=2) (JA (by decide)),QaN (k1:=3) (by decide),QaE (k1:=3) (by decide),Qap (k1:=3) (JA (by decide)),QbJ (k1:=3) (by decide) (by decide),Qax (k1:=3) (JA (by decide))]
 rfl
theorem QM0 {s k f g:Nat} {k1:Int} (h1:k1≠1) (h2:¬ (k1=2∧s+1<nSt c)) (h5:k1≠5) (h6:¬ (k1=6∧0<s)) :
  YB (setG (st c b s k f g k1) (doS c b (s+1) g)) ((k:Int)+1)=st c b s (k+1) f g 4:=by
 have _:=A
 simp only [YB,setX,setY,setG,setD,st,sPc,QH,sOps,Qx,QE,Qm,QL,sX,sY,sG,sD,QD,QC,sSat]
 rw [QaN h5,QaE h1,Qap h2,Qax h6,QaN (k1:=4) (by decide),QaE (k1:=4) (by decide),Qap (k1:=4) (JA (by decide)),QV2,Qax (k1:=4) (JA (by decide))]
 rfl
theorem QVD {s k f g:Nat} {k1:Int} (h1:k1=6):YB (setD (st c b s k f g k1) []) ((k:Int)+1)=st c b s (k+1) f g 7:=by
 have _:=A
 subst h1
 simp only [YB,setX,setY,setG,setD,st,sPc,QH,sOps,Qx,QE,Qm,QL,sX,sY,sG,sD,QD,QC,sSat]
 rw [QaN (k1:=6) (by decide),QaE (k1:=6) (by decide),Qap (k1:=6) (JA (by decide)),QbJ (k1:=6) (by decide) (by decide),QaN (k1:=7) (by decide),QaE (k1:=7) (by decide),Qap (k1:=7) (JA (by decide)),QbJ (k1:=7) (by decide) (by decide),Qax (k1:=7) (JA (by decide))]
 rfl
theorem QSx {s k f g:Nat} {k1:Int} (h1:k1≠1) (h2:¬ (k1=2∧s+1<nSt c)) (h4:k1≠4) (h5:k1≠5) (h6:¬ (k1=6∧0<s)):YB (st c b s k f g k1) ((k:Int)+1)=st c b s (k+1) f g 8:=by
 have _:=A
 simp only [YB,setX,setY,setG,setD,st,sPc,QH,sOps,Qx,QE,Qm,QL,sX,sY,sG,sD,QD,QC,sSat]
 rw [QaN h5,QaE h1,Qap h2,QbJ h4 h5,Qax h6,QaN (k1:=8) (by decide),QaE (k1:=8) (by decide),Qap (k1:=8) (JA (by decide)),QbJ (k1:=8) (by decide) (by decide),Qax (k1:=8) (JA (by decide))]
 rfl
theorem QYt {s k f g:Nat} {k1:Int} (hs:s<nSt c) (hk:k≤(YJ c b s).length) (H:Nums b.length f g k1) (hr:YP c s=true) (hgf:g<f) (h1:k1≠1) (h2:¬ (k1=2∧s+1<nSt c)) (h4:k1=4↔s+1<nSt c) (h5:k1≠5) (h6:¬ (k1=6∧0<s)) :
  YB (Jx (st c b s k f g k1) (g:Int)) ((k:Int)+1)=st c b s (k+1) f g 5:=by
 have hok:=QiJ A hs hk H
 have hjb:g<b.length:=by have:=H.fM;omega
 have hf:QX (Qm (st c b s k f g k1)) (g:Int)=0:=QxT hgf
 have hrow:gtd [] (gtd YO (Qm (st c b s k f g k1)) 0).2 0=inS c b s g:=by
  show gtd [] (gtd YO (YG c b s f g) 0).2 0=_
  rw [QjD hgf,Qc7]
  have hh:gtd [] (rowS c b s g) 0=inS c b s g:=QT1 A.cuts (QaW A hjb) (s:=s)
  have hl:(rowS c b s g).length=(opS c s).length+1:=Qny A.cuts (QaW A hjb) (s:=s)
  show gtd [] (Qa2 c s (rowS c b s g)) 0=_
  unfold Qa2
  rw [hr,if_pos rfl,← hh]
  cases hq:rowS c b s g with
  | nil=>rw [hq] at hl;simp at hl
  | cons x r=>simp [gtd]
 unfold Jx
 simp only [hf]
 rw [if_pos (by rw [hok];rfl),show Int.toNat 0=0 from rfl,hrow]
 have hg:vG c b s g k1=vG c b s g 5:=by
  unfold vG
  by_cases h:s+1<nSt c
  ·rw [if_pos (.inl (h4.2 h)),if_pos (.inr ⟨rfl,h⟩)]
  ·rw [if_neg (by rintro (e | e);exact h (h4.1 e);exact h e.2),if_neg (by rintro (e | e);cases e;exact h e.2)]
 have hfu:Qai c b s g 5=rowS c b s g:=by unfold Qai;rw [if_pos rfl]
 simp only [YB,setX,setY,setG,setD,st,sPc,QH,sOps,Qx,QE,Qm,QL,sX,sY,sG,sD,QD,QC,sSat]
 rw [hg,QaE h1,Qap h2,Qax h6,hfu,QaE (k1:=5) (by decide),Qap (k1:=5) (JA (by decide)),Qax (k1:=5) (JA (by decide))]
 rfl
theorem QU5 {s k f g:Nat} {k1:Int} (hs:s<nSt c) (hk:k≤(YJ c b s).length) (H:Nums b.length f g k1) (hf:f<b.length) (h0:0<s→k1=1) (h2:¬ (k1=2∧s+1<nSt c)) (h4:k1≠4) (h5:k1≠5) (h6:¬ (k1=6∧0<s)) :
  YB (YZ (st c b s k f g k1) (f:Int) (if s=0 then (prAt b f).1 else sX (st c b s k f g k1)) (prAt b f).2) ((k:Int)+1)=st c b s (k+1) (f+1) g 2:=by
 have hok:=QiJ A hs hk H
 obtain ⟨hm,hi,ho⟩:=Qeq A hs
 have hs':s≤(Zj c).length:=by simp only [nSt] at hs;omega
 have hp:=QaW A hf
 have hx:(if s=0 then (prAt b f).1 else sX (st c b s k f g k1))=inS c b s f:=by
  by_cases h:s=0
  ·subst h;rw [if_pos rfl];exact (Qup A.cuts _).symm
  ·rw [if_neg h]
   show vX c b s f k1=_
   unfold vX;rw [if_pos (h0 (by omega))]
 rw [hx]
 have hlast:Zc c s=true→s=(Zj c).length:=by intro h;unfold Zc nSt at h;have h:=of_decide_eq_true h;omega
 have hfind:QX (Qm (st c b s k f g k1)) (f:Int) = -1:=QYs
 have hfw:QaD (st c b s k f g k1) (f:Int) (inS c b s f) (prAt b f).2=true:=by
  unfold QaD
  rw [hok,hfind]
  have h1:Qr (inS c b s f) (Q7 (sOps (st c b s k f g k1)))=true:=by
   show Qr _ (Q7 (opS c s))=true
   rw [hi];exact QfN A (by omega) hf
  have h3:(!Qx (st c b s k f g k1)||Qr (prAt b f).2 (Za (sOps (st c b s k f g k1))))=true:=by
   show (!Zc c s||Qr (prAt b f).2 (Za (opS c s)))=true
   cases hl:Zc c s with
   | false=>rfl
   | true =>
    have e:=hlast hl
    rw [ho,e,QvZ A.cuts]
    simpa using (QpE A.cuts hp).2
  rw [h1,h3];rfl
 have hy:gtd [] (Qu (opS c s) (inS c b s f)).1 (opS c s).length=inS c b (s+1) f:=QDa A.cuts hp hs'
 have key:YB (YZ (st c b s k f g k1) (f:Int) (inS c b s f) (prAt b f).2) ((k:Int)+1) =
   ((k:Int)+1,YJ c b s,opS c s,Zc c s,YP c s,YG c b s f g++[((f:Int),Qa2 c s (rowS c b s f))],Qai c b s g k1,[],(if Zc c s=true then vY c b s f k1 else gtd [] (Qu (opS c s) (inS c b s f)).1 (opS c s).length),vG c b s g k1,vD c b s g k1,Jo c b s g,
    (if Zc c s=true then (Q4 (if Zc c s=true then YY c b f else 0) (ZX (gtd [] (Qu (opS c s) (inS c b s f)).1 (opS c s).length) (prAt b f).2).1).1 else if Zc c s=true then YY c b f else 0),
    (satV c b s f g||(Qu (opS c s) (inS c b s f)).2||(Zc c s&&((ZX (gtd [] (Qu (opS c s) (inS c b s f)).1 (opS c s).length) (prAt b f).2).2||(Q4 (if Zc c s=true then YY c b f else 0) (ZX (gtd [] (Qu (opS c s) (inS c b s f)).1 (opS c s).length) (prAt b f).2).1).2)))):=by
  unfold YZ
  rw [if_pos hfw]
  rfl
 rw [key,hy]
 have e1:YG c b s f g++[((f:Int),Qa2 c s (rowS c b s f))]=YG c b s (f+1) g:=(QUx H.gf).symm
 have e2:(if Zc c s=true then vY c b s f k1 else inS c b (s+1) f)=vY c b s (f+1) 2:=by
  unfold vY
  cases hl:Zc c s with
  | false =>
   simp only [Zc,decide_eq_false_iff_not] at hl
   rw [if_neg (by simp),if_pos ⟨rfl,by omega⟩,Nat.add_sub_cancel]
  | true =>
   simp only [Zc,decide_eq_true_eq] at hl
   rw [if_pos rfl,if_neg h2,if_neg (by omega)]
 have e3:(if Zc c s=true then (Q4 (if Zc c s=true then YY c b f else 0) (ZX (inS c b (s+1) f) (prAt b f).2).1).1 else if Zc c s=true then YY c b f else 0)=(if Zc c s=true then YY c b (f+1) else 0):=by
  cases hl:Zc c s with
  | false=>simp
  | true =>
   simp only [if_true]
   rw [hlast hl]
   show (Q4 _ (ZX (inp _ _ _ _) _).1).1=_
   rw [Qkp A.cuts]
   rfl
 have e4:(satV c b s f g||(Qu (opS c s) (inS c b s f)).2||(Zc c s&&((ZX (inS c b (s+1) f) (prAt b f).2).2||(Q4 (if Zc c s=true then YY c b f else 0) (ZX (inS c b (s+1) f) (prAt b f).2).1).2)))=satV c b s (f+1) g:=by
  unfold satV
  rw [List.range_succ,List.any_append]
  have:QdV c b s f=((Qu (opS c s) (inS c b s f)).2||(Zc c s&&((ZX (inS c b (s+1) f) (prAt b f).2).2||(Q4 (if Zc c s=true then YY c b f else 0) (ZX (inS c b (s+1) f) (prAt b f).2).1).2))):=by
   unfold QdV
   cases hl:Zc c s with
   | false=>rfl
   | true =>
    simp only [if_true,Bool.true_and]
    rw [hlast hl]
    have:inS c b ((Zj c).length+1) f=outA c b f:=Qkp A.cuts _
    rw [this]
    rfl
  simp only [List.any_cons,List.any_nil,Bool.or_false]
  rw [this]
  cases (List.range f).any (QdV c b s) <;> cases (List.range g).any (Qfs c b s) <;> simp
 have e5:vX c b s (f+1) 2=[]:=rfl
 have e6:vG c b s g k1=vG c b s g 2:=by unfold vG;rw [if_neg (by rintro (e | e);exact h4 e;exact h5 e.1),if_neg (by rintro (e | e);cases e;exact absurd e.1 (by decide))]
 have e7:vD c b s g k1=vD c b s g 2:=by unfold vD;rw [if_neg h6,if_neg (by rintro ⟨e,_⟩;exact absurd e (by decide))]
 have e8:Qai c b s g k1=Qai c b s g 2:=by unfold Qai;rw [if_neg h5,if_neg (by decide)]
 rw [e1,e2,e3,e4,← e5,e6,e7,e8]
 rfl
theorem QSs {s k f g:Nat} {k1:Int} (hs:s<nSt c) (hk:k≤(YJ c b s).length) (H:Nums b.length f g k1) (hgf:g<f) (hr1:YP c s=true→k1=5) (hr2:YP c s=false→s+1<nSt c→k1=4) (h1:k1≠1) (h2:¬ (k1=2∧s+1<nSt c)) (h5:k1=5→YP c s=true) (h4:k1=4→s+1<nSt c) :
  YB (if s=0 then setD (Yc (st c b s k f g k1) (g:Int) (prAt b g).2) [] else Yc (st c b s k f g k1) (g:Int) (prAt b g).2) ((k:Int)+1)=st c b s (k+1) f (g+1) 6:=by
 have hok:=QiJ A hs hk H
 obtain ⟨hm,hi,ho⟩:=Qeq A hs
 have hs':s≤(Zj c).length:=by simp only [nSt] at hs;omega
 have hg:g<b.length:=by have:=H.fM;omega
 have hp:=QaW A hg
 have hlast:Zc c s=true→s=(Zj c).length:=by intro h;unfold Zc nSt at h;have h:=of_decide_eq_true h;omega
 have hfind:QX (Qm (st c b s k f g k1)) (g:Int)=0:=QxT hgf
 have hrl:(rowS c b s g).length=(opS c s).length+1:=Qny A.cuts hp
 have hrows:YT (st c b s k f g k1) 0=rowS c b s g:=by
  unfold YT
  show (if YP c s=true then Qai c b s g k1 else (gtd YO (YG c b s f g) (Int.toNat 0)).2)=_
  rw [QjD hgf,show Int.toNat 0=0 from rfl,Qc7]
  cases hr:YP c s with
  | true=>rw [if_pos rfl];unfold Qai;rw [if_pos (hr1 hr)]
  | false=>rw [if_neg (by simp)];show Qa2 c s _=_;unfold Qa2;rw [hr,if_neg (by simp)]
 have hd:bwdD (st c b s k f g k1) 0 (prAt b g).2=(doS c b (s+1) g,Zc c s&&(Q3 (outA c b g) (prAt b g).2).2):=by
  unfold bwdD
  rw [hrows]
  show (if Zc c s=true then Q3 (gtd [] (rowS c b s g) (opS c s).length) (prAt b g).2 else (vG c b s g k1,false))=_
  cases hl:Zc c s with
  | true =>
   rw [if_pos rfl,QDa A.cuts hp hs',hlast hl,Qkp A.cuts]
   show _=(dOut _ _ _ _,_)
   rw [QPK A.cuts,Bool.true_and]
  | false =>
   simp only [Zc,decide_eq_false_iff_not] at hl
   rw [if_neg (by simp),Bool.false_and]
   unfold vG
   rw [if_pos]
   cases hr:YP c s with
   | true=>exact .inr ⟨hr1 hr,by omega⟩
   | false=>exact .inl (hr2 hr (by omega))
 have hbk:QaI (st c b s k f g k1) 0 (prAt b g).2=true:=by
  unfold QaI
  rw [hok,hrows,hd]
  simp only [Bool.and_eq_true,beq_iff_eq,decide_eq_true_eq]
  refine ⟨⟨⟨⟨trivial,by omega⟩,hrl⟩,?_⟩,?_⟩
  ·unfold YU
   exact Qf3 _ _ _ _ (QBT A.cuts hp hs')
  ·show Qr (doS c b (s+1) g) (Za (opS c s))=true
   rw [ho];exact Qf1 A (by omega) hg
 have hback:Qy (opS c s) (rowS c b s g) (doS c b (s+1) g)=bkS c b s g:=rfl
 have hbd:(bkS c b s g).2.1=doS c b s g:=(QTu A.cuts hs' _).symm
 have hadd:ZA (sSum (st c b s k f g k1)) ((bkS c b s g).1,0,(Zc c s&&(Q3 (outA c b g) (prAt b g).2).2)||(bkS c b s g).2.2)=(Jo c b s (g+1),(if Zc c s then YY c b f else 0),satV c b s f (g+1)):=by
  unfold ZA
  simp only
  have hl:Q4 (sSum (st c b s k f g k1)).2.1 0=((if Zc c s then YY c b f else 0),false):=QVX (QGF A s f)
  rw [hl]
  refine Prod.ext rfl (Prod.ext rfl ?_)
  show (satV c b s f g||((Zc c s&&(Q3 (outA c b g) (prAt b g).2).2)||(bkS c b s g).2.2)||(Zd (Jo c b s g) (bkS c b s g).1).2||false)=satV c b s f (g+1)
  unfold satV
  rw [List.range_succ,List.any_append]
  simp only [List.any_cons,List.any_nil,Bool.or_false]
  unfold Qfs
  cases (List.range f).any (QdV c b s) <;> cases (List.range g).any (Qfs c b s) <;> cases (bkS c b s g).2.2 <;> cases (Zd (Jo c b s g) (bkS c b s g).1).2 <;> simp
 have key:Yc (st c b s k f g k1) (g:Int) (prAt b g).2=((k:Int),YJ c b s,opS c s,Zc c s,YP c s,YG c b s f (g+1),[],vX c b s f k1,vY c b s f k1,[],doS c b s g,Jo c b s (g+1),(if Zc c s then YY c b f else 0),satV c b s f (g+1)):=by
  unfold Yc
  simp only [hfind]
  rw [if_pos hbk,hrows,hd]
  simp only
  have e:sOps (st c b s k f g k1)=opS c s:=rfl
  rw [e,hback,hadd,hbd]
  have e2:(Qm (st c b s k f g k1)).take (Int.toNat 0)++(Qm (st c b s k f g k1)).drop (Int.toNat 0+1)=YG c b s f (g+1):=by
   show (YG c b s f g).take 0++(YG c b s f g).drop 1=_
   rw [QjD hgf];rfl
  rw [e2]
  rfl
 rw [key]
 have f1:vX c b s f k1=vX c b s f 6:=by unfold vX;rw [if_neg h1,if_neg (by decide)]
 have f2:vY c b s f k1=vY c b s f 6:=by unfold vY;rw [if_neg h2,if_neg (by rintro ⟨e,_⟩;exact absurd e (by decide))]
 have f3:vG c b s (g+1) 6=[]:=by unfold vG;rw [if_neg];rintro (e | e);exact absurd e (by decide);exact absurd e.1 (by decide)
 rw [f1,f2]
 by_cases h:s=0
 ·rw [if_pos h]
  simp only [YB,setX,setY,setG,setD,st,sPc,QH,sOps,Qx,QE,Qm,QL,sX,sY,sG,sD,QD,QC,sSat]
  have f4:vD c b s (g+1) 6=[]:=by unfold vD;rw [if_neg (by omega)]
  rw [f3,f4]
  rfl
 ·rw [if_neg h]
  simp only [YB,setX,setY,setG,setD,st,sPc,QH,sOps,Qx,QE,Qm,QL,sX,sY,sG,sD,QD,QC,sSat]
  have f4:vD c b s (g+1) 6=doS c b s g:=by unfold vD;rw [if_pos ⟨rfl,by omega⟩,Nat.add_sub_cancel]
  rw [f3,f4]
  rfl
end
end Go.Proofs.YtjbdljkhbglnhaaGreat.Am
namespace Go.Proofs.YtjbdljkhbglnhaaGreat.Am
open Go Sz
structure Loc (ds n M s:Int) (rd:Bool) (f g:Nat) (k1:Int) (i:TIns) (last:Bool):Prop where
 c0:g≤f∧(f:Int)≤M∧1≤i.1∧i.1≤8∧0≤i.2∧i.2<M∧(i.1=8↔last=true)∧i≠(0,0)
 c1:i.1=1→0<s∧i.2=f∧k1≠1
 c2:i.1=2→i.2=f∧(0<s→k1=1)
 c3:i.1=3→s<n-1∧i.2=(f:Int)-1∧k1=2
 c4:i.1=4→s<n-1∧i.2=g
 c5:i.1=5→rd=true∧i.2=g∧g<f∧(s<n-1→k1=4)
 c6:i.1=6→i.2=g∧g<f∧(rd=true→k1=5)∧(rd=false→s<n-1→k1=4)
 c7:i.1=7→0<s∧i.2=(g:Int)-1∧k1=6
 c8:i.1=8→(f:Int)=M∧(g:Int)=M∧k1≠0
 c9:k1=1→i.1=2
 c10:k1=2→s<n-1→i.1=3
 c11:k1=4→i.1=5∨i.1=6
 c12:k1=5→i.1=6
 c13:k1=6→0<s→i.1=7
 c14:k1=5→rd=true
 c15:k1=6→1≤g
 c16:k1=2→1≤f
 c17:k1≠8
 c18:k1=4→s<n-1
 c19:k1=1→0<s
 c20:k1=4∨k1=5→g<f
 c21:k1=1→(f:Int)<M
 c22:s<n-1→(scOf f k1:Int)<M→tm ds n M s i≤tm ds n M s (3,(scOf f k1:Int))
 c23:0<s→(rcOf f k1:Int)<M→tm ds n M s i≤tm ds n M s (1,(rcOf f k1:Int))
 c24:s<n-1→(rgOf n s g k1:Int)<M→tm ds n M s i≤tm ds n M s (4,(rgOf n s g k1:Int))
 c25:0<s→(sgQ g k1:Int)<M→tm ds n M s i≤tm ds n M s (7,(sgQ g k1:Int))
 c26:ds=2→(f:Int)-g≤n-s
 c27:ds=2→i.1=2→(f:Int)-g<n-s
theorem QJR {ds n M s:Int} {rd:Bool} {f g:Nat} {k1:Int} {i:TIns} {last:Bool} (h:Qhx ds n M s rd f g k1 i last=true):Loc ds n M s rd f g k1 i last:=by
 simp only [Qhx,Bool.and_eq_true,decide_eq_true_eq] at h
 exact ⟨h.1.1.1.1.1.1.1.1.1.1.1.1.1.1.1.1.1.1.1.1.1.1.1.1.1.1.1,h.1.1.1.1.1.1.1.1.1.1.1.1.1.1.1.1.1.1.1.1.1.1.1.1.1.1.2,h.1.1.1.1.1.1.1.1.1.1.1.1.1.1.1.1.1.1.1.1.1.1.1.1.1.2,h.1.1.1.1.1.1.1.1.1.1.1.1.1.1.1.1.1.1.1.1.1.1.1.1.2,h.1.1.1.1.1.1.1.1.1.1.1.1.1.1.1.1.1.1.1.1.1.1.1.2,h.1.1.1.1.1.1.1.1.1.1.1.1.1.1.1.1.1.1.1.1.1.1.2,h.1.1.1.1.1.1.1.1.1.1.1.1.1.1.1.1.1.1.1.1.1.2,h.1.1.1.1.1.1.1.1.1.1.1.1.1.1.1.1.1.1.1.1.2,h.1.1.1.1.1.1.1.1.1.1.1.1.1.1.1.1.1.1.1.2,h.1.1.1.1.1.1.1.1.1.1.1.1.1.1.1.1.1.1.2,h.1.1.1.1.1.1.1.1.1.1.1.1.1.1.1.1.1.2,h.1.1.1.1.1.1.1.1.1.1.1.1.1.1.1.1.2,h.1.1.1.1.1.1.1.1.1.1.1.1.1.1.1.2,h.1.1.1.1.1.1.1.1.1.1.1.1.1.1.2,h.1.1.1.1.1.1.1.1.1.1.1.1.1.2,h.1.1.1.1.1.1.1.1.1.1.1.1.2,h.1.1.1.1.1.1.1.1.1.1.1.2,h.1.1.1.1.1.1.1.1.1.1.2,h.1.1.1.1.1.1.1.1.1.2,h.1.1.1.1.1.1.1.1.2,h.1.1.1.1.1.1.1.2,h.1.1.1.1.1.1.2,h.1.1.1.1.1.2,h.1.1.1.1.2,h.1.1.1.2,h.1.1.2,h.1.2,h.2⟩
section
variable (c:Qo) (b:List Qi)
def lenP (s:Nat):Nat:=(YJ c b s).length
def insP (s k:Nat):TIns:=gtd dIns (YJ c b s) k
def F (s k:Nat):Nat:=cf ((YJ c b s).take k)
def G (s k:Nat):Nat:=cg ((YJ c b s).take k)
def K1 (s k:Nat):Int:=Jd (YJ c b s) k
def sc (s k:Nat):Nat:=scOf (F c b s k) (K1 c b s k)
def rc (s k:Nat):Nat:=rcOf (F c b s k) (K1 c b s k)
def rg (s k:Nat):Nat:=rgOf (nSt c:Nat) (s:Int) (G c b s k) (K1 c b s k)
def sg (s k:Nat):Nat:=sgQ (G c b s k) (K1 c b s k)
def stAt (s k:Nat):Qc:=st c b s k (F c b s k) (G c b s k) (K1 c b s k)
abbrev Qad (s:Nat):Int:=gtd 0 (JZ c) s
def aQ (ks:Nat→Nat) (s:Nat):Qn:=(Qad c s,(List.range' (rc c b (s+1) (ks (s+1))) (sc c b s (ks s)-rc c b (s+1) (ks (s+1)))).map fun j:Nat=>((j:Int),inS c b (s+1) j))
def bQ (ks:Nat→Nat) (s:Nat):Qn:=(Qad c s,(List.range' (rg c b s (ks s)) (sg c b (s+1) (ks (s+1))-rg c b s (ks s))).map fun j:Nat=>((j:Int),doS c b (s+1) j))
def QW (ks:Nat→Nat):Qk :=
 (b,(List.range (nSt c)).map (fun s=>stAt c b s (ks s)),(List.range (nSt c-1)).map (aQ c b ks),(List.range (nSt c-1)).map (bQ c b ks))
end
section
variable {c:Qo} {b:List Qi} (A:Adm c b)
include A
theorem JV:1≤nSt c∧nSt c≤4:=by have:=A.stages;simp only [nSt];omega
theorem QDH {s:Nat} (hs:s<nSt c):QcL (cDs c) (nSt c:Nat) b.length s (YP c s) (YJ c b s) 0 0 0=true:=by
 have h1:=JV A
 have h2:=QbE A
 exact QQG (YP c s) A.ds.1 A.ds.2 (by omega) (by omega) (by omega) (by omega) (by omega)
theorem loc {s k:Nat} (hs:s<nSt c) (hk:k<lenP c b s):Loc (cDs c) (nSt c:Nat) b.length s (YP c s) (F c b s k) (G c b s k) (K1 c b s k) (insP c b s k) (decide (k+1=lenP c b s)):=by
 have h:=(Qng _ _ _ _ (QDH A hs) k (Nat.le_of_lt hk)).1 (insP c b s k) (Js hk dIns)
 have e:(if k=0 then (0:Int) else Jd (YJ c b s) k)=K1 c b s k:=by
  unfold K1 Jd;split <;> rfl
 rw [e,Nat.zero_add,Nat.zero_add] at h
 exact QJR h
theorem Qjz {s:Nat} (hs:s<nSt c):F c b s (lenP c b s)=b.length∧G c b s (lenP c b s)=b.length∧K1 c b s (lenP c b s)=8:=by
 have h:=(Qng _ _ _ _ (QDH A hs) (lenP c b s) (Nat.le_refl _)).2 rfl
 have e:(if lenP c b s=0 then (0:Int) else Jd (YJ c b s) (lenP c b s))=K1 c b s (lenP c b s):=by
  unfold K1 Jd;split <;> rfl
 rw [e,Nat.zero_add,Nat.zero_add] at h
 simp only [Qo8,decide_eq_true_eq] at h
 unfold F G
 exact ⟨by omega,by omega,h.2.2⟩
theorem nums {s k:Nat} (hs:s<nSt c) (hk:k≤lenP c b s):Nums b.length (F c b s k) (G c b s k) (K1 c b s k):=by
 by_cases h:k<lenP c b s
 ·have L:=loc A hs h
  exact ⟨L.c0.1,by have:=L.c0.2.1;omega,fun e=>by have:=L.c21 e;omega,L.c16,L.c20,L.c15⟩
 ·have:k=lenP c b s:=by omega
  subst this
  obtain ⟨h1,h2,h3⟩:=Qjz A hs
  rw [h1,h2,h3]
  exact ⟨Nat.le_refl _,Nat.le_refl _,(fun e=>by simp at e),(fun e=>by simp at e),(fun e=>by simp at e),(fun e=>by simp at e)⟩
omit A in
theorem QtT {s k:Nat} (hk:k<lenP c b s):F c b s (k+1)=F c b s k+kf (insP c b s k)∧G c b s (k+1)=G c b s k+kg (insP c b s k)∧K1 c b s (k+1)=(insP c b s k).1:=by
 have h:(YJ c b s)[k]? = some (insP c b s k):=Js hk dIns
 have ht:(YJ c b s).take (k+1)=(YJ c b s).take k++[insP c b s k]:=by rw [List.take_add_one,h];rfl
 refine ⟨?_,?_,?_⟩
 ·unfold F cf;rw [ht];simp
 ·unfold G cg;rw [ht];simp
 ·unfold K1 Jd;rw [if_neg (by omega)];rfl
theorem Qaa {s:Nat} (hs:s<nSt c):sc c b s (lenP c b s)=b.length∧rc c b s (lenP c b s)=b.length∧rg c b s (lenP c b s)=b.length∧sg c b s (lenP c b s)=b.length:=by
 obtain ⟨h1,h2,h3⟩:=Qjz A hs
 unfold sc rc rg sg
 rw [h1,h2,h3]
 exact ⟨rfl,rfl,rfl,rfl⟩
theorem Qvw {s k:Nat} (hs:s<nSt c) (hk:k<lenP c b s) :
  (s+1<nSt c→sc c b s (k+1)=sc c b s k+if (insP c b s k).1=3 then 1 else 0) ∧
  (0<s→rc c b s (k+1)=rc c b s k+if (insP c b s k).1=1 then 1 else 0) ∧
  (s+1<nSt c→rg c b s (k+1)=rg c b s k+if (insP c b s k).1=4 then 1 else 0) ∧
  (0<s→sg c b s (k+1)=sg c b s k+if (insP c b s k).1=7 then 1 else 0):=by
 have L:=loc A hs hk
 obtain ⟨e1,e2,e3⟩:=QtT (c:=c) (b:=b) hk
 unfold sc rc rg sg
 rw [e1,e2,e3]
 generalize F c b s k=f at *
 generalize G c b s k=g at *
 generalize K1 c b s k=k1 at *
 generalize insP c b s k=i at *
 have hi:=L.c0
 have h6:i.1=6→(s:Int)<(nSt c:Nat)-1→k1=4∨k1=5:=fun e hlt=>by
  have h:=L.c6 e
  cases hr:YP c s with
  | true=>exact .inr (h.2.2.1 hr)
  | false=>exact .inl (h.2.2.2 hr hlt)
 have h1:=L.c1;have h2:=L.c2;have h3:=L.c3;have h4:=L.c4;have h5:=L.c5;have h7:=L.c7;have h9:=L.c9;have h10:=L.c10;have h11:=L.c11;have h12:=L.c12;have h13:=L.c13;have h15:=L.c15;have h16:=L.c16;have h18:=L.c18
 obtain ⟨i1,i2⟩:=i
 simp only at hi h1 h2 h3 h4 h5 h6 h7 h9 h10 h11 h12 h13
 unfold scOf rcOf rgOf sgQ kf kg
 simp only
 have hcase:i1=1∨i1=2∨i1=3∨i1=4∨i1=5∨i1=6∨i1=7∨i1=8:=by omega
 rcases hcase with rfl | rfl | rfl | rfl | rfl | rfl | rfl | rfl <;> simp at h1 h2 h3 h4 h5 h6 h7 h9 h10 h11 h12 h13 ⊢ <;> (refine ⟨?_,?_,?_,?_⟩ <;> intro hh <;> (repeat' split) <;> omega)
structure Ok (c:Qo) (b:List Qi) (ks:Nat→Nat):Prop where
 le:∀ s,s<nSt c→ks s≤lenP c b s
 qa:∀ s,s+1<nSt c→rc c b (s+1) (ks (s+1))≤sc c b s (ks s)∧(sc c b s (ks s):Int)-rc c b (s+1) (ks (s+1))≤Qad c s
 qb:∀ s,s+1<nSt c→rg c b s (ks s)≤sg c b (s+1) (ks (s+1))∧(sg c b (s+1) (ks (s+1)):Int)-rg c b s (ks s)≤Qad c s
 fl:(∃ s,s<nSt c∧ks s=lenP c b s)→∀ s,s<nSt c→lenP c b s≤ks s+1
def En (c:Qo) (b:List Qi) (ks:Nat→Nat) (s:Nat):Prop :=
 ks s<lenP c b s ∧
 ((insP c b s (ks s)).1=1→rc c b s (ks s)<sc c b (s-1) (ks (s-1))) ∧
 ((insP c b s (ks s)).1=3→(sc c b s (ks s):Int)-rc c b (s+1) (ks (s+1))<Qad c s) ∧
 ((insP c b s (ks s)).1=4→rg c b s (ks s)<sg c b (s+1) (ks (s+1))) ∧
 ((insP c b s (ks s)).1=7→(sg c b s (ks s):Int)-rg c b (s-1) (ks (s-1))<Qad c (s-1)) ∧
 ((insP c b s (ks s)).1=8→∀ j,j<nSt c→lenP c b j≤ks j+1)
theorem QaJ {s:Nat} (hs:s+1<nSt c):1≤Qad c s∧Qad c s≤5:=by
 have:=A.caps
 simp only [YN,Bool.and_eq_true,beq_iff_eq] at this
 have hl:s<(JZ c).length:=by simp only [nSt] at hs;have:=this.1;simp only [JZ,Zj] at *;omega
 have:=List.all_eq_true.1 this.2 _ (JP hl 0)
 exact QR.1 this
theorem Qis:(JZ c).length=nSt c-1:=by
 have:=A.caps
 simp only [YN,Bool.and_eq_true,beq_iff_eq] at this
 have:=this.1;simp only [nSt,JZ,Zj] at *;omega
omit A in
theorem QL0 (n:Nat) (P:Nat→Prop) (t:Nat→Int) (h:∃ s,s<n∧P s):∃ s,s<n∧P s∧∀ j,j<n→P j→t s≤t j:=by
 induction n with
 | zero=>obtain ⟨s,h,_⟩:=h;omega
 | succ n ih =>
  by_cases h1:∃ s,s<n∧P s
  ·obtain ⟨s,hs,hp,hm⟩:=ih h1
   by_cases h2:P n∧t n<t s
   ·refine ⟨n,by omega,h2.1,fun j hj hpj=>?_⟩
    by_cases h3:j=n
    ·subst h3;omega
    ·have:=hm j (by omega) hpj;omega
   ·refine ⟨s,by omega,hp,fun j hj hpj=>?_⟩
    by_cases h3:j=n
    ·subst h3
     have:¬ t j<t s:=fun h=>h2 ⟨hpj,h⟩
     omega
    ·exact hm j (by omega) hpj
  ·obtain ⟨s,hs,hp⟩:=h
   have:s=n:=by
    apply Classical.byContradiction;intro hne
    exact h1 ⟨s,by omega,hp⟩
   subst this
   refine ⟨s,by omega,hp,fun j hj hpj=>?_⟩
   by_cases h3:j=s
   ·subst h3;omega
   ·exact absurd ⟨j,by omega,hpj⟩ h1
set_option maxHeartbeats 1000000 in
theorem QHn {ks:Nat→Nat} (V:Ok c b ks) (h:∃ s,s<nSt c∧ks s<lenP c b s):∃ s,s<nSt c∧En c b ks s:=by
 obtain ⟨s,hs,hk,hmin⟩:=QL0 (nSt c) (fun s=>ks s<lenP c b s) (fun s=>tm (cDs c) (nSt c:Nat) b.length s (insP c b s (ks s))) h
 have L:=loc A hs hk
 refine ⟨s,hs,hk,fun hi=>?_,fun hi=>?_,fun hi=>?_,fun hi=>?_,fun hi=>?_⟩
 ·obtain ⟨h0,h1,h2⟩:=L.c1 hi
  have h0:0<s:=by omega
  have hq:=(V.qa (s-1) (by omega)).1
  rw [show s-1+1=s by omega] at hq
  apply Classical.byContradiction
  intro hn
  have hrc:rc c b s (ks s)=F c b s (ks s):=by unfold rc rcOf;rw [if_neg h2]
  have hlt:(F c b s (ks s):Int)<b.length:=by have:=L.c0;omega
  by_cases hj:ks (s-1)<lenP c b (s-1)
  ·have L':=loc A (s:=s-1) (by omega) hj
   have h3:=L'.c22 (by omega) (by show ((sc c b (s-1) (ks (s-1)):Nat):Int)<_;omega)
   have h4:=hmin (s-1) (by omega) hj
   have e1:(scOf (F c b (s-1) (ks (s-1))) (K1 c b (s-1) (ks (s-1))))=F c b s (ks s):=by show sc c b (s-1) (ks (s-1))=_;omega
   rw [e1] at h3
   simp only [tm,hi,h1] at h3 h4
   simp at h3 h4
   omega
  ·have:=V.le (s-1) (by omega)
   rw [show ks (s-1)=lenP c b (s-1) by omega,(Qaa A (by omega)).1] at hn
   omega
 ·obtain ⟨h0,h1,h2⟩:=L.c3 hi
  have hq:=(V.qa s (by omega)).1
  have hcap:=QaJ A (s:=s) (by omega)
  apply Classical.byContradiction
  intro hn
  have h16:=L.c16 h2
  have hsc:sc c b s (ks s)=F c b s (ks s)-1:=by unfold sc scOf;rw [if_pos h2]
  have hfM:(F c b s (ks s):Int)≤b.length:=L.c0.2.1
  by_cases hj:ks (s+1)<lenP c b (s+1)
  ·have L':=loc A (s:=s+1) (by omega) hj
   have e1:(rcOf (F c b (s+1) (ks (s+1))) (K1 c b (s+1) (ks (s+1))))=rc c b (s+1) (ks (s+1)):=rfl
   have h3:=L'.c23 (by omega) (by rw [e1];omega)
   have h4:=hmin (s+1) (by omega) hj
   rw [e1] at h3
   simp only [tm,hi,h1] at h3 h4
   simp at h3 h4
   omega
  ·have:=V.le (s+1) (by omega)
   rw [show ks (s+1)=lenP c b (s+1) by omega,(Qaa A (by omega)).2.1] at hn
   omega
 ·obtain ⟨h0,h1⟩:=L.c4 hi
  have hq:=(V.qb s (by omega)).1
  apply Classical.byContradiction
  intro hn
  have h2:¬ (K1 c b s (ks s)=4∨(K1 c b s (ks s)=5∧(s:Int)<(nSt c:Nat)-1)):=by
   rintro (h | h)
   ·have:=L.c11 h;omega
   ·have:=L.c12 h.1;omega
  have hrg:rg c b s (ks s)=G c b s (ks s):=by unfold rg rgOf;rw [if_neg h2]
  have hlt:(G c b s (ks s):Int)<b.length:=by have:=L.c0;omega
  by_cases hj:ks (s+1)<lenP c b (s+1)
  ·have L':=loc A (s:=s+1) (by omega) hj
   have h3:=L'.c25 (by omega) (by show ((sg c b (s+1) (ks (s+1)):Nat):Int)<_;omega)
   have h4:=hmin (s+1) (by omega) hj
   have e1:(sgQ (G c b (s+1) (ks (s+1))) (K1 c b (s+1) (ks (s+1))))=G c b s (ks s):=by show sg c b (s+1) (ks (s+1))=_;omega
   rw [e1] at h3
   simp only [tm,hi,h1] at h3 h4
   simp at h3 h4
   split at h3 <;> simp_all <;> omega
  ·have:=V.le (s+1) (by omega)
   rw [show ks (s+1)=lenP c b (s+1) by omega,(Qaa A (by omega)).2.2.2] at hn
   omega
 ·obtain ⟨h0,h1,h2⟩:=L.c7 hi
  have h0:0<s:=by omega
  have hq:=(V.qb (s-1) (by omega)).1
  rw [show s-1+1=s by omega] at hq
  have hcap:=QaJ A (s:=s-1) (by omega)
  apply Classical.byContradiction
  intro hn
  have h15:=L.c15 h2
  have hsg:sg c b s (ks s)=G c b s (ks s)-1:=by unfold sg sgQ;rw [if_pos h2]
  have hfM:(G c b s (ks s):Int)≤b.length:=by have:=L.c0;omega
  by_cases hj:ks (s-1)<lenP c b (s-1)
  ·have L':=loc A (s:=s-1) (by omega) hj
   have e1:(rgOf (nSt c:Nat) ((s-1:Nat):Int) (G c b (s-1) (ks (s-1))) (K1 c b (s-1) (ks (s-1))))=rg c b (s-1) (ks (s-1)):=rfl
   have h3:=L'.c24 (by omega) (by rw [e1];omega)
   have h4:=hmin (s-1) (by omega) hj
   rw [e1] at h3
   simp only [tm,hi,h1] at h3 h4
   simp at h3 h4
   split at h3 <;> simp_all <;> omega
  ·have:=V.le (s-1) (by omega)
   rw [show ks (s-1)=lenP c b (s-1) by omega,(Qaa A (by omega)).2.2.1] at hn
   omega
 ·intro j hj
  apply Classical.byContradiction
  intro hn
  have hj':ks j<lenP c b j:=by omega
  have L':=loc A hj hj'
  have h4:=hmin j hj hj'
  have h5:(insP c b j (ks j)).1≠8:=fun e=>by have:=L'.c0.2.2.2.2.2.2.1.1 e;simp at this;omega
  have h6:=L'.c0
  have hn4:=JV A
  have hb5:=QbE A
  generalize insP c b j (ks j)=i' at *
  generalize insP c b s (ks s)=i at *
  have:tm (cDs c) (nSt c:Nat) b.length s i=1000000:=by unfold tm;simp [hi]
  rw [this] at h4
  unfold tm at h4
  simp only at h4
  repeat' split at h4
  all_goals omega
end
end Go.Proofs.YtjbdljkhbglnhaaGreat.Am

