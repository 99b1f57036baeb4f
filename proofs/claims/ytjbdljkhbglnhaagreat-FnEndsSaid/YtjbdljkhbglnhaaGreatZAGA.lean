/- -/
import Derived.Test.YtjbdljkhbglnhaaGreatZAG8
set_option linter.all false
namespace Go.Proofs.YtjbdljkhbglnhaaGreat.Am
open Go Sz
def Zh (m:Q5) (cuts:List Int) (s:Nat):Nat:=if s=0 then 0 else if s≤cuts.length then (gtd 0 cuts (s-1)).toNat else m.length
def Z9 (m:Q5) (cuts:List Int) (s:Nat):List TOp':=(m.drop (Zh m cuts s)).take (Zh m cuts (s+1)-Zh m cuts s)
section
variable {m:Q5} {cuts:List Int} (hc:Q7 m cuts=true)
include hc
theorem Qio {s:Nat} (hs:s≤cuts.length):Zh m cuts s<Zh m cuts (s+1):=by
 have hl:=Qap hc
 have hg:ZU (m.length-1) none cuts=true:=by have:=hc;simp only [Q7,Bool.and_eq_true] at this;exact this.2
 have h1:∀ k:Nat,k<cuts.length→1≤gtd 0 cuts k∧gtd 0 cuts k≤(m.length:Int)-1:=fun k hk=>by
  have:=QcR hg k _ (Jh hk 0);omega
 have h2:∀ k:Nat,k+1<cuts.length→gtd 0 cuts k<gtd 0 cuts (k+1):=fun k hk=>Qol hg k _ _ (Jh (by omega) 0) (Jh hk 0)
 unfold Zh
 rw [if_neg (Nat.succ_ne_zero s)]
 by_cases h0:s=0
 ·subst h0
  rw [if_pos rfl]
  split
  ·have:=h1 0 (by omega);simp;omega
  ·omega
 ·rw [if_neg h0,if_pos hs]
  have h3:=h1 (s-1) (by omega)
  split
  ·have h4:=h2 (s-1) (by omega)
   rw [show s-1+1=s by omega] at h4
   rw [show s+1-1=s by omega]
   omega
  ·omega
theorem QxX {s:Nat}:Zh m cuts s≤m.length:=by
 have hl:=Qap hc
 have hg:ZU (m.length-1) none cuts=true:=by have:=hc;simp only [Q7,Bool.and_eq_true] at this;exact this.2
 unfold Zh
 split
 ·omega
 ·split
  ·have:=QcR hg (s-1) _ (Jh (by omega) 0);omega
  ·omega
theorem Qcm:Zh m cuts (cuts.length+1)=m.length:=by have _:=hc;unfold Zh;rw [if_neg (by omega),if_neg (by omega)]
theorem QLg {s:Nat} (hs:s≤cuts.length):Qr m cuts (s:Int)=((Zh m cuts s:Int),(Zh m cuts (s+1):Int)):=by
 have hl:=Qap hc
 have hg:ZU (m.length-1) none cuts=true:=by have:=hc;simp only [Q7,Bool.and_eq_true] at this;exact this.2
 have h1:∀ k:Nat,k<cuts.length→1≤gtd 0 cuts k∧gtd 0 cuts k≤(m.length:Int)-1:=fun k hk=>by
  have:=QcR hg k _ (Jh hk 0);omega
 unfold Qr
 rw [if_pos (by rw [hc,Bool.true_and,QR];omega)]
 unfold Zh
 refine Prod.ext ?_ ?_
 ·dsimp only
  by_cases h0:s=0
  ·subst h0;simp
  ·rw [if_pos (by omega),if_neg h0,if_pos hs,Int.toNat_natCast]
   have:=h1 (s-1) (by omega);omega
 ·dsimp only
  rw [if_neg (Nat.succ_ne_zero s)]
  by_cases h2:s<cuts.length
  ·rw [if_pos (by omega),if_pos (by omega),Int.toNat_natCast,show s+1-1=s by omega]
   have:=h1 s h2;omega
  ·rw [if_neg (by omega),if_neg (by omega)]
theorem QIK {s:Nat} (hs:s≤cuts.length):slice m (Qr m cuts (s:Int)).1 (Qr m cuts (s:Int)).2=Z9 m cuts s:=by
 rw [QLg hc hs];simp [slice,Z9]
theorem QEz {s:Nat} (hs:s≤cuts.length):(Z9 m cuts s).length=Zh m cuts (s+1)-Zh m cuts s:=by
 have:=QxX hc (s:=s+1)
 have:=Qio hc hs
 unfold Z9;simp;omega
theorem Qf3 {s:Nat} (hs:s≤cuts.length):1≤(Z9 m cuts s).length∧(Z9 m cuts s).length≤8:=by
 rw [QEz hc hs]
 have:=QxX hc (s:=s+1)
 have:=Qio hc hs
 have:=(Qap hc).2.1
 omega
theorem QQ8 {s:Nat} (hs:s≤cuts.length):m.take (Zh m cuts (s+1))=m.take (Zh m cuts s)++Z9 m cuts s:=by
 have:=Qio hc hs
 unfold Z9
 rw [← List.take_add,show Zh m cuts s+(Zh m cuts (s+1)-Zh m cuts s)=Zh m cuts (s+1) by omega]
theorem Qd8 {s:Nat} (hs:s≤cuts.length):m.drop (Zh m cuts s)=Z9 m cuts s++m.drop (Zh m cuts (s+1)):=by
 have:=Qio hc hs
 unfold Z9
 have h:=List.take_append_drop (Zh m cuts (s+1)-Zh m cuts s) (m.drop (Zh m cuts s))
 rw [List.drop_drop,show Zh m cuts s+(Zh m cuts (s+1)-Zh m cuts s)=Zh m cuts (s+1) by omega] at h
 exact h.symm
end
def inp (m:Q5) (cuts:List Int) (x:List Int) (s:Nat):List Int:=ZK (m.take (Zh m cuts s)) x
def QbA (m:Q5) (cuts:List Int) (x:List Int) (s:Nat):List (List Int):=(Qx (Z9 m cuts s) (inp m cuts x s)).1
def fsat (m:Q5) (cuts:List Int) (x:List Int) (s:Nat):Bool:=(Qx (Z9 m cuts s) (inp m cuts x s)).2
def JP (m:Q5) (cuts:List Int) (p:Qj) (s:Nat):List (List Int) × List Int × Bool :=
 QJ (m.drop (Zh m cuts s)) (Qx (m.drop (Zh m cuts s)) (inp m cuts p.1 s)).1 (Zt (ZK m p.1) p.2).1
def dOut (m:Q5) (cuts:List Int) (p:Qj) (s:Nat):List Int:=(JP m cuts p s).2.1
def Qab (m:Q5) (cuts:List Int) (p:Qj) (s:Nat):List (List Int) × List Int × Bool:=QJ (Z9 m cuts s) (QbA m cuts p.1 s) (dOut m cuts p (s+1))
section
variable {m:Q5} {cuts:List Int} (hc:Q7 m cuts=true)
include hc
theorem Qpk (x:List Int):inp m cuts x 0=x:=by have _:=hc;unfold inp Zh;simp [Qgs]
theorem QgJ (x:List Int):inp m cuts x (cuts.length+1)=ZK m x:=by unfold inp;rw [Qcm hc,List.take_length]
theorem QmV {s:Nat} (hs:s≤cuts.length) (x:List Int):inp m cuts x (s+1)=ZK (Z9 m cuts s) (inp m cuts x s):=by
 unfold inp;rw [QQ8 hc hs,QGf]
theorem Qwg {s:Nat} (hs:s≤cuts.length) (p:Qj) :
  JP m cuts p s=((Qab m cuts p s).1++(JP m cuts p (s+1)).1,(Qab m cuts p s).2.1,(Qab m cuts p s).2.2||(JP m cuts p (s+1)).2.2):=by
 unfold Qab QbA dOut
 have e:=QmV hc hs p.1
 conv=>lhs;unfold JP
 rw [Qd8 hc hs,QRy]
 unfold JP
 rw [e]
theorem QD7 {s:Nat} (hs:s≤cuts.length) (p:Qj):dOut m cuts p s=(Qab m cuts p s).2.1:=by unfold dOut;rw [Qwg hc hs]
theorem QBX (p:Qj):dOut m cuts p (cuts.length+1)=(Zt (ZK m p.1) p.2).1:=by
 unfold dOut JP
 rw [Qcm hc,List.drop_length]
 simp [QJ]
theorem QuY (p:Qj):∀ (k s:Nat),s+k=cuts.length+1 →
  (JP m cuts p s).1=(List.range' s k).flatMap (fun j=>(Qab m cuts p j).1)∧(JP m cuts p s).2.2=(List.range' s k).any (fun j=>(Qab m cuts p j).2.2)
 | 0,s,h=>by
  have:s=cuts.length+1:=by omega
  subst this
  unfold JP
  rw [Qcm hc,List.drop_length]
  simp [QJ]
 | k+1,s,h=>by
  have ih:=QuY p k (s+1) (by omega)
  rw [Qwg hc (by omega)]
  simp only [List.range'_succ,List.flatMap_cons,List.any_cons,ih.1,ih.2,and_self]
theorem Qx9 (x:List Int):∀ (k s:Nat),s+k=cuts.length+1→(Qx (m.drop (Zh m cuts s)) (inp m cuts x s)).2=(List.range' s k).any (fun j=>fsat m cuts x j)
 | 0,s,h=>by
  have:s=cuts.length+1:=by omega
  subst this
  rw [Qcm hc,List.drop_length]
  rfl
 | k+1,s,h=>by
  have ih:=Qx9 x k (s+1) (by omega)
  rw [Qd8 hc (by omega),Qj3]
  simp only [List.range'_succ,List.any_cons]
  rw [← QmV hc (by omega),ih]
  rfl
end
end Go.Proofs.YtjbdljkhbglnhaaGreat.Am
namespace Go.Proofs.YtjbdljkhbglnhaaGreat.Am
open Go Sz
structure Adm (c:Qo) (b:List Qj):Prop where
 model:QN (Q0 c)=true
 batch:ZQ (Q0 c) b=true
 cuts:Q7 (Q0 c) (Q8 c)=true
 stages:(Q8 c).length+1≤4
 ds:1≤cDs c∧cDs c≤2
 redo:(J4 c).length=(Q8 c).length+1
 caps:Yx c=true
 limits:YT c b.length=true
theorem QjD {c:Qo} {b:List Qj} (h:Zq c b=0):Adm c b:=by
 unfold Zq at h
 have hs:=QbY (c:=c)
 split at h
 ·simp at h
 split at h
 ·simp at h
 split at h
 ·simp at h
 split at h
 ·simp at h
 split at h
 ·simp at h
 split at h
 ·simp at h
 split at h
 ·simp at h
 rename_i h1 h2 h3 h4 h5 h6 h7
 have hc:=hs.2.2.1.1 (by omega)
 have e:=hs.2.2.2 hc
 have h4':m_in (cDs c) 1 2=true:=by simpa using h4
 exact ⟨by simpa using h1,by simpa using h2,hc,by have:=e;simp only [Q8];omega,QR.1 h4',by have:=e;simp only [Q8,J4];omega,by simpa using h6,by simpa using h7⟩
theorem QMT {c:Qo} {b:List Qj} (A:Adm c b):Zq c b=0:=by
 have hs:=QbY (c:=c)
 have e:=hs.2.2.2 A.cuts
 have h4:=A.stages
 have hr:=A.redo
 simp only [Q8,J4] at h4 hr
 unfold Zq
 rw [if_neg (by simp [A.model]),if_neg (by simp [A.batch]),if_neg (by omega),if_neg (by have:=QR.2 A.ds;simp [this]),if_neg (by simp;omega),if_neg (by simp [A.caps]),if_neg (by simp [A.limits])]
def nSt (c:Qo):Nat:=(Q8 c).length+1
abbrev prAt (b:List Qj) (k:Nat):Qj:=gtd Zm b k
def dimI (m:Q5) (cuts:List Int) (s:Nat):Int:=if s≤cuts.length then QZ (Z9 m cuts s) else Q3 m
section
variable {m:Q5} {cuts:List Int} (hc:Q7 m cuts=true)
include hc
theorem QEA:QN m=true:=by have:=hc;simp only [Q7,Bool.and_eq_true] at this;exact this.1
theorem Qgv {s:Nat} (hs:s≤cuts.length+1):Z0 (QZ m) (m.take (Zh m cuts s)) (dimI m cuts s)∧Z0 (dimI m cuts s) (m.drop (Zh m cuts s)) (Q3 m):=by
 obtain ⟨_,_,h⟩:=QQJ (QEA hc)
 have h':=h
 rw [← List.take_append_drop (Zh m cuts s) m] at h'
 have h'':Z0 (QZ m) (m.take (Zh m cuts s)++m.drop (Zh m cuts s)) (Q3 m):=by rw [List.take_append_drop];exact h
 obtain ⟨k,h1,h2⟩:=Z0.append.1 h''
 have hk:k=dimI m cuts s:=by
  unfold dimI
  by_cases h3:s≤cuts.length
  ·rw [if_pos h3]
   rw [Qd8 hc h3] at h2
   obtain ⟨k2,h4,h5⟩:=Z0.append.1 h2
   have hp:=Qf3 hc h3
   exact (Qgj h4 hp.1 hp.2).2.1.symm
  ·have es:s=cuts.length+1:=by omega
   subst es
   rw [Qcm hc,List.drop_length] at h2
   rw [if_neg h3]
   exact h2
 rw [← hk]
 exact ⟨h1,h2⟩
theorem QjN {s:Nat} (hs:s≤cuts.length):Z0 (dimI m cuts s) (Z9 m cuts s) (dimI m cuts (s+1)):=by
 obtain ⟨_,h2⟩:=Qgv hc (s:=s) (by omega)
 rw [Qd8 hc hs] at h2
 obtain ⟨k2,h4,h5⟩:=Z0.append.1 h2
 have:k2=dimI m cuts (s+1):=by
  obtain ⟨h6,h7⟩:=Qgv hc (s:=s+1) (by omega)
  by_cases h8:s+1≤cuts.length
  ·have hp:=Qf3 hc h8
   rw [Qd8 hc h8] at h5
   obtain ⟨k3,h9,_⟩:=Z0.append.1 h5
   unfold dimI
   rw [if_pos h8]
   exact (Qgj h9 hp.1 hp.2).2.1.symm
  ·rw [show s+1=cuts.length+1 by omega,Qcm hc,List.drop_length] at h5
   unfold dimI
   rw [if_neg h8]
   exact h5
 rw [← this]
 exact h4
theorem QCL {s:Nat} (hs:s≤cuts.length):QN (Z9 m cuts s)=true∧QZ (Z9 m cuts s)=dimI m cuts s∧Q3 (Z9 m cuts s)=dimI m cuts (s+1):=by
 have hp:=Qf3 hc hs
 exact Qgj (QjN hc hs) hp.1 hp.2
theorem Qq0:dimI m cuts (cuts.length+1)=Q3 m:=by have _:=hc;unfold dimI;rw [if_neg (by omega)]
variable {p:Qj} (hp:Y5 m p=true)
include hp
theorem Qk7:Qs p.1 (QZ m)=true∧Qs p.2 (Q3 m)=true:=by
 have _:=hc
 simp only [Y5,Bool.and_eq_true] at hp;exact ⟨hp.1.2,hp.2⟩
theorem Qfh {s:Nat} (hs:s≤cuts.length+1):Qs (inp m cuts p.1 s) (dimI m cuts s)=true:=Qu6 (Qgv hc hs).1 (Qk7 hc hp).1
theorem QJ7:Qs (ZK m p.1) (Q3 m)=true:=by
 have:=Qfh hc hp (s:=cuts.length+1) (by omega)
 rwa [QgJ hc,Qq0 hc] at this
theorem QLe:Qs (Zt (ZK m p.1) p.2).1 (Q3 m)=true:=by
 have h1:=QJ7 hc hp
 have h2:=(Qk7 hc hp).2
 have:=QOR (Ql0 h1 h2)
 rwa [(YK.1 h1).2] at this
theorem Qx6 {s:Nat} (hs:s≤cuts.length+1):Qs (dOut m cuts p s) (dimI m cuts s)=true:=(Qnu (Qgv hc hs).2 (Qfh hc hp hs) (QLe hc hp)).1
theorem QQK {s:Nat} (hs:s≤cuts.length):Z6 (Z9 m cuts s) (Qab m cuts p s).1=true∧(Qab m cuts p s).1.length=(Z9 m cuts s).length :=
 ⟨(Qnu (QjN hc hs) (Qfh hc hp (by omega)) (Qx6 hc hp (by omega))).2,QkY _ _ _ (by unfold QbA;rw [Qdj];omega)⟩
theorem QpC {s:Nat} (hs:s≤cuts.length):Jc (Z9 m cuts s) 0 (QbA m cuts p.1 s)=true :=
 QQw (QjN hc hs) (by have:=Qf3 hc hs;intro e;rw [e] at this;simp at this) (Qfh hc hp (by omega))
theorem QmQ {s:Nat}:(QbA m cuts p.1 s).length=(Z9 m cuts s).length+1:=by have _:=hc;have _:=hp;exact Qdj _ _
theorem QFg {s:Nat}:gtd [] (QbA m cuts p.1 s) 0=inp m cuts p.1 s:=by have _:=hc;have _:=hp;exact QIa _ _
theorem Qop {s:Nat} (hs:s≤cuts.length):gtd [] (QbA m cuts p.1 s) (Z9 m cuts s).length=inp m cuts p.1 (s+1):=by have _:=hp;rw [QmV hc hs];rfl
end
end Go.Proofs.YtjbdljkhbglnhaaGreat.Am
namespace Go.Proofs.YtjbdljkhbglnhaaGreat.Am
open Go Sz
section
variable (c:Qo) (b:List Qj)
def YB (s:Nat):Bool:=gtd false (J4 c) s
def Yy (s:Nat):List TIns:=ZZ (cDs c) (nSt c:Nat) s b.length (YB c s)
abbrev opS (s:Nat):List TOp':=Z9 (Q0 c) (Q8 c) s
abbrev inS (s j:Nat):List Int:=inp (Q0 c) (Q8 c) (prAt b j).1 s
abbrev rowS (s j:Nat):List (List Int):=QbA (Q0 c) (Q8 c) (prAt b j).1 s
abbrev doS (s j:Nat):List Int:=dOut (Q0 c) (Q8 c) (prAt b j) s
abbrev bkS (s j:Nat):=Qab (Q0 c) (Q8 c) (prAt b j) s
abbrev outA (j:Nat):List Int:=ZK (Q0 c) (prAt b j).1
def Q2 (s:Nat):Bool:=decide (s+1=nSt c)
def QaW (s:Nat) (r:List (List Int)):List (List Int):=if YB c s then r.take 1 else r
def Jo (s:Nat):Nat→List (List Int)
 | 0=>(ZO (opS c s)).1
 | g+1=>(Zf (Jo s g) (bkS c b s g).1).1
def YO:Nat→Int
 | 0=>0
 | f+1=>(Zk (YO f) (Yh (outA c b f) (prAt b f).2).1).1
def lsat (f:Nat):Bool:=(Yh (outA c b f) (prAt b f).2).2||(Zk (YO c b f) (Yh (outA c b f) (prAt b f).2).1).2
def Qdq (s j:Nat):Bool:=fsat (Q0 c) (Q8 c) (prAt b j).1 s||(Q2 c s&&lsat c b j)
def Qfr (s j:Nat):Bool:=(bkS c b s j).2.2||(Zf (Jo c b s j) (bkS c b s j).1).2||(Q2 c s&&(Zt (outA c b j) (prAt b j).2).2)
def satV (s f g:Nat):Bool:=(List.range f).any (Qdq c b s)||(List.range g).any (Qfr c b s)
def Yj (s f g:Nat):List Yg:=(List.range' g (f-g)).map fun j:Nat=>((j:Int),QaW c s (rowS c b s j))
def JI (s g:Nat) (k1:Int):List (List Int):=if k1=5 then rowS c b s g else []
def vX (s f:Nat) (k1:Int):List Int:=if k1=1 then inS c b s f else []
def vY (s f:Nat) (k1:Int):List Int:=if k1=2∧s+1<nSt c then inS c b (s+1) (f-1) else []
def vG (s g:Nat) (k1:Int):List Int:=if k1=4∨(k1=5∧s+1<nSt c) then doS c b (s+1) g else []
def vD (s g:Nat) (k1:Int):List Int:=if k1=6∧0<s then doS c b s (g-1) else []
def st (s:Nat) (k f g:Nat) (k1:Int):Qc :=
 ((k:Int),Yy c b s,opS c s,Q2 c s,YB c s,Yj c b s f g,JI c b s g k1,vX c b s f k1,vY c b s f k1,vG c b s g k1,vD c b s g k1,Jo c b s g,(if Q2 c s then YO c b f else 0),satV c b s f g)
end
structure Nums (M f g:Nat) (kk:Int):Prop where
 gf:g≤f
 fM:f≤M
 k1:kk=1→f<M
 k2:kk=2→1≤f
 k45:kk=4∨kk=5→g<f
 k6:kk=6→1≤g
theorem Qt0:∀ {l:List Yg} {m k:Int},(∀ x,x∈l→x.1≠m)→JW l m k = -1
 | [],m,k,h=>rfl
 | x::r,m,k,h=>by rw [JW,if_neg (h x List.mem_cons_self)];exact Qt0 (fun y hy=>h y (List.mem_cons_of_mem _ hy))
theorem QMp {c:Qo} {b:List Qj} {s f g:Nat}:QS (Yj c b s f g) (f:Int) = -1:=by
 refine Qt0 (fun x hx=>?_)
 unfold Yj at hx
 obtain ⟨j,hj,rfl⟩:=List.mem_map.1 hx
 rw [List.mem_range'_1] at hj
 simp only [ne_eq];omega
theorem Qhl {c:Qo} {b:List Qj} {s f g:Nat} (h:g<f):Yj c b s f g=((g:Int),QaW c s (rowS c b s g))::Yj c b s f (g+1):=by
 unfold Yj
 rw [show f-g=(f-(g+1))+1 by omega,List.range'_succ,List.map_cons]
theorem QAF {c:Qo} {b:List Qj} {s f g:Nat} (h:g≤f):Yj c b s (f+1) g=Yj c b s f g++[((f:Int),QaW c s (rowS c b s f))]:=by
 unfold Yj
 rw [show f+1-g=(f-g)+1 by omega,List.range'_concat,List.map_append]
 simp only [List.map_cons,List.map_nil,Nat.one_mul]
 rw [show g+(f-g)=f by omega]
theorem QvQ {c:Qo} {b:List Qj} {s f g:Nat} (h:g<f):QS (Yj c b s f g) (g:Int)=0:=by
 rw [Qhl h];unfold QS;rw [JW,if_pos rfl]
theorem Qav {c:Qo} {b:List Qj} {s g:Nat} {k1:Int} (h:k1≠5):JI c b s g k1=[]:=by unfold JI;rw [if_neg h]
theorem QaC {c:Qo} {b:List Qj} {s f:Nat} {k1:Int} (h:k1≠1):vX c b s f k1=[]:=by unfold vX;rw [if_neg h]
theorem Qad {c:Qo} {b:List Qj} {s f:Nat} {k1:Int} (h:¬ (k1=2∧s+1<nSt c)):vY c b s f k1=[]:=by unfold vY;rw [if_neg h]
theorem QbD {c:Qo} {b:List Qj} {s g:Nat} {k1:Int} (h4:k1≠4) (h5:k1≠5):vG c b s g k1=[]:=by
 unfold vG;rw [if_neg];rintro (e | e)
 ·exact h4 e
 ·exact h5 e.1
theorem Qai {c:Qo} {b:List Qj} {s g:Nat} {k1:Int} (h:¬ (k1=6∧0<s)):vD c b s g k1=[]:=by unfold vD;rw [if_neg h]
theorem Jw {p:Prop} {x y:Int} (h:x≠y):¬ (x=y∧p):=fun e=>h e.1
theorem QIt {c:Qo} {b:List Qj} {s f:Nat}:vX c b s f 1=inS c b s f:=by unfold vX;rw [if_pos rfl]
theorem QFE {c:Qo} {b:List Qj} {s g:Nat}:vG c b s g 4=doS c b (s+1) g:=by unfold vG;rw [if_pos (.inl rfl)]
section
variable {c:Qo} {b:List Qj} (A:Adm c b)
include A
theorem Qbj:1≤b.length∧b.length≤5:=by
 have:=A.batch;simp only [ZQ,Bool.and_eq_true,QR] at this;omega
theorem QaK {j:Nat} (hj:j<b.length):Y5 (Q0 c) (prAt b j)=true:=by
 have:=A.batch;simp only [ZQ,Bool.and_eq_true] at this
 exact List.all_eq_true.1 this.2 _ (JK hj Zm)
theorem QAK (f:Nat):Q6 (YO c b f)=true:=by
 have _:=A
 cases f with
 | zero=>rfl
 | succ f=>exact Qna _ _
theorem QHa (s f:Nat):Q6 (if Q2 c s then YO c b f else 0)=true:=by
 split
 ·exact QAK A f
 ·rfl
theorem Qdo {s:Nat} (hs:s<nSt c):QN (opS c s)=true∧QZ (opS c s)=dimI (Q0 c) (Q8 c) s∧Q3 (opS c s)=dimI (Q0 c) (Q8 c) (s+1):=QCL A.cuts (by simp only [nSt] at hs;omega)
theorem QMg {s:Nat} (hs:s<nSt c):(ZO (opS c s)).1.length=(opS c s).length∧Z6 (opS c s) (ZO (opS c s)).1=true:=by
 unfold ZO
 rw [if_pos (Qdo A hs).1]
 simp only [List.length_map,true_and]
 generalize opS c s=l
 induction l with
 | nil=>rfl
 | cons o l ih=>simp [Z6,ih]
theorem QoT {s j:Nat} (hs:s<nSt c) (hj:j<b.length):(bkS c b s j).1.length=(opS c s).length∧Z6 (opS c s) (bkS c b s j).1=true:=by
 have:=QQK A.cuts (QaK A hj) (s:=s) (by simp only [nSt] at hs;omega)
 exact ⟨this.2,this.1⟩
theorem Qoi {s:Nat} (hs:s<nSt c):∀ {g:Nat},g≤b.length→(Jo c b s g).length=(opS c s).length∧Z6 (opS c s) (Jo c b s g)=true
 | 0,_=>QMg A hs
 | g+1,hg=>by
  obtain ⟨h1,h2⟩:=Qoi hs (g:=g) (by omega)
  obtain ⟨h3,h4⟩:=QoT A hs (j:=g) (by omega)
  refine ⟨?_,QuA h1 h3 h2 h4⟩
  show (Zf _ _).1.length=_
  rw [Qv7];omega
theorem QeG {s j:Nat} (hs:s≤nSt c) (hj:j<b.length):Qs (inS c b s j) (dimI (Q0 c) (Q8 c) s)=true:=Qfh A.cuts (QaK A hj) hs
theorem Qe4 {s j:Nat} (hs:s≤nSt c) (hj:j<b.length):Qs (doS c b s j) (dimI (Q0 c) (Q8 c) s)=true:=Qx6 A.cuts (QaK A hj) hs
theorem QhF {s k f g:Nat} {k1:Int} (hs:s<nSt c) (hk:k≤(Yy c b s).length) (H:Nums b.length f g k1):Q9 (st c b s k f g k1)=true:=by
 obtain ⟨hm,hi,ho⟩:=Qdo A hs
 have hs':s≤(Q8 c).length:=by simp only [nSt] at hs;omega
 have hsr:=Qoi A hs (g:=g) (by have:=H.gf;have:=H.fM;omega)
 have hX:YU (vX c b s f k1) (QZ (opS c s))=true:=by
  unfold vX YU;split
  ·rename_i h;rw [hi,QeG A (by omega) (H.k1 h)];simp
  ·simp
 have hY:YU (vY c b s f k1) (Q3 (opS c s))=true:=by
  unfold vY YU;split
  ·rename_i h;rw [ho,QeG A (by omega) (by have:=H.k2 h.1;have:=H.fM;omega)];simp
  ·simp
 have hG:YU (vG c b s g k1) (Q3 (opS c s))=true:=by
  unfold vG YU;split
  ·rename_i h
   have:g<f:=H.k45 (h.imp id (fun h=>h.1))
   rw [ho,Qe4 A (by omega) (by have:=H.fM;omega)];simp
  ·simp
 have hD:YU (vD c b s g k1) (QZ (opS c s))=true:=by
  unfold vD YU;split
  ·rename_i h;rw [hi,Qe4 A (by omega) (by have:=H.k6 h.1;have:=H.gf;have:=H.fM;omega)];simp
  ·simp
 have hst:(Yj c b s f g).all (QaF (st c b s k f g k1))=true:=by
  rw [List.all_eq_true]
  intro x hx
  unfold Yj at hx
  obtain ⟨j,hj,rfl⟩:=List.mem_map.1 hx
  rw [List.mem_range'_1] at hj
  have hjb:j<b.length:=by have:=H.fM;omega
  have hg:=QpC A.cuts (QaK A hjb) hs'
  have hl:(rowS c b s j).length=(opS c s).length+1:=QmQ A.cuts (QaK A hjb)
  have ek:Jm (st c b s k f g k1)=if YB c s=true then 1 else ((opS c s).length:Int)+1:=rfl
  have eo:(st c b s k f g k1).2.2.1=opS c s:=rfl
  unfold QaF YJ
  rw [ek,eo]
  simp only [Bool.and_eq_true,beq_iff_eq]
  unfold QaW
  by_cases hr:YB c s=true
  ·simp only [if_pos hr]
   refine ⟨by rw [List.length_take,hl,Nat.min_eq_left (by omega)];rfl,?_⟩
   exact Qe9 _ _ _ _ (Qe9 _ _ _ _ hg)
  ·simp only [if_neg hr]
   exact ⟨congrArg Int.ofNat hl,Qe9 _ _ _ _ hg⟩
 simp only [Q9,Bool.and_eq_true]
 refine ⟨⟨⟨⟨hm,?_⟩,?_⟩,hst⟩,⟨⟨hX,hD⟩,hY⟩,hG⟩
 ·simp only [st,QR];omega
 ·simp only [st,JM,Bool.and_eq_true,beq_iff_eq];exact hsr
theorem QPq {s k f g:Nat} {k1:Int} (h2:¬ (k1=2∧s+1<nSt c)) (h4:k1≠4) (h5:k1≠5) (h6:¬ (k1=6∧0<s)) :
  Yo (setX (st c b s k f g k1) (inS c b s f)) ((k:Int)+1)=st c b s (k+1) f g 1:=by
 have _:=A
 simp only [Yo,setX,setY,setG,setD,st,sPc,QD,sOps,Qw,QB,Qk,QI,sX,sY,sG,sD,QE,QH,sSat]
 rw [Qav h5,Qad h2,QbD h4 h5,Qai h6,Qav (k1:=1) (by decide),QIt,Qad (k1:=1) (Jw (by decide)),QbD (k1:=1) (by decide) (by decide),Qai (k1:=1) (Jw (by decide))]
 rfl
theorem QKo {s k f g:Nat} {k1:Int} (h1:k1=2):Yo (setY (st c b s k f g k1) []) ((k:Int)+1)=st c b s (k+1) f g 3:=by
 have _:=A
 subst h1
 simp only [Yo,setX,setY,setG,setD,st,sPc,QD,sOps,Qw,QB,Qk,QI,sX,sY,sG,sD,QE,QH,sSat]
 rw [Qav (k1:=2) (by decide),QaC (k1:=2) (by decide),QbD (k1:=2) (by decide) (by decide),Qai (k1:=2) (Jw (by decide)),Qav (k1:=3) (by decide),QaC (k1:=3) (by decide),Qad (k1:=3) (Jw (by decide)),QbD (k1:=3) (by decide) (by decide),Qai (k1:=3) (Jw (by decide))]
 rfl
theorem QHY {s k f g:Nat} {k1:Int} (h1:k1≠1) (h2:¬ (k1=2∧s+1<nSt c)) (h5:k1≠5) (h6:¬ (k1=6∧0<s)) :
  Yo (setG (st c b s k f g k1) (doS c b (s+1) g)) ((k:Int)+1)=st c b s (k+1) f g 4:=by
 have _:=A
 simp only [Yo,setX,setY,setG,setD,st,sPc,QD,sOps,Qw,QB,Qk,QI,sX,sY,sG,sD,QE,QH,sSat]
 rw [Qav h5,QaC h1,Qad h2,Qai h6,Qav (k1:=4) (by decide),QaC (k1:=4) (by decide),Qad (k1:=4) (Jw (by decide)),QFE,Qai (k1:=4) (Jw (by decide))]
 rfl
theorem QPu {s k f g:Nat} {k1:Int} (h1:k1=6):Yo (setD (st c b s k f g k1) []) ((k:Int)+1)=st c b s (k+1) f g 7:=by
 have _:=A
 subst h1
 simp only [Yo,setX,setY,setG,setD,st,sPc,QD,sOps,Qw,QB,Qk,QI,sX,sY,sG,sD,QE,QH,sSat]
 rw [Qav (k1:=6) (by decide),QaC (k1:=6) (by decide),Qad (k1:=6) (Jw (by decide)),QbD (k1:=6) (by decide) (by decide),Qav (k1:=7) (by decide),QaC (k1:=7) (by decide),Qad (k1:=7) (Jw (by decide)),QbD (k1:=7) (by decide) (by decide),Qai (k1:=7) (Jw (by decide))]
 rfl
theorem QK0 {s k f g:Nat} {k1:Int} (h1:k1≠1) (h2:¬ (k1=2∧s+1<nSt c)) (h4:k1≠4) (h5:k1≠5) (h6:¬ (k1=6∧0<s)):Yo (st c b s k f g k1) ((k:Int)+1)=st c b s (k+1) f g 8:=by
 have _:=A
 simp only [Yo,setX,setY,setG,setD,st,sPc,QD,sOps,Qw,QB,Qk,QI,sX,sY,sG,sD,QE,QH,sSat]
 rw [Qav h5,QaC h1,Qad h2,QbD h4 h5,Qai h6,Qav (k1:=8) (by decide),QaC (k1:=8) (by decide),Qad (k1:=8) (Jw (by decide)),QbD (k1:=8) (by decide) (by decide),Qai (k1:=8) (Jw (by decide))]
 rfl
theorem QBI {s k f g:Nat} {k1:Int} (hs:s<nSt c) (hk:k≤(Yy c b s).length) (H:Nums b.length f g k1) (hr:YB c s=true) (hgf:g<f) (h1:k1≠1) (h2:¬ (k1=2∧s+1<nSt c)) (h4:k1=4↔s+1<nSt c) (h5:k1≠5) (h6:¬ (k1=6∧0<s)) :
  Yo (Jp (st c b s k f g k1) (g:Int)) ((k:Int)+1)=st c b s (k+1) f g 5:=by
 have hok:=QhF A hs hk H
 have hjb:g<b.length:=by have:=H.fM;omega
 have hf:QS (Qk (st c b s k f g k1)) (g:Int)=0:=QvQ hgf
 have hrow:gtd [] (gtd Z5 (Qk (st c b s k f g k1)) 0).2 0=inS c b s g:=by
  show gtd [] (gtd Z5 (Yj c b s f g) 0).2 0=_
  rw [Qhl hgf,QcH]
  have hh:gtd [] (rowS c b s g) 0=inS c b s g:=QFg A.cuts (QaK A hjb) (s:=s)
  have hl:(rowS c b s g).length=(opS c s).length+1:=QmQ A.cuts (QaK A hjb) (s:=s)
  show gtd [] (QaW c s (rowS c b s g)) 0=_
  unfold QaW
  rw [hr,if_pos rfl,← hh]
  cases hq:rowS c b s g with
  | nil=>rw [hq] at hl;simp at hl
  | cons x r=>simp [gtd]
 unfold Jp
 simp only [hf]
 rw [if_pos (by rw [hok];rfl),show Int.toNat 0=0 from rfl,hrow]
 have hg:vG c b s g k1=vG c b s g 5:=by
  unfold vG
  by_cases h:s+1<nSt c
  ·rw [if_pos (.inl (h4.2 h)),if_pos (.inr ⟨rfl,h⟩)]
  ·rw [if_neg (by rintro (e | e);exact h (h4.1 e);exact h e.2),if_neg (by rintro (e | e);cases e;exact h e.2)]
 have hfu:JI c b s g 5=rowS c b s g:=by unfold JI;rw [if_pos rfl]
 simp only [Yo,setX,setY,setG,setD,st,sPc,QD,sOps,Qw,QB,Qk,QI,sX,sY,sG,sD,QE,QH,sSat]
 rw [hg,QaC h1,Qad h2,Qai h6,hfu,QaC (k1:=5) (by decide),Qad (k1:=5) (Jw (by decide)),Qai (k1:=5) (Jw (by decide))]
 rfl
theorem QMn {s k f g:Nat} {k1:Int} (hs:s<nSt c) (hk:k≤(Yy c b s).length) (H:Nums b.length f g k1) (hf:f<b.length) (h0:0<s→k1=1) (h2:¬ (k1=2∧s+1<nSt c)) (h4:k1≠4) (h5:k1≠5) (h6:¬ (k1=6∧0<s)) :
  Yo (YR (st c b s k f g k1) (f:Int) (if s=0 then (prAt b f).1 else sX (st c b s k f g k1)) (prAt b f).2) ((k:Int)+1)=st c b s (k+1) (f+1) g 2:=by
 have hok:=QhF A hs hk H
 obtain ⟨hm,hi,ho⟩:=Qdo A hs
 have hs':s≤(Q8 c).length:=by simp only [nSt] at hs;omega
 have hp:=QaK A hf
 have hx:(if s=0 then (prAt b f).1 else sX (st c b s k f g k1))=inS c b s f:=by
  by_cases h:s=0
  ·subst h;rw [if_pos rfl];exact (Qpk A.cuts _).symm
  ·rw [if_neg h]
   show vX c b s f k1=_
   unfold vX;rw [if_pos (h0 (by omega))]
 rw [hx]
 have hlast:Q2 c s=true→s=(Q8 c).length:=by intro h;unfold Q2 nSt at h;have h:=of_decide_eq_true h;omega
 have hfind:QS (Qk (st c b s k f g k1)) (f:Int) = -1:=QMp
 have hfw:Qax (st c b s k f g k1) (f:Int) (inS c b s f) (prAt b f).2=true:=by
  unfold Qax
  rw [hok,hfind]
  have h1:Qs (inS c b s f) (QZ (sOps (st c b s k f g k1)))=true:=by
   show Qs _ (QZ (opS c s))=true
   rw [hi];exact QeG A (by omega) hf
  have h3:(!Qw (st c b s k f g k1)||Qs (prAt b f).2 (Q3 (sOps (st c b s k f g k1))))=true:=by
   show (!Q2 c s||Qs (prAt b f).2 (Q3 (opS c s)))=true
   cases hl:Q2 c s with
   | false=>rfl
   | true =>
    have e:=hlast hl
    rw [ho,e,Qq0 A.cuts]
    simpa using (Qk7 A.cuts hp).2
  rw [h1,h3];rfl
 have hy:gtd [] (Qx (opS c s) (inS c b s f)).1 (opS c s).length=inS c b (s+1) f:=Qop A.cuts hp hs'
 have key:Yo (YR (st c b s k f g k1) (f:Int) (inS c b s f) (prAt b f).2) ((k:Int)+1) =
   ((k:Int)+1,Yy c b s,opS c s,Q2 c s,YB c s,Yj c b s f g++[((f:Int),QaW c s (rowS c b s f))],JI c b s g k1,[],(if Q2 c s=true then vY c b s f k1 else gtd [] (Qx (opS c s) (inS c b s f)).1 (opS c s).length),vG c b s g k1,vD c b s g k1,Jo c b s g,
    (if Q2 c s=true then (Zk (if Q2 c s=true then YO c b f else 0) (Yh (gtd [] (Qx (opS c s) (inS c b s f)).1 (opS c s).length) (prAt b f).2).1).1 else if Q2 c s=true then YO c b f else 0),
    (satV c b s f g||(Qx (opS c s) (inS c b s f)).2||(Q2 c s&&((Yh (gtd [] (Qx (opS c s) (inS c b s f)).1 (opS c s).length) (prAt b f).2).2||(Zk (if Q2 c s=true then YO c b f else 0) (Yh (gtd [] (Qx (opS c s) (inS c b s f)).1 (opS c s).length) (prAt b f).2).1).2)))):=by
  unfold YR
  rw [if_pos hfw]
  rfl
 rw [key,hy]
 have e1:Yj c b s f g++[((f:Int),QaW c s (rowS c b s f))]=Yj c b s (f+1) g:=(QAF H.gf).symm
 have e2:(if Q2 c s=true then vY c b s f k1 else inS c b (s+1) f)=vY c b s (f+1) 2:=by
  unfold vY
  cases hl:Q2 c s with
  | false =>
   simp only [Q2,decide_eq_false_iff_not] at hl
   rw [if_neg (by simp),if_pos ⟨rfl,by omega⟩,Nat.add_sub_cancel]
  | true =>
   simp only [Q2,decide_eq_true_eq] at hl
   rw [if_pos rfl,if_neg h2,if_neg (by omega)]
 have e3:(if Q2 c s=true then (Zk (if Q2 c s=true then YO c b f else 0) (Yh (inS c b (s+1) f) (prAt b f).2).1).1 else if Q2 c s=true then YO c b f else 0)=(if Q2 c s=true then YO c b (f+1) else 0):=by
  cases hl:Q2 c s with
  | false=>simp
  | true =>
   simp only [if_true]
   rw [hlast hl]
   show (Zk _ (Yh (inp _ _ _ _) _).1).1=_
   rw [QgJ A.cuts]
   rfl
 have e4:(satV c b s f g||(Qx (opS c s) (inS c b s f)).2||(Q2 c s&&((Yh (inS c b (s+1) f) (prAt b f).2).2||(Zk (if Q2 c s=true then YO c b f else 0) (Yh (inS c b (s+1) f) (prAt b f).2).1).2)))=satV c b s (f+1) g:=by
  unfold satV
  rw [List.range_succ,List.any_append]
  have:Qdq c b s f=((Qx (opS c s) (inS c b s f)).2||(Q2 c s&&((Yh (inS c b (s+1) f) (prAt b f).2).2||(Zk (if Q2 c s=true then YO c b f else 0) (Yh (inS c b (s+1) f) (prAt b f).2).1).2))):=by
   unfold Qdq
   cases hl:Q2 c s with
   | false=>rfl
   | true =>
    simp only [if_true,Bool.true_and]
    rw [hlast hl]
    have:inS c b ((Q8 c).length+1) f=outA c b f:=QgJ A.cuts _
    rw [this]
    rfl
  simp only [List.any_cons,List.any_nil,Bool.or_false]
  rw [this]
  cases (List.range f).any (Qdq c b s) <;> cases (List.range g).any (Qfr c b s) <;> simp
 have e5:vX c b s (f+1) 2=[]:=rfl
 have e6:vG c b s g k1=vG c b s g 2:=by unfold vG;rw [if_neg (by rintro (e | e);exact h4 e;exact h5 e.1),if_neg (by rintro (e | e);cases e;exact absurd e.1 (by decide))]
 have e7:vD c b s g k1=vD c b s g 2:=by unfold vD;rw [if_neg h6,if_neg (by rintro ⟨e,_⟩;exact absurd e (by decide))]
 have e8:JI c b s g k1=JI c b s g 2:=by unfold JI;rw [if_neg h5,if_neg (by decide)]
 rw [e1,e2,e3,e4,← e5,e6,e7,e8]
 rfl
theorem QLj {s k f g:Nat} {k1:Int} (hs:s<nSt c) (hk:k≤(Yy c b s).length) (H:Nums b.length f g k1) (hgf:g<f) (hr1:YB c s=true→k1=5) (hr2:YB c s=false→s+1<nSt c→k1=4) (h1:k1≠1) (h2:¬ (k1=2∧s+1<nSt c)) (h5:k1=5→YB c s=true) (h4:k1=4→s+1<nSt c) :
  Yo (if s=0 then setD (ZW (st c b s k f g k1) (g:Int) (prAt b g).2) [] else ZW (st c b s k f g k1) (g:Int) (prAt b g).2) ((k:Int)+1)=st c b s (k+1) f (g+1) 6:=by
 have hok:=QhF A hs hk H
 obtain ⟨hm,hi,ho⟩:=Qdo A hs
 have hs':s≤(Q8 c).length:=by simp only [nSt] at hs;omega
 have hg:g<b.length:=by have:=H.fM;omega
 have hp:=QaK A hg
 have hlast:Q2 c s=true→s=(Q8 c).length:=by intro h;unfold Q2 nSt at h;have h:=of_decide_eq_true h;omega
 have hfind:QS (Qk (st c b s k f g k1)) (g:Int)=0:=QvQ hgf
 have hrl:(rowS c b s g).length=(opS c s).length+1:=QmQ A.cuts hp
 have hrows:YG (st c b s k f g k1) 0=rowS c b s g:=by
  unfold YG
  show (if YB c s=true then JI c b s g k1 else (gtd Z5 (Yj c b s f g) (Int.toNat 0)).2)=_
  rw [Qhl hgf,show Int.toNat 0=0 from rfl,QcH]
  cases hr:YB c s with
  | true=>rw [if_pos rfl];unfold JI;rw [if_pos (hr1 hr)]
  | false=>rw [if_neg (by simp)];show QaW c s _=_;unfold QaW;rw [hr,if_neg (by simp)]
 have hd:bwdD (st c b s k f g k1) 0 (prAt b g).2=(doS c b (s+1) g,Q2 c s&&(Zt (outA c b g) (prAt b g).2).2):=by
  unfold bwdD
  rw [hrows]
  show (if Q2 c s=true then Zt (gtd [] (rowS c b s g) (opS c s).length) (prAt b g).2 else (vG c b s g k1,false))=_
  cases hl:Q2 c s with
  | true =>
   rw [if_pos rfl,Qop A.cuts hp hs',hlast hl,QgJ A.cuts]
   show _=(dOut _ _ _ _,_)
   rw [QBX A.cuts,Bool.true_and]
  | false =>
   simp only [Q2,decide_eq_false_iff_not] at hl
   rw [if_neg (by simp),Bool.false_and]
   unfold vG
   rw [if_pos]
   cases hr:YB c s with
   | true=>exact .inr ⟨hr1 hr,by omega⟩
   | false=>exact .inl (hr2 hr (by omega))
 have hbk:Qat (st c b s k f g k1) 0 (prAt b g).2=true:=by
  unfold Qat
  rw [hok,hrows,hd]
  simp only [Bool.and_eq_true,beq_iff_eq,decide_eq_true_eq]
  refine ⟨⟨⟨⟨trivial,by omega⟩,hrl⟩,?_⟩,?_⟩
  ·unfold YJ
   exact Qe9 _ _ _ _ (QpC A.cuts hp hs')
  ·show Qs (doS c b (s+1) g) (Q3 (opS c s))=true
   rw [ho];exact Qe4 A (by omega) hg
 have hback:QJ (opS c s) (rowS c b s g) (doS c b (s+1) g)=bkS c b s g:=rfl
 have hbd:(bkS c b s g).2.1=doS c b s g:=(QD7 A.cuts hs' _).symm
 have hadd:Yr (sSum (st c b s k f g k1)) ((bkS c b s g).1,0,(Q2 c s&&(Zt (outA c b g) (prAt b g).2).2)||(bkS c b s g).2.2)=(Jo c b s (g+1),(if Q2 c s then YO c b f else 0),satV c b s f (g+1)):=by
  unfold Yr
  simp only
  have hl:Zk (sSum (st c b s k f g k1)).2.1 0=((if Q2 c s then YO c b f else 0),false):=QA0 (QHa A s f)
  rw [hl]
  refine Prod.ext rfl (Prod.ext rfl ?_)
  show (satV c b s f g||((Q2 c s&&(Zt (outA c b g) (prAt b g).2).2)||(bkS c b s g).2.2)||(Zf (Jo c b s g) (bkS c b s g).1).2||false)=satV c b s f (g+1)
  unfold satV
  rw [List.range_succ,List.any_append]
  simp only [List.any_cons,List.any_nil,Bool.or_false]
  unfold Qfr
  cases (List.range f).any (Qdq c b s) <;> cases (List.range g).any (Qfr c b s) <;> cases (bkS c b s g).2.2 <;> cases (Zf (Jo c b s g) (bkS c b s g).1).2 <;> simp
 have key:ZW (st c b s k f g k1) (g:Int) (prAt b g).2=((k:Int),Yy c b s,opS c s,Q2 c s,YB c s,Yj c b s f (g+1),[],vX c b s f k1,vY c b s f k1,[],doS c b s g,Jo c b s (g+1),(if Q2 c s then YO c b f else 0),satV c b s f (g+1)):=by
  unfold ZW
  simp only [hfind]
  rw [if_pos hbk,hrows,hd]
  simp only
  have e:sOps (st c b s k f g k1)=opS c s:=rfl
  rw [e,hback,hadd,hbd]
  have e2:(Qk (st c b s k f g k1)).take (Int.toNat 0)++(Qk (st c b s k f g k1)).drop (Int.toNat 0+1)=Yj c b s f (g+1):=by
   show (Yj c b s f g).take 0++(Yj c b s f g).drop 1=_
   rw [Qhl hgf];rfl
  rw [e2]
  rfl
 rw [key]
 have f1:vX c b s f k1=vX c b s f 6:=by unfold vX;rw [if_neg h1,if_neg (by decide)]
 have f2:vY c b s f k1=vY c b s f 6:=by unfold vY;rw [if_neg h2,if_neg (by rintro ⟨e,_⟩;exact absurd e (by decide))]
 have f3:vG c b s (g+1) 6=[]:=by unfold vG;rw [if_neg];rintro (e | e);exact absurd e (by decide);exact absurd e.1 (by decide)
 rw [f1,f2]
 by_cases h:s=0
 ·rw [if_pos h]
  simp only [Yo,setX,setY,setG,setD,st,sPc,QD,sOps,Qw,QB,Qk,QI,sX,sY,sG,sD,QE,QH,sSat]
  have f4:vD c b s (g+1) 6=[]:=by unfold vD;rw [if_neg (by omega)]
  rw [f3,f4]
  rfl
 ·rw [if_neg h]
  simp only [Yo,setX,setY,setG,setD,st,sPc,QD,sOps,Qw,QB,Qk,QI,sX,sY,sG,sD,QE,QH,sSat]
  have f4:vD c b s (g+1) 6=doS c b s g:=by unfold vD;rw [if_pos ⟨rfl,by omega⟩,Nat.add_sub_cancel]
  rw [f3,f4]
  rfl
end
end Go.Proofs.YtjbdljkhbglnhaaGreat.Am
namespace Go.Proofs.YtjbdljkhbglnhaaGreat.Am
open Go Sz
structure Loc (ds n M s:Int) (rd:Bool) (f g:Nat) (k1:Int) (i:TIns) (last:Bool):Prop where
 c0:g≤f∧(f:Int)≤M∧1≤i.1∧i.1≤8∧0≤i.2∧i.2<M∧(i.1=8↔last=true)∧i≠(0,0)
 c1:i.1=1→0<s∧i.2=f∧k1≠1
 c2:i.1=2→i.2=f∧(0<s→k1=1)
 c3:i.1=3→s<n-1∧i.2=(f:Int)-1∧k1=2
 c4:i.1=4→s<n-1∧i.2=g
 c5:i.1=5→rd=true∧i.2=g∧g<f∧(s<n-1→k1=4)
 c6:i.1=6→i.2=g∧g<f∧(rd=true→k1=5)∧(rd=false→s<n-1→k1=4)
 c7:i.1=7→0<s∧i.2=(g:Int)-1∧k1=6
 c8:i.1=8→(f:Int)=M∧(g:Int)=M∧k1≠0
 c9:k1=1→i.1=2
 c10:k1=2→s<n-1→i.1=3
 c11:k1=4→i.1=5∨i.1=6
 c12:k1=5→i.1=6
 c13:k1=6→0<s→i.1=7
 c14:k1=5→rd=true
 c15:k1=6→1≤g
 c16:k1=2→1≤f
 c17:k1≠8
 c18:k1=4→s<n-1
 c19:k1=1→0<s
 c20:k1=4∨k1=5→g<f
 c21:k1=1→(f:Int)<M
 c22:s<n-1→(scOf f k1:Int)<M→tm ds n M s i≤tm ds n M s (3,(scOf f k1:Int))
 c23:0<s→(rcOf f k1:Int)<M→tm ds n M s i≤tm ds n M s (1,(rcOf f k1:Int))
 c24:s<n-1→(rgOf n s g k1:Int)<M→tm ds n M s i≤tm ds n M s (4,(rgOf n s g k1:Int))
 c25:0<s→(sgQ g k1:Int)<M→tm ds n M s i≤tm ds n M s (7,(sgQ g k1:Int))
 c26:ds=2→(f:Int)-g≤n-s
 c27:ds=2→i.1=2→(f:Int)-g<n-s
theorem QDq {ds n M s:Int} {rd:Bool} {f g:Nat} {k1:Int} {i:TIns} {last:Bool} (h:QiX ds n M s rd f g k1 i last=true):Loc ds n M s rd f g k1 i last:=by
 simp only [QiX,Bool.and_eq_true,decide_eq_true_eq] at h
 exact ⟨h.1.1.1.1.1.1.1.1.1.1.1.1.1.1.1.1.1.1.1.1.1.1.1.1.1.1.1,h.1.1.1.1.1.1.1.1.1.1.1.1.1.1.1.1.1.1.1.1.1.1.1.1.1.1.2,h.1.1.1.1.1.1.1.1.1.1.1.1.1.1.1.1.1.1.1.1.1.1.1.1.1.2,h.1.1.1.1.1.1.1.1.1.1.1.1.1.1.1.1.1.1.1.1.1.1.1.1.2,h.1.1.1.1.1.1.1.1.1.1.1.1.1.1.1.1.1.1.1.1.1.1.1.2,h.1.1.1.1.1.1.1.1.1.1.1.1.1.1.1.1.1.1.1.1.1.1.2,h.1.1.1.1.1.1.1.1.1.1.1.1.1.1.1.1.1.1.1.1.1.2,h.1.1.1.1.1.1.1.1.1.1.1.1.1.1.1.1.1.1.1.1.2,h.1.1.1.1.1.1.1.1.1.1.1.1.1.1.1.1.1.1.1.2,h.1.1.1.1.1.1.1.1.1.1.1.1.1.1.1.1.1.1.2,h.1.1.1.1.1.1.1.1.1.1.1.1.1.1.1.1.1.2,h.1.1.1.1.1.1.1.1.1.1.1.1.1.1.1.1.2,h.1.1.1.1.1.1.1.1.1.1.1.1.1.1.1.2,h.1.1.1.1.1.1.1.1.1.1.1.1.1.1.2,h.1.1.1.1.1.1.1.1.1.1.1.1.1.2,h.1.1.1.1.1.1.1.1.1.1.1.1.2,h.1.1.1.1.1.1.1.1.1.1.1.2,h.1.1.1.1.1.1.1.1.1.1.2,h.1.1.1.1.1.1.1.1.1.2,h.1.1.1.1.1.1.1.1.2,h.1.1.1.1.1.1.1.2,h.1.1.1.1.1.1.2,h.1.1.1.1.1.2,h.1.1.1.1.2,h.1.1.1.2,h.1.1.2,h.1.2,h.2⟩
section
variable (c:Qo) (b:List Qj)
def lenP (s:Nat):Nat:=(Yy c b s).length
def insP (s k:Nat):TIns:=gtd dIns (Yy c b s) k
def F (s k:Nat):Nat:=cf ((Yy c b s).take k)
def G (s k:Nat):Nat:=cg ((Yy c b s).take k)
def K1 (s k:Nat):Int:=Y0 (Yy c b s) k
def sc (s k:Nat):Nat:=scOf (F c b s k) (K1 c b s k)
def rc (s k:Nat):Nat:=rcOf (F c b s k) (K1 c b s k)
def rg (s k:Nat):Nat:=rgOf (nSt c:Nat) (s:Int) (G c b s k) (K1 c b s k)
def sg (s k:Nat):Nat:=sgQ (G c b s k) (K1 c b s k)
def stAt (s k:Nat):Qc:=st c b s k (F c b s k) (G c b s k) (K1 c b s k)
abbrev JZ (s:Nat):Int:=gtd 0 (J2 c) s
def aQ (ks:Nat→Nat) (s:Nat):Qe:=(JZ c s,(List.range' (rc c b (s+1) (ks (s+1))) (sc c b s (ks s)-rc c b (s+1) (ks (s+1)))).map fun j:Nat=>((j:Int),inS c b (s+1) j))
def bQ (ks:Nat→Nat) (s:Nat):Qe:=(JZ c s,(List.range' (rg c b s (ks s)) (sg c b (s+1) (ks (s+1))-rg c b s (ks s))).map fun j:Nat=>((j:Int),doS c b (s+1) j))
def QT (ks:Nat→Nat):Qd :=
 (b,(List.range (nSt c)).map (fun s=>stAt c b s (ks s)),(List.range (nSt c-1)).map (aQ c b ks),(List.range (nSt c-1)).map (bQ c b ks))
end
section
variable {c:Qo} {b:List Qj} (A:Adm c b)
include A
theorem Jn:1≤nSt c∧nSt c≤4:=by have:=A.stages;simp only [nSt];omega
theorem Qth {s:Nat} (hs:s<nSt c):QcY (cDs c) (nSt c:Nat) b.length s (YB c s) (Yy c b s) 0 0 0=true:=by
 have h1:=Jn A
 have h2:=Qbj A
 exact QJP (YB c s) A.ds.1 A.ds.2 (by omega) (by omega) (by omega) (by omega) (by omega)
theorem loc {s k:Nat} (hs:s<nSt c) (hk:k<lenP c b s):Loc (cDs c) (nSt c:Nat) b.length s (YB c s) (F c b s k) (G c b s k) (K1 c b s k) (insP c b s k) (decide (k+1=lenP c b s)):=by
 have h:=(Qkv _ _ _ _ (Qth A hs) k (Nat.le_of_lt hk)).1 (insP c b s k) (Jh hk dIns)
 have e:(if k=0 then (0:Int) else Y0 (Yy c b s) k)=K1 c b s k:=by
  unfold K1 Y0;split <;> rfl
 rw [e,Nat.zero_add,Nat.zero_add] at h
 exact QDq h
theorem Qfe {s:Nat} (hs:s<nSt c):F c b s (lenP c b s)=b.length∧G c b s (lenP c b s)=b.length∧K1 c b s (lenP c b s)=8:=by
 have h:=(Qkv _ _ _ _ (Qth A hs) (lenP c b s) (Nat.le_refl _)).2 rfl
 have e:(if lenP c b s=0 then (0:Int) else Y0 (Yy c b s) (lenP c b s))=K1 c b s (lenP c b s):=by
  unfold K1 Y0;split <;> rfl
 rw [e,Nat.zero_add,Nat.zero_add] at h
 simp only [Qkg,decide_eq_true_eq] at h
 unfold F G
 exact ⟨by omega,by omega,h.2.2⟩
theorem nums {s k:Nat} (hs:s<nSt c) (hk:k≤lenP c b s):Nums b.length (F c b s k) (G c b s k) (K1 c b s k):=by
 by_cases h:k<lenP c b s
 ·have L:=loc A hs h
  exact ⟨L.c0.1,by have:=L.c0.2.1;omega,fun e=>by have:=L.c21 e;omega,L.c16,L.c20,L.c15⟩
 ·have:k=lenP c b s:=by omega
  subst this
  obtain ⟨h1,h2,h3⟩:=Qfe A hs
  rw [h1,h2,h3]
  exact ⟨Nat.le_refl _,Nat.le_refl _,(fun e=>by simp at e),(fun e=>by simp at e),(fun e=>by simp at e),(fun e=>by simp at e)⟩
omit A in
theorem QvJ {s k:Nat} (hk:k<lenP c b s):F c b s (k+1)=F c b s k+kf (insP c b s k)∧G c b s (k+1)=G c b s k+kg (insP c b s k)∧K1 c b s (k+1)=(insP c b s k).1:=by
 have h:(Yy c b s)[k]? = some (insP c b s k):=Jh hk dIns
 have ht:(Yy c b s).take (k+1)=(Yy c b s).take k++[insP c b s k]:=by rw [List.take_add_one,h];rfl
 refine ⟨?_,?_,?_⟩
 ·unfold F cf;rw [ht];simp
 ·unfold G cg;rw [ht];simp
 ·unfold K1 Y0;rw [if_neg (by omega)];rfl
theorem Y7 {s:Nat} (hs:s<nSt c):sc c b s (lenP c b s)=b.length∧rc c b s (lenP c b s)=b.length∧rg c b s (lenP c b s)=b.length∧sg c b s (lenP c b s)=b.length:=by
 obtain ⟨h1,h2,h3⟩:=Qfe A hs
 unfold sc rc rg sg
 rw [h1,h2,h3]
 exact ⟨rfl,rfl,rfl,rfl⟩
theorem Qpw {s k:Nat} (hs:s<nSt c) (hk:k<lenP c b s) :
  (s+1<nSt c→sc c b s (k+1)=sc c b s k+if (insP c b s k).1=3 then 1 else 0) ∧
  (0<s→rc c b s (k+1)=rc c b s k+if (insP c b s k).1=1 then 1 else 0) ∧
  (s+1<nSt c→rg c b s (k+1)=rg c b s k+if (insP c b s k).1=4 then 1 else 0) ∧
  (0<s→sg c b s (k+1)=sg c b s k+if (insP c b s k).1=7 then 1 else 0):=by
 have L:=loc A hs hk
 obtain ⟨e1,e2,e3⟩:=QvJ (c:=c) (b:=b) hk
 unfold sc rc rg sg
 rw [e1,e2,e3]
 generalize F c b s k=f at *
 generalize G c b s k=g at *
 generalize K1 c b s k=k1 at *
 generalize insP c b s k=i at *
 have hi:=L.c0
 have h6:i.1=6→(s:Int)<(nSt c:Nat)-1→k1=4∨k1=5:=fun e hlt=>by
  have h:=L.c6 e
  cases hr:YB c s with
  | true=>exact .inr (h.2.2.1 hr)
  | false=>exact .inl (h.2.2.2 hr hlt)
 have h1:=L.c1;have h2:=L.c2;have h3:=L.c3;have h4:=L.c4;have h5:=L.c5;have h7:=L.c7;have h9:=L.c9;have h10:=L.c10;have h11:=L.c11;have h12:=L.c12;have h13:=L.c13;have h15:=L.c15;have h16:=L.c16;have h18:=L.c18
 obtain ⟨i1,i2⟩:=i
 simp only at hi h1 h2 h3 h4 h5 h6 h7 h9 h10 h11 h12 h13
 unfold scOf rcOf rgOf sgQ kf kg
 simp only
 have hcase:i1=1∨i1=2∨i1=3∨i1=4∨i1=5∨i1=6∨i1=7∨i1=8:=by omega
 rcases hcase with rfl | rfl | rfl | rfl | rfl | rfl | rfl | rfl <;> simp at h1 h2 h3 h4 h5 h6 h7 h9 h10 h11 h12 h13 ⊢ <;> (refine ⟨?_,?_,?_,?_⟩ <;> intro hh <;> (repeat' split) <;> omega)
structure Ok (c:Qo) (b:List Qj) (ks:Nat→Nat):Prop where
 le:∀ s,s<nSt c→ks s≤lenP c b s
 qa:∀ s,s+1<nSt c→rc c b (s+1) (ks (s+1))≤sc c b s (ks s)∧(sc c b s (ks s):Int)-rc c b (s+1) (ks (s+1))≤JZ c s
 qb:∀ s,s+1<nSt c→rg c b s (ks s)≤sg c b (s+1) (ks (s+1))∧(sg c b (s+1) (ks (s+1)):Int)-rg c b s (ks s)≤JZ c s
 fl:(∃ s,s<nSt c∧ks s=lenP c b s)→∀ s,s<nSt c→lenP c b s≤ks s+1
def En (c:Qo) (b:List Qj) (ks:Nat→Nat) (s:Nat):Prop :=
 ks s<lenP c b s ∧
 ((insP c b s (ks s)).1=1→rc c b s (ks s)<sc c b (s-1) (ks (s-1))) ∧
 ((insP c b s (ks s)).1=3→(sc c b s (ks s):Int)-rc c b (s+1) (ks (s+1))<JZ c s) ∧
 ((insP c b s (ks s)).1=4→rg c b s (ks s)<sg c b (s+1) (ks (s+1))) ∧
 ((insP c b s (ks s)).1=7→(sg c b s (ks s):Int)-rg c b (s-1) (ks (s-1))<JZ c (s-1)) ∧
 ((insP c b s (ks s)).1=8→∀ j,j<nSt c→lenP c b j≤ks j+1)
theorem QaI {s:Nat} (hs:s+1<nSt c):1≤JZ c s∧JZ c s≤5:=by
 have:=A.caps
 simp only [Yx,Bool.and_eq_true,beq_iff_eq] at this
 have hl:s<(J2 c).length:=by simp only [nSt] at hs;have:=this.1;simp only [J2,Q8] at *;omega
 have:=List.all_eq_true.1 this.2 _ (JK hl 0)
 exact QR.1 this
theorem QgE:(J2 c).length=nSt c-1:=by
 have:=A.caps
 simp only [Yx,Bool.and_eq_true,beq_iff_eq] at this
 have:=this.1;simp only [nSt,J2,Q8] at *;omega
omit A in
theorem QKy (n:Nat) (P:Nat→Prop) (t:Nat→Int) (h:∃ s,s<n∧P s):∃ s,s<n∧P s∧∀ j,j<n→P j→t s≤t j:=by
 induction n with
 | zero=>obtain ⟨s,h,_⟩:=h;omega
 | succ n ih =>
  by_cases h1:∃ s,s<n∧P s
  ·obtain ⟨s,hs,hp,hm⟩:=ih h1
   by_cases h2:P n∧t n<t s
   ·refine ⟨n,by omega,h2.1,fun j hj hpj=>?_⟩
    by_cases h3:j=n
    ·subst h3;omega
    ·have:=hm j (by omega) hpj;omega
   ·refine ⟨s,by omega,hp,fun j hj hpj=>?_⟩
    by_cases h3:j=n
    ·subst h3
     have:¬ t j<t s:=fun h=>h2 ⟨hpj,h⟩
     omega
    ·exact hm j (by omega) hpj
  ·obtain ⟨s,hs,hp⟩:=h
   have:s=n:=by
    apply Classical.byContradiction;intro hne
    exact h1 ⟨s,by omega,hp⟩
   subst this
   refine ⟨s,by omega,hp,fun j hj hpj=>?_⟩
   by_cases h3:j=s
   ·subst h3;omega
   ·exact absurd ⟨j,by omega,hpj⟩ h1
set_option maxHeartbeats 1000000 in
theorem QGF {ks:Nat→Nat} (V:Ok c b ks) (h:∃ s,s<nSt c∧ks s<lenP c b s):∃ s,s<nSt c∧En c b ks s:=by
 obtain ⟨s,hs,hk,hmin⟩:=QKy (nSt c) (fun s=>ks s<lenP c b s) (fun s=>tm (cDs c) (nSt c:Nat) b.length s (insP c b s (ks s))) h
 have L:=loc A hs hk
 refine ⟨s,hs,hk,fun hi=>?_,fun hi=>?_,fun hi=>?_,fun hi=>?_,fun hi=>?_⟩
 ·obtain ⟨h0,h1,h2⟩:=L.c1 hi
  have h0:0<s:=by omega
  have hq:=(V.qa (s-1) (by omega)).1
  rw [show s-1+1=s by omega] at hq
  apply Classical.byContradiction
  intro hn
  have hrc:rc c b s (ks s)=F c b s (ks s):=by unfold rc rcOf;rw [if_neg h2]
  have hlt:(F c b s (ks s):Int)<b.length:=by have:=L.c0;omega
  by_cases hj:ks (s-1)<lenP c b (s-1)
  ·have L':=loc A (s:=s-1) (by omega) hj
   have h3:=L'.c22 (by omega) (by show ((sc c b (s-1) (ks (s-1)):Nat):Int)<_;omega)
   have h4:=hmin (s-1) (by omega) hj
   have e1:(scOf (F c b (s-1) (ks (s-1))) (K1 c b (s-1) (ks (s-1))))=F c b s (ks s):=by show sc c b (s-1) (ks (s-1))=_;omega
   rw [e1] at h3
   simp only [tm,hi,h1] at h3 h4
   simp at h3 h4
   omega
  ·have:=V.le (s-1) (by omega)
   rw [show ks (s-1)=lenP c b (s-1) by omega,(Y7 A (by omega)).1] at hn
   omega
 ·obtain ⟨h0,h1,h2⟩:=L.c3 hi
  have hq:=(V.qa s (by omega)).1
  have hcap:=QaI A (s:=s) (by omega)
  apply Classical.byContradiction
  intro hn
  have h16:=L.c16 h2
  have hsc:sc c b s (ks s)=F c b s (ks s)-1:=by unfold sc scOf;rw [if_pos h2]
  have hfM:(F c b s (ks s):Int)≤b.length:=L.c0.2.1
  by_cases hj:ks (s+1)<lenP c b (s+1)
  ·have L':=loc A (s:=s+1) (by omega) hj
   have e1:(rcOf (F c b (s+1) (ks (s+1))) (K1 c b (s+1) (ks (s+1))))=rc c b (s+1) (ks (s+1)):=rfl
   have h3:=L'.c23 (by omega) (by rw [e1];omega)
   have h4:=hmin (s+1) (by omega) hj
   rw [e1] at h3
   simp only [tm,hi,h1] at h3 h4
   simp at h3 h4
   omega
  ·have:=V.le (s+1) (by omega)
   rw [show ks (s+1)=lenP c b (s+1) by omega,(Y7 A (by omega)).2.1] at hn
   omega
 ·obtain ⟨h0,h1⟩:=L.c4 hi
  have hq:=(V.qb s (by omega)).1
  apply Classical.byContradiction
  intro hn
  have h2:¬ (K1 c b s (ks s)=4∨(K1 c b s (ks s)=5∧(s:Int)<(nSt c:Nat)-1)):=by
   rintro (h | h)
   ·have:=L.c11 h;omega
   ·have:=L.c12 h.1;omega
  have hrg:rg c b s (ks s)=G c b s (ks s):=by unfold rg rgOf;rw [if_neg h2]
  have hlt:(G c b s (ks s):Int)<b.length:=by have:=L.c0;omega
  by_cases hj:ks (s+1)<lenP c b (s+1)
  ·have L':=loc A (s:=s+1) (by omega) hj
   have h3:=L'.c25 (by omega) (by show ((sg c b (s+1) (ks (s+1)):Nat):Int)<_;omega)
   have h4:=hmin (s+1) (by omega) hj
   have e1:(sgQ (G c b (s+1) (ks (s+1))) (K1 c b (s+1) (ks (s+1))))=G c b s (ks s):=by show sg c b (s+1) (ks (s+1))=_;omega
   rw [e1] at h3
   simp only [tm,hi,h1] at h3 h4
   simp at h3 h4
   split at h3 <;> simp_all <;> omega
  ·have:=V.le (s+1) (by omega)
   rw [show ks (s+1)=lenP c b (s+1) by omega,(Y7 A (by omega)).2.2.2] at hn
   omega
 ·obtain ⟨h0,h1,h2⟩:=L.c7 hi
  have h0:0<s:=by omega
  have hq:=(V.qb (s-1) (by omega)).1
  rw [show s-1+1=s by omega] at hq
  have hcap:=QaI A (s:=s-1) (by omega)
  apply Classical.byContradiction
  intro hn
  have h15:=L.c15 h2
  have hsg:sg c b s (ks s)=G c b s (ks s)-1:=by unfold sg sgQ;rw [if_pos h2]
  have hfM:(G c b s (ks s):Int)≤b.length:=by have:=L.c0;omega
  by_cases hj:ks (s-1)<lenP c b (s-1)
  ·have L':=loc A (s:=s-1) (by omega) hj
   have e1:(rgOf (nSt c:Nat) ((s-1:Nat):Int) (G c b (s-1) (ks (s-1))) (K1 c b (s-1) (ks (s-1))))=rg c b (s-1) (ks (s-1)):=rfl
   have h3:=L'.c24 (by omega) (by rw [e1];omega)
   have h4:=hmin (s-1) (by omega) hj
   rw [e1] at h3
   simp only [tm,hi,h1] at h3 h4
   simp at h3 h4
   split at h3 <;> simp_all <;> omega
  ·have:=V.le (s-1) (by omega)
   rw [show ks (s-1)=lenP c b (s-1) by omega,(Y7 A (by omega)).2.2.1] at hn
   omega
 ·intro j hj
  apply Classical.byContradiction
  intro hn
  have hj':ks j<lenP c b j:=by omega
  have L':=loc A hj hj'
  have h4:=hmin j hj hj'
  have h5:(insP c b j (ks j)).1≠8:=fun e=>by have:=L'.c0.2.2.2.2.2.2.1.1 e;simp at this;omega
  have h6:=L'.c0
  have hn4:=Jn A
  have hb5:=Qbj A
  generalize insP c b j (ks j)=i' at *
  generalize insP c b s (ks s)=i at *
  have:tm (cDs c) (nSt c:Nat) b.length s i=1000000:=by unfold tm;simp [hi]
  rw [this] at h4
  unfold tm at h4
  simp only at h4
  repeat' split at h4
  all_goals omega
end
end Go.Proofs.YtjbdljkhbglnhaaGreat.Am

