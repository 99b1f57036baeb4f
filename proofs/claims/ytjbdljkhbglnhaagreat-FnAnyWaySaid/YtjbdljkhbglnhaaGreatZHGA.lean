/- -/
import Derived.Test.YtjbdljkhbglnhaaGreatZHG8
set_option linter.all false
namespace Go.Proofs.YtjbdljkhbglnhaaGreat.Am
open Go Sz
def Zk (m:QU) (cuts:List Int) (s:Nat):Nat:=if s=0 then 0 else if s≤cuts.length then (gtd 0 cuts (s-1)).toNat else m.length
def Ye (m:QU) (cuts:List Int) (s:Nat):List TOp':=(m.drop (Zk m cuts s)).take (Zk m cuts (s+1)-Zk m cuts s)
section
variable {m:QU} {cuts:List Int} (hc:Q0 m cuts=true)
include hc
theorem Qil {s:Nat} (hs:s≤cuts.length):Zk m cuts s<Zk m cuts (s+1):=by
 have hl:=Qag hc
 have hg:ZR (m.length-1) none cuts=true:=by have:=hc;simp only [Q0,Bool.and_eq_true] at this;exact this.2
 have h1:∀ k:Nat,k<cuts.length→1≤gtd 0 cuts k∧gtd 0 cuts k≤(m.length:Int)-1:=fun k hk=>by
  have:=Qc2 hg k _ (Jp hk 0);omega
 have h2:∀ k:Nat,k+1<cuts.length→gtd 0 cuts k<gtd 0 cuts (k+1):=fun k hk=>QmS hg k _ _ (Jp (by omega) 0) (Jp hk 0)
 unfold Zk
 rw [if_neg (Nat.succ_ne_zero s)]
 by_cases h0:s=0
 ·subst h0
  rw [if_pos rfl]
  split
  ·have:=h1 0 (by omega);simp;omega
  ·omega
 ·rw [if_neg h0,if_pos hs]
  have h3:=h1 (s-1) (by omega)
  split
  ·have h4:=h2 (s-1) (by omega)
   rw [show s-1+1=s by omega] at h4
   rw [show s+1-1=s by omega]
   omega
  ·omega
theorem Qy4 {s:Nat}:Zk m cuts s≤m.length:=by
 have hl:=Qag hc
 have hg:ZR (m.length-1) none cuts=true:=by have:=hc;simp only [Q0,Bool.and_eq_true] at this;exact this.2
 unfold Zk
 split
 ·omega
 ·split
  ·have:=Qc2 hg (s-1) _ (Jp (by omega) 0);omega
  ·omega
theorem Qcm:Zk m cuts (cuts.length+1)=m.length:=by have _:=hc;unfold Zk;rw [if_neg (by omega),if_neg (by omega)]
theorem QQP {s:Nat} (hs:s≤cuts.length):Qp m cuts (s:Int)=((Zk m cuts s:Int),(Zk m cuts (s+1):Int)):=by
 have hl:=Qag hc
 have hg:ZR (m.length-1) none cuts=true:=by have:=hc;simp only [Q0,Bool.and_eq_true] at this;exact this.2
 have h1:∀ k:Nat,k<cuts.length→1≤gtd 0 cuts k∧gtd 0 cuts k≤(m.length:Int)-1:=fun k hk=>by
  have:=Qc2 hg k _ (Jp hk 0);omega
 unfold Qp
 rw [if_pos (by rw [hc,Bool.true_and,QJ];omega)]
 unfold Zk
 refine Prod.ext ?_ ?_
 ·dsimp only
  by_cases h0:s=0
  ·subst h0;simp
  ·rw [if_pos (by omega),if_neg h0,if_pos hs,Int.toNat_natCast]
   have:=h1 (s-1) (by omega);omega
 ·dsimp only
  rw [if_neg (Nat.succ_ne_zero s)]
  by_cases h2:s<cuts.length
  ·rw [if_pos (by omega),if_pos (by omega),Int.toNat_natCast,show s+1-1=s by omega]
   have:=h1 s h2;omega
  ·rw [if_neg (by omega),if_neg (by omega)]
theorem QPN {s:Nat} (hs:s≤cuts.length):slice m (Qp m cuts (s:Int)).1 (Qp m cuts (s:Int)).2=Ye m cuts s:=by
 rw [QQP hc hs];simp [slice,Ye]
theorem QCf {s:Nat} (hs:s≤cuts.length):(Ye m cuts s).length=Zk m cuts (s+1)-Zk m cuts s:=by
 have:=Qy4 hc (s:=s+1)
 have:=Qil hc hs
 unfold Ye;simp;omega
theorem Qhr {s:Nat} (hs:s≤cuts.length):1≤(Ye m cuts s).length∧(Ye m cuts s).length≤8:=by
 rw [QCf hc hs]
 have:=Qy4 hc (s:=s+1)
 have:=Qil hc hs
 have:=(Qag hc).2.1
 omega
theorem QAZ {s:Nat} (hs:s≤cuts.length):m.take (Zk m cuts (s+1))=m.take (Zk m cuts s)++Ye m cuts s:=by
 have:=Qil hc hs
 unfold Ye
 rw [← List.take_add,show Zk m cuts s+(Zk m cuts (s+1)-Zk m cuts s)=Zk m cuts (s+1) by omega]
theorem Qdg {s:Nat} (hs:s≤cuts.length):m.drop (Zk m cuts s)=Ye m cuts s++m.drop (Zk m cuts (s+1)):=by
 have:=Qil hc hs
 unfold Ye
 have h:=List.take_append_drop (Zk m cuts (s+1)-Zk m cuts s) (m.drop (Zk m cuts s))
 rw [List.drop_drop,show Zk m cuts s+(Zk m cuts (s+1)-Zk m cuts s)=Zk m cuts (s+1) by omega] at h
 exact h.symm
end
def inp (m:QU) (cuts:List Int) (x:List Int) (s:Nat):List Int:=ZK (m.take (Zk m cuts s)) x
def Qb6 (m:QU) (cuts:List Int) (x:List Int) (s:Nat):List (List Int):=(Qy (Ye m cuts s) (inp m cuts x s)).1
def fsat (m:QU) (cuts:List Int) (x:List Int) (s:Nat):Bool:=(Qy (Ye m cuts s) (inp m cuts x s)).2
def JS (m:QU) (cuts:List Int) (p:Qd) (s:Nat):List (List Int) × List Int × Bool :=
 QM (m.drop (Zk m cuts s)) (Qy (m.drop (Zk m cuts s)) (inp m cuts p.1 s)).1 (Zs (ZK m p.1) p.2).1
def dOut (m:QU) (cuts:List Int) (p:Qd) (s:Nat):List Int:=(JS m cuts p s).2.1
def Qaf (m:QU) (cuts:List Int) (p:Qd) (s:Nat):List (List Int) × List Int × Bool:=QM (Ye m cuts s) (Qb6 m cuts p.1 s) (dOut m cuts p (s+1))
section
variable {m:QU} {cuts:List Int} (hc:Q0 m cuts=true)
include hc
theorem QpD (x:List Int):inp m cuts x 0=x:=by have _:=hc;unfold inp Zk;simp [Qgu]
theorem Qhe (x:List Int):inp m cuts x (cuts.length+1)=ZK m x:=by unfold inp;rw [Qcm hc,List.take_length]
theorem Qkz {s:Nat} (hs:s≤cuts.length) (x:List Int):inp m cuts x (s+1)=ZK (Ye m cuts s) (inp m cuts x s):=by
 unfold inp;rw [QAZ hc hs,QPD]
theorem Qqi {s:Nat} (hs:s≤cuts.length) (p:Qd) :
  JS m cuts p s=((Qaf m cuts p s).1++(JS m cuts p (s+1)).1,(Qaf m cuts p s).2.1,(Qaf m cuts p s).2.2||(JS m cuts p (s+1)).2.2):=by
 unfold Qaf Qb6 dOut
 have e:=Qkz hc hs p.1
 conv=>lhs;unfold JS
 rw [Qdg hc hs,QEh]
 unfold JS
 rw [e]
theorem QG8 {s:Nat} (hs:s≤cuts.length) (p:Qd):dOut m cuts p s=(Qaf m cuts p s).2.1:=by unfold dOut;rw [Qqi hc hs]
theorem QBh (p:Qd):dOut m cuts p (cuts.length+1)=(Zs (ZK m p.1) p.2).1:=by
 unfold dOut JS
 rw [Qcm hc,List.drop_length]
 simp [QM]
theorem QxH (p:Qd):∀ (k s:Nat),s+k=cuts.length+1 →
  (JS m cuts p s).1=(List.range' s k).flatMap (fun j=>(Qaf m cuts p j).1)∧(JS m cuts p s).2.2=(List.range' s k).any (fun j=>(Qaf m cuts p j).2.2)
 | 0,s,h=>by
  have:s=cuts.length+1:=by omega
  subst this
  unfold JS
  rw [Qcm hc,List.drop_length]
  simp [QM]
 | k+1,s,h=>by
  have ih:=QxH p k (s+1) (by omega)
  rw [Qqi hc (by omega)]
  simp only [List.range'_succ,List.flatMap_cons,List.any_cons,ih.1,ih.2,and_self]
theorem Qt4 (x:List Int):∀ (k s:Nat),s+k=cuts.length+1→(Qy (m.drop (Zk m cuts s)) (inp m cuts x s)).2=(List.range' s k).any (fun j=>fsat m cuts x j)
 | 0,s,h=>by
  have:s=cuts.length+1:=by omega
  subst this
  rw [Qcm hc,List.drop_length]
  rfl
 | k+1,s,h=>by
  have ih:=Qt4 x k (s+1) (by omega)
  rw [Qdg hc (by omega),QnB]
  simp only [List.range'_succ,List.any_cons]
  rw [← Qkz hc (by omega),ih]
  rfl
end
end Go.Proofs.YtjbdljkhbglnhaaGreat.Am
namespace Go.Proofs.YtjbdljkhbglnhaaGreat.Am
open Go Sz
structure Adm (c:Ql) (b:List Qd):Prop where
 model:Qw (QV c)=true
 batch:ZC (QV c) b=true
 cuts:Q0 (QV c) (Q3 c)=true
 stages:(Q3 c).length+1≤4
 ds:1≤cDs c∧cDs c≤2
 redo:(JW c).length=(Q3 c).length+1
 caps:Yp c=true
 limits:YG c b.length=true
theorem Qi8 {c:Ql} {b:List Qd} (h:Zj c b=0):Adm c b:=by
 unfold Zj at h
 have hs:=QbC (c:=c)
 split at h
 ·simp at h
 split at h
 ·simp at h
 split at h
 ·simp at h
 split at h
 ·simp at h
 split at h
 ·simp at h
 split at h
 ·simp at h
 split at h
 ·simp at h
 rename_i h1 h2 h3 h4 h5 h6 h7
 have hc:=hs.2.2.1.1 (by omega)
 have e:=hs.2.2.2 hc
 have h4':m_in (cDs c) 1 2=true:=by simpa using h4
 exact ⟨by simpa using h1,by simpa using h2,hc,by have:=e;simp only [Q3];omega,QJ.1 h4',by have:=e;simp only [Q3,JW];omega,by simpa using h6,by simpa using h7⟩
theorem QkW {c:Ql} {b:List Qd} (A:Adm c b):Zj c b=0:=by
 have hs:=QbC (c:=c)
 have e:=hs.2.2.2 A.cuts
 have h4:=A.stages
 have hr:=A.redo
 simp only [Q3,JW] at h4 hr
 unfold Zj
 rw [if_neg (by simp [A.model]),if_neg (by simp [A.batch]),if_neg (by omega),if_neg (by have:=QJ.2 A.ds;simp [this]),if_neg (by simp;omega),if_neg (by simp [A.caps]),if_neg (by simp [A.limits])]
def nSt (c:Ql):Nat:=(Q3 c).length+1
abbrev prAt (b:List Qd) (k:Nat):Qd:=gtd Zn b k
def dimI (m:QU) (cuts:List Int) (s:Nat):Int:=if s≤cuts.length then QX (Ye m cuts s) else Q1 m
section
variable {m:QU} {cuts:List Int} (hc:Q0 m cuts=true)
include hc
theorem QJP:Qw m=true:=by have:=hc;simp only [Q0,Bool.and_eq_true] at this;exact this.1
theorem QiX {s:Nat} (hs:s≤cuts.length+1):Z0 (QX m) (m.take (Zk m cuts s)) (dimI m cuts s)∧Z0 (dimI m cuts s) (m.drop (Zk m cuts s)) (Q1 m):=by
 obtain ⟨_,_,h⟩:=Qtq (QJP hc)
 have h':=h
 rw [← List.take_append_drop (Zk m cuts s) m] at h'
 have h'':Z0 (QX m) (m.take (Zk m cuts s)++m.drop (Zk m cuts s)) (Q1 m):=by rw [List.take_append_drop];exact h
 obtain ⟨k,h1,h2⟩:=Z0.append.1 h''
 have hk:k=dimI m cuts s:=by
  unfold dimI
  by_cases h3:s≤cuts.length
  ·rw [if_pos h3]
   rw [Qdg hc h3] at h2
   obtain ⟨k2,h4,h5⟩:=Z0.append.1 h2
   have hp:=Qhr hc h3
   exact (QfT h4 hp.1 hp.2).2.1.symm
  ·have es:s=cuts.length+1:=by omega
   subst es
   rw [Qcm hc,List.drop_length] at h2
   rw [if_neg h3]
   exact h2
 rw [← hk]
 exact ⟨h1,h2⟩
theorem QlH {s:Nat} (hs:s≤cuts.length):Z0 (dimI m cuts s) (Ye m cuts s) (dimI m cuts (s+1)):=by
 obtain ⟨_,h2⟩:=QiX hc (s:=s) (by omega)
 rw [Qdg hc hs] at h2
 obtain ⟨k2,h4,h5⟩:=Z0.append.1 h2
 have:k2=dimI m cuts (s+1):=by
  obtain ⟨h6,h7⟩:=QiX hc (s:=s+1) (by omega)
  by_cases h8:s+1≤cuts.length
  ·have hp:=Qhr hc h8
   rw [Qdg hc h8] at h5
   obtain ⟨k3,h9,_⟩:=Z0.append.1 h5
   unfold dimI
   rw [if_pos h8]
   exact (QfT h9 hp.1 hp.2).2.1.symm
  ·rw [show s+1=cuts.length+1 by omega,Qcm hc,List.drop_length] at h5
   unfold dimI
   rw [if_neg h8]
   exact h5
 rw [← this]
 exact h4
theorem QNE {s:Nat} (hs:s≤cuts.length):Qw (Ye m cuts s)=true∧QX (Ye m cuts s)=dimI m cuts s∧Q1 (Ye m cuts s)=dimI m cuts (s+1):=by
 have hp:=Qhr hc hs
 exact QfT (QlH hc hs) hp.1 hp.2
theorem Qq7:dimI m cuts (cuts.length+1)=Q1 m:=by have _:=hc;unfold dimI;rw [if_neg (by omega)]
variable {p:Qd} (hp:Yn m p=true)
include hp
theorem Qjw:Qs p.1 (QX m)=true∧Qs p.2 (Q1 m)=true:=by
 have _:=hc
 simp only [Yn,Bool.and_eq_true] at hp;exact ⟨hp.1.2,hp.2⟩
theorem Qfo {s:Nat} (hs:s≤cuts.length+1):Qs (inp m cuts p.1 s) (dimI m cuts s)=true:=Qnb (QiX hc hs).1 (Qjw hc hp).1
theorem QJ8:Qs (ZK m p.1) (Q1 m)=true:=by
 have:=Qfo hc hp (s:=cuts.length+1) (by omega)
 rwa [Qhe hc,Qq7 hc] at this
theorem QQb:Qs (Zs (ZK m p.1) p.2).1 (Q1 m)=true:=by
 have h1:=QJ8 hc hp
 have h2:=(Qjw hc hp).2
 have:=Qqe (QgY h1 h2)
 rwa [(YA.1 h1).2] at this
theorem QoK {s:Nat} (hs:s≤cuts.length+1):Qs (dOut m cuts p s) (dimI m cuts s)=true:=(Qin (QiX hc hs).2 (Qfo hc hp hs) (QQb hc hp)).1
theorem QQC {s:Nat} (hs:s≤cuts.length):ZP (Ye m cuts s) (Qaf m cuts p s).1=true∧(Qaf m cuts p s).1.length=(Ye m cuts s).length :=
 ⟨(Qin (QlH hc hs) (Qfo hc hp (by omega)) (QoK hc hp (by omega))).2,Qho _ _ _ (by unfold Qb6;rw [QcD];omega)⟩
theorem Qtj {s:Nat} (hs:s≤cuts.length):Jd (Ye m cuts s) 0 (Qb6 m cuts p.1 s)=true :=
 QGC (QlH hc hs) (by have:=Qhr hc hs;intro e;rw [e] at this;simp at this) (Qfo hc hp (by omega))
theorem Qm6 {s:Nat}:(Qb6 m cuts p.1 s).length=(Ye m cuts s).length+1:=by have _:=hc;have _:=hp;exact QcD _ _
theorem QNU {s:Nat}:gtd [] (Qb6 m cuts p.1 s) 0=inp m cuts p.1 s:=by have _:=hc;have _:=hp;exact QIO _ _
theorem Qti {s:Nat} (hs:s≤cuts.length):gtd [] (Qb6 m cuts p.1 s) (Ye m cuts s).length=inp m cuts p.1 (s+1):=by have _:=hp;rw [Qkz hc hs];rfl
end
end Go.Proofs.YtjbdljkhbglnhaaGreat.Am
namespace Go.Proofs.YtjbdljkhbglnhaaGreat.Am
open Go Sz
section
variable (c:Ql) (b:List Qd)
def YN (s:Nat):Bool:=gtd false (JW c) s
def YH (s:Nat):List TIns:=Z7 (cDs c) (nSt c:Nat) s b.length (YN c s)
abbrev opS (s:Nat):List TOp':=Ye (QV c) (Q3 c) s
abbrev inS (s j:Nat):List Int:=inp (QV c) (Q3 c) (prAt b j).1 s
abbrev rowS (s j:Nat):List (List Int):=Qb6 (QV c) (Q3 c) (prAt b j).1 s
abbrev doS (s j:Nat):List Int:=dOut (QV c) (Q3 c) (prAt b j) s
abbrev bkS (s j:Nat):=Qaf (QV c) (Q3 c) (prAt b j) s
abbrev outA (j:Nat):List Int:=ZK (QV c) (prAt b j).1
def Q4 (s:Nat):Bool:=decide (s+1=nSt c)
def QaO (s:Nat) (r:List (List Int)):List (List Int):=if YN c s then r.take 1 else r
def Jm (s:Nat):Nat→List (List Int)
 | 0=>(ZU (opS c s)).1
 | g+1=>(Zg (Jm s g) (bkS c b s g).1).1
def YP:Nat→Int
 | 0=>0
 | f+1=>(Zl (YP f) (Yh (outA c b f) (prAt b f).2).1).1
def lsat (f:Nat):Bool:=(Yh (outA c b f) (prAt b f).2).2||(Zl (YP c b f) (Yh (outA c b f) (prAt b f).2).1).2
def Qdp (s j:Nat):Bool:=fsat (QV c) (Q3 c) (prAt b j).1 s||(Q4 c s&&lsat c b j)
def Qfw (s j:Nat):Bool:=(bkS c b s j).2.2||(Zg (Jm c b s j) (bkS c b s j).1).2||(Q4 c s&&(Zs (outA c b j) (prAt b j).2).2)
def satV (s f g:Nat):Bool:=(List.range f).any (Qdp c b s)||(List.range g).any (Qfw c b s)
def Yr (s f g:Nat):List Yi:=(List.range' g (f-g)).map fun j:Nat=>((j:Int),QaO c s (rowS c b s j))
def J8 (s g:Nat) (k1:Int):List (List Int):=if k1=5 then rowS c b s g else []
def vX (s f:Nat) (k1:Int):List Int:=if k1=1 then inS c b s f else []
def vY (s f:Nat) (k1:Int):List Int:=if k1=2∧s+1<nSt c then inS c b (s+1) (f-1) else []
def vG (s g:Nat) (k1:Int):List Int:=if k1=4∨(k1=5∧s+1<nSt c) then doS c b (s+1) g else []
def vD (s g:Nat) (k1:Int):List Int:=if k1=6∧0<s then doS c b s (g-1) else []
def st (s:Nat) (k f g:Nat) (k1:Int):Qc :=
 ((k:Int),YH c b s,opS c s,Q4 c s,YN c s,Yr c b s f g,J8 c b s g k1,vX c b s f k1,vY c b s f k1,vG c b s g k1,vD c b s g k1,Jm c b s g,(if Q4 c s then YP c b f else 0),satV c b s f g)
end
structure Nums (M f g:Nat) (kk:Int):Prop where
 gf:g≤f
 fM:f≤M
 k1:kk=1→f<M
 k2:kk=2→1≤f
 k45:kk=4∨kk=5→g<f
 k6:kk=6→1≤g
theorem Qox:∀ {l:List Yi} {m k:Int},(∀ x,x∈l→x.1≠m)→J4 l m k = -1
 | [],m,k,h=>rfl
 | x::r,m,k,h=>by rw [J4,if_neg (h x List.mem_cons_self)];exact Qox (fun y hy=>h y (List.mem_cons_of_mem _ hy))
theorem QOI {c:Ql} {b:List Qd} {s f g:Nat}:QR (Yr c b s f g) (f:Int) = -1:=by
 refine Qox (fun x hx=>?_)
 unfold Yr at hx
 obtain ⟨j,hj,rfl⟩:=List.mem_map.1 hx
 rw [List.mem_range'_1] at hj
 simp only [ne_eq];omega
theorem QgR {c:Ql} {b:List Qd} {s f g:Nat} (h:g<f):Yr c b s f g=((g:Int),QaO c s (rowS c b s g))::Yr c b s f (g+1):=by
 unfold Yr
 rw [show f-g=(f-(g+1))+1 by omega,List.range'_succ,List.map_cons]
theorem QOl {c:Ql} {b:List Qd} {s f g:Nat} (h:g≤f):Yr c b s (f+1) g=Yr c b s f g++[((f:Int),QaO c s (rowS c b s f))]:=by
 unfold Yr
 rw [show f+1-g=(f-g)+1 by omega,List.range'_concat,List.map_append]
 simp only [List.map_cons,List.map_nil,Nat.one_mul]
 rw [show g+(f-g)=f by omega]
theorem QvS {c:Ql} {b:List Qd} {s f g:Nat} (h:g<f):QR (Yr c b s f g) (g:Int)=0:=by
 rw [QgR h];unfold QR;rw [J4,if_pos rfl]
theorem QaJ {c:Ql} {b:List Qd} {s g:Nat} {k1:Int} (h:k1≠5):J8 c b s g k1=[]:=by unfold J8;rw [if_neg h]
theorem Qav {c:Ql} {b:List Qd} {s f:Nat} {k1:Int} (h:k1≠1):vX c b s f k1=[]:=by unfold vX;rw [if_neg h]
theorem Qai {c:Ql} {b:List Qd} {s f:Nat} {k1:Int} (h:¬ (k1=2∧s+1<nSt c)):vY c b s f k1=[]:=by unfold vY;rw [if_neg h]
theorem QbJ {c:Ql} {b:List Qd} {s g:Nat} {k1:Int} (h4:k1≠4) (h5:k1≠5):vG c b s g k1=[]:=by
 unfold vG;rw [if_neg];rintro (e | e)
 ·exact h4 e
 ·exact h5 e.1
theorem Qac {c:Ql} {b:List Qd} {s g:Nat} {k1:Int} (h:¬ (k1=6∧0<s)):vD c b s g k1=[]:=by unfold vD;rw [if_neg h]
theorem Jv {p:Prop} {x y:Int} (h:x≠y):¬ (x=y∧p):=fun e=>h e.1
theorem QKp {c:Ql} {b:List Qd} {s f:Nat}:vX c b s f 1=inS c b s f:=by unfold vX;rw [if_pos rfl]
theorem QF8 {c:Ql} {b:List Qd} {s g:Nat}:vG c b s g 4=doS c b (s+1) g:=by unfold vG;rw [if_pos (.inl rfl)]
section
variable {c:Ql} {b:List Qd} (A:Adm c b)
include A
theorem Qba:1≤b.length∧b.length≤5:=by
 have:=A.batch;simp only [ZC,Bool.and_eq_true,QJ] at this;omega
theorem QaS {j:Nat} (hj:j<b.length):Yn (QV c) (prAt b j)=true:=by
 have:=A.batch;simp only [ZC,Bool.and_eq_true] at this
 exact List.all_eq_true.1 this.2 _ (Y7 hj Zn)
theorem QRA (f:Nat):Za (YP c b f)=true:=by
 have _:=A
 cases f with
 | zero=>rfl
 | succ f=>exact QlP _ _
theorem QCs (s f:Nat):Za (if Q4 c s then YP c b f else 0)=true:=by
 split
 ·exact QRA A f
 ·rfl
theorem QdS {s:Nat} (hs:s<nSt c):Qw (opS c s)=true∧QX (opS c s)=dimI (QV c) (Q3 c) s∧Q1 (opS c s)=dimI (QV c) (Q3 c) (s+1):=QNE A.cuts (by simp only [nSt] at hs;omega)
theorem QLp {s:Nat} (hs:s<nSt c):(ZU (opS c s)).1.length=(opS c s).length∧ZP (opS c s) (ZU (opS c s)).1=true:=by
 unfold ZU
 rw [if_pos (QdS A hs).1]
 simp only [List.length_map,true_and]
 generalize opS c s=l
 induction l with
 | nil=>rfl
 | cons o l ih=>simp [ZP,ih]
theorem Qzf {s j:Nat} (hs:s<nSt c) (hj:j<b.length):(bkS c b s j).1.length=(opS c s).length∧ZP (opS c s) (bkS c b s j).1=true:=by
 have:=QQC A.cuts (QaS A hj) (s:=s) (by simp only [nSt] at hs;omega)
 exact ⟨this.2,this.1⟩
theorem Qmz {s:Nat} (hs:s<nSt c):∀ {g:Nat},g≤b.length→(Jm c b s g).length=(opS c s).length∧ZP (opS c s) (Jm c b s g)=true
 | 0,_=>QLp A hs
 | g+1,hg=>by
  obtain ⟨h1,h2⟩:=Qmz hs (g:=g) (by omega)
  obtain ⟨h3,h4⟩:=Qzf A hs (j:=g) (by omega)
  refine ⟨?_,Qj2 h1 h3 h2 h4⟩
  show (Zg _ _).1.length=_
  rw [QmK];omega
theorem Qfy {s j:Nat} (hs:s≤nSt c) (hj:j<b.length):Qs (inS c b s j) (dimI (QV c) (Q3 c) s)=true:=Qfo A.cuts (QaS A hj) hs
theorem QeU {s j:Nat} (hs:s≤nSt c) (hj:j<b.length):Qs (doS c b s j) (dimI (QV c) (Q3 c) s)=true:=QoK A.cuts (QaS A hj) hs
theorem Qhb {s k f g:Nat} {k1:Int} (hs:s<nSt c) (hk:k≤(YH c b s).length) (H:Nums b.length f g k1):Zc (st c b s k f g k1)=true:=by
 obtain ⟨hm,hi,ho⟩:=QdS A hs
 have hs':s≤(Q3 c).length:=by simp only [nSt] at hs;omega
 have hsr:=Qmz A hs (g:=g) (by have:=H.gf;have:=H.fM;omega)
 have hX:YT (vX c b s f k1) (QX (opS c s))=true:=by
  unfold vX YT;split
  ·rename_i h;rw [hi,Qfy A (by omega) (H.k1 h)];simp
  ·simp
 have hY:YT (vY c b s f k1) (Q1 (opS c s))=true:=by
  unfold vY YT;split
  ·rename_i h;rw [ho,Qfy A (by omega) (by have:=H.k2 h.1;have:=H.fM;omega)];simp
  ·simp
 have hG:YT (vG c b s g k1) (Q1 (opS c s))=true:=by
  unfold vG YT;split
  ·rename_i h
   have:g<f:=H.k45 (h.imp id (fun h=>h.1))
   rw [ho,QeU A (by omega) (by have:=H.fM;omega)];simp
  ·simp
 have hD:YT (vD c b s g k1) (QX (opS c s))=true:=by
  unfold vD YT;split
  ·rename_i h;rw [hi,QeU A (by omega) (by have:=H.k6 h.1;have:=H.gf;have:=H.fM;omega)];simp
  ·simp
 have hst:(Yr c b s f g).all (QaT (st c b s k f g k1))=true:=by
  rw [List.all_eq_true]
  intro x hx
  unfold Yr at hx
  obtain ⟨j,hj,rfl⟩:=List.mem_map.1 hx
  rw [List.mem_range'_1] at hj
  have hjb:j<b.length:=by have:=H.fM;omega
  have hg:=Qtj A.cuts (QaS A hjb) hs'
  have hl:(rowS c b s j).length=(opS c s).length+1:=Qm6 A.cuts (QaS A hjb)
  have ek:Jh (st c b s k f g k1)=if YN c s=true then 1 else ((opS c s).length:Int)+1:=rfl
  have eo:(st c b s k f g k1).2.2.1=opS c s:=rfl
  unfold QaT YK
  rw [ek,eo]
  simp only [Bool.and_eq_true,beq_iff_eq]
  unfold QaO
  by_cases hr:YN c s=true
  ·simp only [if_pos hr]
   refine ⟨by rw [List.length_take,hl,Nat.min_eq_left (by omega)];rfl,?_⟩
   exact Qfa _ _ _ _ (Qfa _ _ _ _ hg)
  ·simp only [if_neg hr]
   exact ⟨congrArg Int.ofNat hl,Qfa _ _ _ _ hg⟩
 simp only [Zc,Bool.and_eq_true]
 refine ⟨⟨⟨⟨hm,?_⟩,?_⟩,hst⟩,⟨⟨hX,hD⟩,hY⟩,hG⟩
 ·simp only [st,QJ];omega
 ·simp only [st,JF,Bool.and_eq_true,beq_iff_eq];exact hsr
theorem QKW {s k f g:Nat} {k1:Int} (h2:¬ (k1=2∧s+1<nSt c)) (h4:k1≠4) (h5:k1≠5) (h6:¬ (k1=6∧0<s)) :
  Yq (setX (st c b s k f g k1) (inS c b s f)) ((k:Int)+1)=st c b s (k+1) f g 1:=by
 have _:=A
 simp only [Yq,setX,setY,setG,setD,st,sPc,QG,sOps,Qu,QF,Qi,QK,sX,sY,sG,sD,QD,QC,sSat]
 rw [QaJ h5,Qai h2,QbJ h4 h5,Qac h6,QaJ (k1:=1) (by decide),QKp,Qai (k1:=1) (Jv (by decide)),QbJ (k1:=1) (by decide) (by decide),Qac (k1:=1) (Jv (by decide))]
 rfl
theorem QKx {s k f g:Nat} {k1:Int} (h1:k1=2):Yq (setY (st c b s k f g k1) []) ((k:Int)+1)=st c b s (k+1) f g 3:=by
 have _:=A
 subst h1
 simp only [Yq,setX,setY,setG,setD,st,sPc,QG,sOps,Qu,QF,Qi,QK,sX,sY,sG,sD,QD,QC,sSat]
 rw [QaJ (k1:=2) (by decide),Qav (k1:=2) (by decide),QbJ (k1:=2) (by decide) (by decide),Qac (k1:=2) (Jv (by decide)),QaJ (k1:=3) (by decide),Qav (k1:=3) (by decide),Qai (k1:=3) (Jv (by decide)),QbJ (k1:=3) (by decide) (by decide),Qac (k1:=3) (Jv (by decide))]
 rfl
theorem QGW {s k f g:Nat} {k1:Int} (h1:k1≠1) (h2:¬ (k1=2∧s+1<nSt c)) (h5:k1≠5) (h6:¬ (k1=6∧0<s)) :
  Yq (setG (st c b s k f g k1) (doS c b (s+1) g)) ((k:Int)+1)=st c b s (k+1) f g 4:=by
 have _:=A
 simp only [Yq,setX,setY,setG,setD,st,sPc,QG,sOps,Qu,QF,Qi,QK,sX,sY,sG,sD,QD,QC,sSat]
 rw [QaJ h5,Qav h1,Qai h2,Qac h6,QaJ (k1:=4) (by decide),Qav (k1:=4) (by decide),Qai (k1:=4) (Jv (by decide)),QF8,Qac (k1:=4) (Jv (by decide))]
 rfl
theorem QH2 {s k f g:Nat} {k1:Int} (h1:k1=6):Yq (setD (st c b s k f g k1) []) ((k:Int)+1)=st c b s (k+1) f g 7:=by
 have _:=A
 subst h1
 simp only [Yq,setX,setY,setG,setD,st,sPc,QG,sOps,Qu,QF,Qi,QK,sX,sY,sG,sD,QD,QC,sSat]
 rw [QaJ (k1:=6) (by decide),Qav (k1:=6) (by decide),Qai (k1:=6) (Jv (by decide)),QbJ (k1:=6) (by decide) (by decide),QaJ (k1:=7) (by decide),Qav (k1:=7) (by decide),Qai (k1:=7) (Jv (by decide)),QbJ (k1:=7) (by decide) (by decide),Qac (k1:=7) (Jv (by decide))]
 rfl
theorem QCh {s k f g:Nat} {k1:Int} (h1:k1≠1) (h2:¬ (k1=2∧s+1<nSt c)) (h4:k1≠4) (h5:k1≠5) (h6:¬ (k1=6∧0<s)):Yq (st c b s k f g k1) ((k:Int)+1)=st c b s (k+1) f g 8:=by
 have _:=A
 simp only [Yq,setX,setY,setG,setD,st,sPc,QG,sOps,Qu,QF,Qi,QK,sX,sY,sG,sD,QD,QC,sSat]
 rw [QaJ h5,Qav h1,Qai h2,QbJ h4 h5,Qac h6,QaJ (k1:=8) (by decide),Qav (k1:=8) (by decide),Qai (k1:=8) (Jv (by decide)),QbJ (k1:=8) (by decide) (by decide),Qac (k1:=8) (Jv (by decide))]
 rfl
theorem QIK {s k f g:Nat} {k1:Int} (hs:s<nSt c) (hk:k≤(YH c b s).length) (H:Nums b.length f g k1) (hr:YN c s=true) (hgf:g<f) (h1:k1≠1) (h2:¬ (k1=2∧s+1<nSt c)) (h4:k1=4↔s+1<nSt c) (h5:k1≠5) (h6:¬ (k1=6∧0<s)) :
  Yq (Jk (st c b s k f g k1) (g:Int)) ((k:Int)+1)=st c b s (k+1) f g 5:=by
 have hok:=Qhb A hs hk H
 have hjb:g<b.length:=by have:=H.fM;omega
 have hf:QR (Qi (st c b s k f g k1)) (g:Int)=0:=QvS hgf
 have hrow:gtd [] (gtd YC (Qi (st c b s k f g k1)) 0).2 0=inS c b s g:=by
  show gtd [] (gtd YC (Yr c b s f g) 0).2 0=_
  rw [QgR hgf,Qbg]
  have hh:gtd [] (rowS c b s g) 0=inS c b s g:=QNU A.cuts (QaS A hjb) (s:=s)
  have hl:(rowS c b s g).length=(opS c s).length+1:=Qm6 A.cuts (QaS A hjb) (s:=s)
  show gtd [] (QaO c s (rowS c b s g)) 0=_
  unfold QaO
  rw [hr,if_pos rfl,← hh]
  cases hq:rowS c b s g with
  | nil=>rw [hq] at hl;simp at hl
  | cons x r=>simp [gtd]
 unfold Jk
 simp only [hf]
 rw [if_pos (by rw [hok];rfl),show Int.toNat 0=0 from rfl,hrow]
 have hg:vG c b s g k1=vG c b s g 5:=by
  unfold vG
  by_cases h:s+1<nSt c
  ·rw [if_pos (.inl (h4.2 h)),if_pos (.inr ⟨rfl,h⟩)]
  ·rw [if_neg (by rintro (e | e);exact h (h4.1 e);exact h e.2),if_neg (by rintro (e | e);cases e;exact h e.2)]
 have hfu:J8 c b s g 5=rowS c b s g:=by unfold J8;rw [if_pos rfl]
 simp only [Yq,setX,setY,setG,setD,st,sPc,QG,sOps,Qu,QF,Qi,QK,sX,sY,sG,sD,QD,QC,sSat]
 rw [hg,Qav h1,Qai h2,Qac h6,hfu,Qav (k1:=5) (by decide),Qai (k1:=5) (Jv (by decide)),Qac (k1:=5) (Jv (by decide))]
 rfl
theorem QNA {s k f g:Nat} {k1:Int} (hs:s<nSt c) (hk:k≤(YH c b s).length) (H:Nums b.length f g k1) (hf:f<b.length) (h0:0<s→k1=1) (h2:¬ (k1=2∧s+1<nSt c)) (h4:k1≠4) (h5:k1≠5) (h6:¬ (k1=6∧0<s)) :
  Yq (YW (st c b s k f g k1) (f:Int) (if s=0 then (prAt b f).1 else sX (st c b s k f g k1)) (prAt b f).2) ((k:Int)+1)=st c b s (k+1) (f+1) g 2:=by
 have hok:=Qhb A hs hk H
 obtain ⟨hm,hi,ho⟩:=QdS A hs
 have hs':s≤(Q3 c).length:=by simp only [nSt] at hs;omega
 have hp:=QaS A hf
 have hx:(if s=0 then (prAt b f).1 else sX (st c b s k f g k1))=inS c b s f:=by
  by_cases h:s=0
  ·subst h;rw [if_pos rfl];exact (QpD A.cuts _).symm
  ·rw [if_neg h]
   show vX c b s f k1=_
   unfold vX;rw [if_pos (h0 (by omega))]
 rw [hx]
 have hlast:Q4 c s=true→s=(Q3 c).length:=by intro h;unfold Q4 nSt at h;have h:=of_decide_eq_true h;omega
 have hfind:QR (Qi (st c b s k f g k1)) (f:Int) = -1:=QOI
 have hfw:Qaw (st c b s k f g k1) (f:Int) (inS c b s f) (prAt b f).2=true:=by
  unfold Qaw
  rw [hok,hfind]
  have h1:Qs (inS c b s f) (QX (sOps (st c b s k f g k1)))=true:=by
   show Qs _ (QX (opS c s))=true
   rw [hi];exact Qfy A (by omega) hf
  have h3:(!Qu (st c b s k f g k1)||Qs (prAt b f).2 (Q1 (sOps (st c b s k f g k1))))=true:=by
   show (!Q4 c s||Qs (prAt b f).2 (Q1 (opS c s)))=true
   cases hl:Q4 c s with
   | false=>rfl
   | true =>
    have e:=hlast hl
    rw [ho,e,Qq7 A.cuts]
    simpa using (Qjw A.cuts hp).2
  rw [h1,h3];rfl
 have hy:gtd [] (Qy (opS c s) (inS c b s f)).1 (opS c s).length=inS c b (s+1) f:=Qti A.cuts hp hs'
 have key:Yq (YW (st c b s k f g k1) (f:Int) (inS c b s f) (prAt b f).2) ((k:Int)+1) =
   ((k:Int)+1,YH c b s,opS c s,Q4 c s,YN c s,Yr c b s f g++[((f:Int),QaO c s (rowS c b s f))],J8 c b s g k1,[],(if Q4 c s=true then vY c b s f k1 else gtd [] (Qy (opS c s) (inS c b s f)).1 (opS c s).length),vG c b s g k1,vD c b s g k1,Jm c b s g,
    (if Q4 c s=true then (Zl (if Q4 c s=true then YP c b f else 0) (Yh (gtd [] (Qy (opS c s) (inS c b s f)).1 (opS c s).length) (prAt b f).2).1).1 else if Q4 c s=true then YP c b f else 0),
    (satV c b s f g||(Qy (opS c s) (inS c b s f)).2||(Q4 c s&&((Yh (gtd [] (Qy (opS c s) (inS c b s f)).1 (opS c s).length) (prAt b f).2).2||(Zl (if Q4 c s=true then YP c b f else 0) (Yh (gtd [] (Qy (opS c s) (inS c b s f)).1 (opS c s).length) (prAt b f).2).1).2)))):=by
  unfold YW
  rw [if_pos hfw]
  rfl
 rw [key,hy]
 have e1:Yr c b s f g++[((f:Int),QaO c s (rowS c b s f))]=Yr c b s (f+1) g:=(QOl H.gf).symm
 have e2:(if Q4 c s=true then vY c b s f k1 else inS c b (s+1) f)=vY c b s (f+1) 2:=by
  unfold vY
  cases hl:Q4 c s with
  | false =>
   simp only [Q4,decide_eq_false_iff_not] at hl
   rw [if_neg (by simp),if_pos ⟨rfl,by omega⟩,Nat.add_sub_cancel]
  | true =>
   simp only [Q4,decide_eq_true_eq] at hl
   rw [if_pos rfl,if_neg h2,if_neg (by omega)]
 have e3:(if Q4 c s=true then (Zl (if Q4 c s=true then YP c b f else 0) (Yh (inS c b (s+1) f) (prAt b f).2).1).1 else if Q4 c s=true then YP c b f else 0)=(if Q4 c s=true then YP c b (f+1) else 0):=by
  cases hl:Q4 c s with
  | false=>simp
  | true =>
   simp only [if_true]
   rw [hlast hl]
   show (Zl _ (Yh (inp _ _ _ _) _).1).1=_
   rw [Qhe A.cuts]
   rfl
 have e4:(satV c b s f g||(Qy (opS c s) (inS c b s f)).2||(Q4 c s&&((Yh (inS c b (s+1) f) (prAt b f).2).2||(Zl (if Q4 c s=true then YP c b f else 0) (Yh (inS c b (s+1) f) (prAt b f).2).1).2)))=satV c b s (f+1) g:=by
  unfold satV
  rw [List.range_succ,List.any_append]
  have:Qdp c b s f=((Qy (opS c s) (inS c b s f)).2||(Q4 c s&&((Yh (inS c b (s+1) f) (prAt b f).2).2||(Zl (if Q4 c s=true then YP c b f else 0) (Yh (inS c b (s+1) f) (prAt b f).2).1).2))):=by
   unfold Qdp
   cases hl:Q4 c s with
   | false=>rfl
   | true =>
    simp only [if_true,Bool.true_and]
    rw [hlast hl]
    have:inS c b ((Q3 c).length+1) f=outA c b f:=Qhe A.cuts _
    rw [this]
    rfl
  simp only [List.any_cons,List.any_nil,Bool.or_false]
  rw [this]
  cases (List.range f).any (Qdp c b s) <;> cases (List.range g).any (Qfw c b s) <;> simp
 have e5:vX c b s (f+1) 2=[]:=rfl
 have e6:vG c b s g k1=vG c b s g 2:=by unfold vG;rw [if_neg (by rintro (e | e);exact h4 e;exact h5 e.1),if_neg (by rintro (e | e);cases e;exact absurd e.1 (by decide))]
 have e7:vD c b s g k1=vD c b s g 2:=by unfold vD;rw [if_neg h6,if_neg (by rintro ⟨e,_⟩;exact absurd e (by decide))]
 have e8:J8 c b s g k1=J8 c b s g 2:=by unfold J8;rw [if_neg h5,if_neg (by decide)]
 rw [e1,e2,e3,e4,← e5,e6,e7,e8]
 rfl
theorem QLM {s k f g:Nat} {k1:Int} (hs:s<nSt c) (hk:k≤(YH c b s).length) (H:Nums b.length f g k1) (hgf:g<f) (hr1:YN c s=true→k1=5) (hr2:YN c s=false→s+1<nSt c→k1=4) (h1:k1≠1) (h2:¬ (k1=2∧s+1<nSt c)) (h5:k1=5→YN c s=true) (h4:k1=4→s+1<nSt c) :
  Yq (if s=0 then setD (Z3 (st c b s k f g k1) (g:Int) (prAt b g).2) [] else Z3 (st c b s k f g k1) (g:Int) (prAt b g).2) ((k:Int)+1)=st c b s (k+1) f (g+1) 6:=by
 have hok:=Qhb A hs hk H
 obtain ⟨hm,hi,ho⟩:=QdS A hs
 have hs':s≤(Q3 c).length:=by simp only [nSt] at hs;omega
 have hg:g<b.length:=by have:=H.fM;omega
 have hp:=QaS A hg
 have hlast:Q4 c s=true→s=(Q3 c).length:=by intro h;unfold Q4 nSt at h;have h:=of_decide_eq_true h;omega
 have hfind:QR (Qi (st c b s k f g k1)) (g:Int)=0:=QvS hgf
 have hrl:(rowS c b s g).length=(opS c s).length+1:=Qm6 A.cuts hp
 have hrows:YL (st c b s k f g k1) 0=rowS c b s g:=by
  unfold YL
  show (if YN c s=true then J8 c b s g k1 else (gtd YC (Yr c b s f g) (Int.toNat 0)).2)=_
  rw [QgR hgf,show Int.toNat 0=0 from rfl,Qbg]
  cases hr:YN c s with
  | true=>rw [if_pos rfl];unfold J8;rw [if_pos (hr1 hr)]
  | false=>rw [if_neg (by simp)];show QaO c s _=_;unfold QaO;rw [hr,if_neg (by simp)]
 have hd:bwdD (st c b s k f g k1) 0 (prAt b g).2=(doS c b (s+1) g,Q4 c s&&(Zs (outA c b g) (prAt b g).2).2):=by
  unfold bwdD
  rw [hrows]
  show (if Q4 c s=true then Zs (gtd [] (rowS c b s g) (opS c s).length) (prAt b g).2 else (vG c b s g k1,false))=_
  cases hl:Q4 c s with
  | true =>
   rw [if_pos rfl,Qti A.cuts hp hs',hlast hl,Qhe A.cuts]
   show _=(dOut _ _ _ _,_)
   rw [QBh A.cuts,Bool.true_and]
  | false =>
   simp only [Q4,decide_eq_false_iff_not] at hl
   rw [if_neg (by simp),Bool.false_and]
   unfold vG
   rw [if_pos]
   cases hr:YN c s with
   | true=>exact .inr ⟨hr1 hr,by omega⟩
   | false=>exact .inl (hr2 hr (by omega))
 have hbk:QaK (st c b s k f g k1) 0 (prAt b g).2=true:=by
  unfold QaK
  rw [hok,hrows,hd]
  simp only [Bool.and_eq_true,beq_iff_eq,decide_eq_true_eq]
  refine ⟨⟨⟨⟨trivial,by omega⟩,hrl⟩,?_⟩,?_⟩
  ·unfold YK
   exact Qfa _ _ _ _ (Qtj A.cuts hp hs')
  ·show Qs (doS c b (s+1) g) (Q1 (opS c s))=true
   rw [ho];exact QeU A (by omega) hg
 have hback:QM (opS c s) (rowS c b s g) (doS c b (s+1) g)=bkS c b s g:=rfl
 have hbd:(bkS c b s g).2.1=doS c b s g:=(QG8 A.cuts hs' _).symm
 have hadd:Ym (sSum (st c b s k f g k1)) ((bkS c b s g).1,0,(Q4 c s&&(Zs (outA c b g) (prAt b g).2).2)||(bkS c b s g).2.2)=(Jm c b s (g+1),(if Q4 c s then YP c b f else 0),satV c b s f (g+1)):=by
  unfold Ym
  simp only
  have hl:Zl (sSum (st c b s k f g k1)).2.1 0=((if Q4 c s then YP c b f else 0),false):=QDZ (QCs A s f)
  rw [hl]
  refine Prod.ext rfl (Prod.ext rfl ?_)
  show (satV c b s f g||((Q4 c s&&(Zs (outA c b g) (prAt b g).2).2)||(bkS c b s g).2.2)||(Zg (Jm c b s g) (bkS c b s g).1).2||false)=satV c b s f (g+1)
  unfold satV
  rw [List.range_succ,List.any_append]
  simp only [List.any_cons,List.any_nil,Bool.or_false]
  unfold Qfw
  cases (List.range f).any (Qdp c b s) <;> cases (List.range g).any (Qfw c b s) <;> cases (bkS c b s g).2.2 <;> cases (Zg (Jm c b s g) (bkS c b s g).1).2 <;> simp
 have key:Z3 (st c b s k f g k1) (g:Int) (prAt b g).2=((k:Int),YH c b s,opS c s,Q4 c s,YN c s,Yr c b s f (g+1),[],vX c b s f k1,vY c b s f k1,[],doS c b s g,Jm c b s (g+1),(if Q4 c s then YP c b f else 0),satV c b s f (g+1)):=by
  unfold Z3
  simp only [hfind]
  rw [if_pos hbk,hrows,hd]
  simp only
  have e:sOps (st c b s k f g k1)=opS c s:=rfl
  rw [e,hback,hadd,hbd]
  have e2:(Qi (st c b s k f g k1)).take (Int.toNat 0)++(Qi (st c b s k f g k1)).drop (Int.toNat 0+1)=Yr c b s f (g+1):=by
   show (Yr c b s f g).take 0++(Yr c b s f g).drop 1=_
   rw [QgR hgf];rfl
  rw [e2]
  rfl
 rw [key]
 have f1:vX c b s f k1=vX c b s f 6:=by unfold vX;rw [if_neg h1,if_neg (by decide)]
 have f2:vY c b s f k1=vY c b s f 6:=by unfold vY;rw [if_neg h2,if_neg (by rintro ⟨e,_⟩;exact absurd e (by decide))]
 have f3:vG c b s (g+1) 6=[]:=by unfold vG;rw [if_neg];rintro (e | e);exact absurd e (by decide);exact absurd e.1 (by decide)
 rw [f1,f2]
 by_cases h:s=0
 ·rw [if_pos h]
  simp only [Yq,setX,setY,setG,setD,st,sPc,QG,sOps,Qu,QF,Qi,QK,sX,sY,sG,sD,QD,QC,sSat]
  have f4:vD c b s (g+1) 6=[]:=by unfold vD;rw [if_neg (by omega)]
  rw [f3,f4]
  rfl
 ·rw [if_neg h]
  simp only [Yq,setX,setY,setG,setD,st,sPc,QG,sOps,Qu,QF,Qi,QK,sX,sY,sG,sD,QD,QC,sSat]
  have f4:vD c b s (g+1) 6=doS c b s g:=by unfold vD;rw [if_pos ⟨rfl,by omega⟩,Nat.add_sub_cancel]
  rw [f3,f4]
  rfl
end
end Go.Proofs.YtjbdljkhbglnhaaGreat.Am
namespace Go.Proofs.YtjbdljkhbglnhaaGreat.Am
open Go Sz
structure Loc (ds n M s:Int) (rd:Bool) (f g:Nat) (k1:Int) (i:TIns) (last:Bool):Prop where
 c0:g≤f∧(f:Int)≤M∧1≤i.1∧i.1≤8∧0≤i.2∧i.2<M∧(i.1=8↔last=true)∧i≠(0,0)
 c1:i.1=1→0<s∧i.2=f∧k1≠1
 c2:i.1=2→i.2=f∧(0<s→k1=1)
 c3:i.1=3→s<n-1∧i.2=(f:Int)-1∧k1=2
 c4:i.1=4→s<n-1∧i.2=g
 c5:i.1=5→rd=true∧i.2=g∧g<f∧(s<n-1→k1=4)
 c6:i.1=6→i.2=g∧g<f∧(rd=true→k1=5)∧(rd=false→s<n-1→k1=4)
 c7:i.1=7→0<s∧i.2=(g:Int)-1∧k1=6
 c8:i.1=8→(f:Int)=M∧(g:Int)=M∧k1≠0
 c9:k1=1→i.1=2
 c10:k1=2→s<n-1→i.1=3
 c11:k1=4→i.1=5∨i.1=6
 c12:k1=5→i.1=6
 c13:k1=6→0<s→i.1=7
 c14:k1=5→rd=true
 c15:k1=6→1≤g
 c16:k1=2→1≤f
 c17:k1≠8
 c18:k1=4→s<n-1
 c19:k1=1→0<s
 c20:k1=4∨k1=5→g<f
 c21:k1=1→(f:Int)<M
 c22:s<n-1→(scOf f k1:Int)<M→tm ds n M s i≤tm ds n M s (3,(scOf f k1:Int))
 c23:0<s→(rcOf f k1:Int)<M→tm ds n M s i≤tm ds n M s (1,(rcOf f k1:Int))
 c24:s<n-1→(rgOf n s g k1:Int)<M→tm ds n M s i≤tm ds n M s (4,(rgOf n s g k1:Int))
 c25:0<s→(sgQ g k1:Int)<M→tm ds n M s i≤tm ds n M s (7,(sgQ g k1:Int))
 c26:ds=2→(f:Int)-g≤n-s
 c27:ds=2→i.1=2→(f:Int)-g<n-s
theorem QHN {ds n M s:Int} {rd:Bool} {f g:Nat} {k1:Int} {i:TIns} {last:Bool} (h:QgB ds n M s rd f g k1 i last=true):Loc ds n M s rd f g k1 i last:=by
 simp only [QgB,Bool.and_eq_true,decide_eq_true_eq] at h
 exact ⟨h.1.1.1.1.1.1.1.1.1.1.1.1.1.1.1.1.1.1.1.1.1.1.1.1.1.1.1,h.1.1.1.1.1.1.1.1.1.1.1.1.1.1.1.1.1.1.1.1.1.1.1.1.1.1.2,h.1.1.1.1.1.1.1.1.1.1.1.1.1.1.1.1.1.1.1.1.1.1.1.1.1.2,h.1.1.1.1.1.1.1.1.1.1.1.1.1.1.1.1.1.1.1.1.1.1.1.1.2,h.1.1.1.1.1.1.1.1.1.1.1.1.1.1.1.1.1.1.1.1.1.1.1.2,h.1.1.1.1.1.1.1.1.1.1.1.1.1.1.1.1.1.1.1.1.1.1.2,h.1.1.1.1.1.1.1.1.1.1.1.1.1.1.1.1.1.1.1.1.1.2,h.1.1.1.1.1.1.1.1.1.1.1.1.1.1.1.1.1.1.1.1.2,h.1.1.1.1.1.1.1.1.1.1.1.1.1.1.1.1.1.1.1.2,h.1.1.1.1.1.1.1.1.1.1.1.1.1.1.1.1.1.1.2,h.1.1.1.1.1.1.1.1.1.1.1.1.1.1.1.1.1.2,h.1.1.1.1.1.1.1.1.1.1.1.1.1.1.1.1.2,h.1.1.1.1.1.1.1.1.1.1.1.1.1.1.1.2,h.1.1.1.1.1.1.1.1.1.1.1.1.1.1.2,h.1.1.1.1.1.1.1.1.1.1.1.1.1.2,h.1.1.1.1.1.1.1.1.1.1.1.1.2,h.1.1.1.1.1.1.1.1.1.1.1.2,h.1.1.1.1.1.1.1.1.1.1.2,h.1.1.1.1.1.1.1.1.1.2,h.1.1.1.1.1.1.1.1.2,h.1.1.1.1.1.1.1.2,h.1.1.1.1.1.1.2,h.1.1.1.1.1.2,h.1.1.1.1.2,h.1.1.1.2,h.1.1.2,h.1.2,h.2⟩
section
variable (c:Ql) (b:List Qd)
def lenP (s:Nat):Nat:=(YH c b s).length
def insP (s k:Nat):TIns:=gtd dIns (YH c b s) k
def F (s k:Nat):Nat:=cf ((YH c b s).take k)
def G (s k:Nat):Nat:=cg ((YH c b s).take k)
def K1 (s k:Nat):Int:=Y3 (YH c b s) k
def sc (s k:Nat):Nat:=scOf (F c b s k) (K1 c b s k)
def rc (s k:Nat):Nat:=rcOf (F c b s k) (K1 c b s k)
def rg (s k:Nat):Nat:=rgOf (nSt c:Nat) (s:Int) (G c b s k) (K1 c b s k)
def sg (s k:Nat):Nat:=sgQ (G c b s k) (K1 c b s k)
def stAt (s k:Nat):Qc:=st c b s k (F c b s k) (G c b s k) (K1 c b s k)
abbrev JV (s:Nat):Int:=gtd 0 (Jr c) s
def aQ (ks:Nat→Nat) (s:Nat):Qm:=(JV c s,(List.range' (rc c b (s+1) (ks (s+1))) (sc c b s (ks s)-rc c b (s+1) (ks (s+1)))).map fun j:Nat=>((j:Int),inS c b (s+1) j))
def bQ (ks:Nat→Nat) (s:Nat):Qm:=(JV c s,(List.range' (rg c b s (ks s)) (sg c b (s+1) (ks (s+1))-rg c b s (ks s))).map fun j:Nat=>((j:Int),doS c b (s+1) j))
def Q6 (ks:Nat→Nat):Qr :=
 (b,(List.range (nSt c)).map (fun s=>stAt c b s (ks s)),(List.range (nSt c-1)).map (aQ c b ks),(List.range (nSt c-1)).map (bQ c b ks))
end
section
variable {c:Ql} {b:List Qd} (A:Adm c b)
include A
theorem QaN:1≤nSt c∧nSt c≤4:=by have:=A.stages;simp only [nSt];omega
theorem Qq1 {s:Nat} (hs:s<nSt c):Qc7 (cDs c) (nSt c:Nat) b.length s (YN c s) (YH c b s) 0 0 0=true:=by
 have h1:=QaN A
 have h2:=Qba A
 exact QFU (YN c s) A.ds.1 A.ds.2 (by omega) (by omega) (by omega) (by omega) (by omega)
theorem loc {s k:Nat} (hs:s<nSt c) (hk:k<lenP c b s):Loc (cDs c) (nSt c:Nat) b.length s (YN c s) (F c b s k) (G c b s k) (K1 c b s k) (insP c b s k) (decide (k+1=lenP c b s)):=by
 have h:=(QjX _ _ _ _ (Qq1 A hs) k (Nat.le_of_lt hk)).1 (insP c b s k) (Jp hk dIns)
 have e:(if k=0 then (0:Int) else Y3 (YH c b s) k)=K1 c b s k:=by
  unfold K1 Y3;split <;> rfl
 rw [e,Nat.zero_add,Nat.zero_add] at h
 exact QHN h
theorem QfY {s:Nat} (hs:s<nSt c):F c b s (lenP c b s)=b.length∧G c b s (lenP c b s)=b.length∧K1 c b s (lenP c b s)=8:=by
 have h:=(QjX _ _ _ _ (Qq1 A hs) (lenP c b s) (Nat.le_refl _)).2 rfl
 have e:(if lenP c b s=0 then (0:Int) else Y3 (YH c b s) (lenP c b s))=K1 c b s (lenP c b s):=by
  unfold K1 Y3;split <;> rfl
 rw [e,Nat.zero_add,Nat.zero_add] at h
 simp only [Qn5,decide_eq_true_eq] at h
 unfold F G
 exact ⟨by omega,by omega,h.2.2⟩
theorem nums {s k:Nat} (hs:s<nSt c) (hk:k≤lenP c b s):Nums b.length (F c b s k) (G c b s k) (K1 c b s k):=by
 by_cases h:k<lenP c b s
 ·have L:=loc A hs h
  exact ⟨L.c0.1,by have:=L.c0.2.1;omega,fun e=>by have:=L.c21 e;omega,L.c16,L.c20,L.c15⟩
 ·have:k=lenP c b s:=by omega
  subst this
  obtain ⟨h1,h2,h3⟩:=QfY A hs
  rw [h1,h2,h3]
  exact ⟨Nat.le_refl _,Nat.le_refl _,(fun e=>by simp at e),(fun e=>by simp at e),(fun e=>by simp at e),(fun e=>by simp at e)⟩
omit A in
theorem QuJ {s k:Nat} (hk:k<lenP c b s):F c b s (k+1)=F c b s k+kf (insP c b s k)∧G c b s (k+1)=G c b s k+kg (insP c b s k)∧K1 c b s (k+1)=(insP c b s k).1:=by
 have h:(YH c b s)[k]? = some (insP c b s k):=Jp hk dIns
 have ht:(YH c b s).take (k+1)=(YH c b s).take k++[insP c b s k]:=by rw [List.take_add_one,h];rfl
 refine ⟨?_,?_,?_⟩
 ·unfold F cf;rw [ht];simp
 ·unfold G cg;rw [ht];simp
 ·unfold K1 Y3;rw [if_neg (by omega)];rfl
theorem QbI {s:Nat} (hs:s<nSt c):sc c b s (lenP c b s)=b.length∧rc c b s (lenP c b s)=b.length∧rg c b s (lenP c b s)=b.length∧sg c b s (lenP c b s)=b.length:=by
 obtain ⟨h1,h2,h3⟩:=QfY A hs
 unfold sc rc rg sg
 rw [h1,h2,h3]
 exact ⟨rfl,rfl,rfl,rfl⟩
theorem Qzl {s k:Nat} (hs:s<nSt c) (hk:k<lenP c b s) :
  (s+1<nSt c→sc c b s (k+1)=sc c b s k+if (insP c b s k).1=3 then 1 else 0) ∧
  (0<s→rc c b s (k+1)=rc c b s k+if (insP c b s k).1=1 then 1 else 0) ∧
  (s+1<nSt c→rg c b s (k+1)=rg c b s k+if (insP c b s k).1=4 then 1 else 0) ∧
  (0<s→sg c b s (k+1)=sg c b s k+if (insP c b s k).1=7 then 1 else 0):=by
 have L:=loc A hs hk
 obtain ⟨e1,e2,e3⟩:=QuJ (c:=c) (b:=b) hk
 unfold sc rc rg sg
 rw [e1,e2,e3]
 generalize F c b s k=f at *
 generalize G c b s k=g at *
 generalize K1 c b s k=k1 at *
 generalize insP c b s k=i at *
 have hi:=L.c0
 have h6:i.1=6→(s:Int)<(nSt c:Nat)-1→k1=4∨k1=5:=fun e hlt=>by
  have h:=L.c6 e
  cases hr:YN c s with
  | true=>exact .inr (h.2.2.1 hr)
  | false=>exact .inl (h.2.2.2 hr hlt)
 have h1:=L.c1;have h2:=L.c2;have h3:=L.c3;have h4:=L.c4;have h5:=L.c5;have h7:=L.c7;have h9:=L.c9;have h10:=L.c10;have h11:=L.c11;have h12:=L.c12;have h13:=L.c13;have h15:=L.c15;have h16:=L.c16;have h18:=L.c18
 obtain ⟨i1,i2⟩:=i
 simp only at hi h1 h2 h3 h4 h5 h6 h7 h9 h10 h11 h12 h13
 unfold scOf rcOf rgOf sgQ kf kg
 simp only
 have hcase:i1=1∨i1=2∨i1=3∨i1=4∨i1=5∨i1=6∨i1=7∨i1=8:=by omega
 rcases hcase with rfl | rfl | rfl | rfl | rfl | rfl | rfl | rfl <;> simp at h1 h2 h3 h4 h5 h6 h7 h9 h10 h11 h12 h13 ⊢ <;> (refine ⟨?_,?_,?_,?_⟩ <;> intro hh <;> (repeat' split) <;> omega)
structure Ok (c:Ql) (b:List Qd) (ks:Nat→Nat):Prop where
 le:∀ s,s<nSt c→ks s≤lenP c b s
 qa:∀ s,s+1<nSt c→rc c b (s+1) (ks (s+1))≤sc c b s (ks s)∧(sc c b s (ks s):Int)-rc c b (s+1) (ks (s+1))≤JV c s
 qb:∀ s,s+1<nSt c→rg c b s (ks s)≤sg c b (s+1) (ks (s+1))∧(sg c b (s+1) (ks (s+1)):Int)-rg c b s (ks s)≤JV c s
 fl:(∃ s,s<nSt c∧ks s=lenP c b s)→∀ s,s<nSt c→lenP c b s≤ks s+1
def En (c:Ql) (b:List Qd) (ks:Nat→Nat) (s:Nat):Prop :=
 ks s<lenP c b s ∧
 ((insP c b s (ks s)).1=1→rc c b s (ks s)<sc c b (s-1) (ks (s-1))) ∧
 ((insP c b s (ks s)).1=3→(sc c b s (ks s):Int)-rc c b (s+1) (ks (s+1))<JV c s) ∧
 ((insP c b s (ks s)).1=4→rg c b s (ks s)<sg c b (s+1) (ks (s+1))) ∧
 ((insP c b s (ks s)).1=7→(sg c b s (ks s):Int)-rg c b (s-1) (ks (s-1))<JV c (s-1)) ∧
 ((insP c b s (ks s)).1=8→∀ j,j<nSt c→lenP c b j≤ks j+1)
theorem QbN {s:Nat} (hs:s+1<nSt c):1≤JV c s∧JV c s≤5:=by
 have:=A.caps
 simp only [Yp,Bool.and_eq_true,beq_iff_eq] at this
 have hl:s<(Jr c).length:=by simp only [nSt] at hs;have:=this.1;simp only [Jr,Q3] at *;omega
 have:=List.all_eq_true.1 this.2 _ (Y7 hl 0)
 exact QJ.1 this
theorem QgS:(Jr c).length=nSt c-1:=by
 have:=A.caps
 simp only [Yp,Bool.and_eq_true,beq_iff_eq] at this
 have:=this.1;simp only [nSt,Jr,Q3] at *;omega
omit A in
theorem QCY (n:Nat) (P:Nat→Prop) (t:Nat→Int) (h:∃ s,s<n∧P s):∃ s,s<n∧P s∧∀ j,j<n→P j→t s≤t j:=by
 induction n with
 | zero=>obtain ⟨s,h,_⟩:=h;omega
 | succ n ih =>
  by_cases h1:∃ s,s<n∧P s
  ·obtain ⟨s,hs,hp,hm⟩:=ih h1
   by_cases h2:P n∧t n<t s
   ·refine ⟨n,by omega,h2.1,fun j hj hpj=>?_⟩
    by_cases h3:j=n
    ·subst h3;omega
    ·have:=hm j (by omega) hpj;omega
   ·refine ⟨s,by omega,hp,fun j hj hpj=>?_⟩
    by_cases h3:j=n
    ·subst h3
     have:¬ t j<t s:=fun h=>h2 ⟨hpj,h⟩
     omega
    ·exact hm j (by omega) hpj
  ·obtain ⟨s,hs,hp⟩:=h
   have:s=n:=by
    apply Classical.byContradiction;intro hne
    exact h1 ⟨s,by omega,hp⟩
   subst this
   refine ⟨s,by omega,hp,fun j hj hpj=>?_⟩
   by_cases h3:j=s
   ·subst h3;omega
   ·exact absurd ⟨j,by omega,hpj⟩ h1
set_option maxHeartbeats 1000000 in
theorem QIS {ks:Nat→Nat} (V:Ok c b ks) (h:∃ s,s<nSt c∧ks s<lenP c b s):∃ s,s<nSt c∧En c b ks s:=by
 obtain ⟨s,hs,hk,hmin⟩:=QCY (nSt c) (fun s=>ks s<lenP c b s) (fun s=>tm (cDs c) (nSt c:Nat) b.length s (insP c b s (ks s))) h
 have L:=loc A hs hk
 refine ⟨s,hs,hk,fun hi=>?_,fun hi=>?_,fun hi=>?_,fun hi=>?_,fun hi=>?_⟩
 ·obtain ⟨h0,h1,h2⟩:=L.c1 hi
  have h0:0<s:=by omega
  have hq:=(V.qa (s-1) (by omega)).1
  rw [show s-1+1=s by omega] at hq
  apply Classical.byContradiction
  intro hn
  have hrc:rc c b s (ks s)=F c b s (ks s):=by unfold rc rcOf;rw [if_neg h2]
  have hlt:(F c b s (ks s):Int)<b.length:=by have:=L.c0;omega
  by_cases hj:ks (s-1)<lenP c b (s-1)
  ·have L':=loc A (s:=s-1) (by omega) hj
   have h3:=L'.c22 (by omega) (by show ((sc c b (s-1) (ks (s-1)):Nat):Int)<_;omega)
   have h4:=hmin (s-1) (by omega) hj
   have e1:(scOf (F c b (s-1) (ks (s-1))) (K1 c b (s-1) (ks (s-1))))=F c b s (ks s):=by show sc c b (s-1) (ks (s-1))=_;omega
   rw [e1] at h3
   simp only [tm,hi,h1] at h3 h4
   simp at h3 h4
   omega
  ·have:=V.le (s-1) (by omega)
   rw [show ks (s-1)=lenP c b (s-1) by omega,(QbI A (by omega)).1] at hn
   omega
 ·obtain ⟨h0,h1,h2⟩:=L.c3 hi
  have hq:=(V.qa s (by omega)).1
  have hcap:=QbN A (s:=s) (by omega)
  apply Classical.byContradiction
  intro hn
  have h16:=L.c16 h2
  have hsc:sc c b s (ks s)=F c b s (ks s)-1:=by unfold sc scOf;rw [if_pos h2]
  have hfM:(F c b s (ks s):Int)≤b.length:=L.c0.2.1
  by_cases hj:ks (s+1)<lenP c b (s+1)
  ·have L':=loc A (s:=s+1) (by omega) hj
   have e1:(rcOf (F c b (s+1) (ks (s+1))) (K1 c b (s+1) (ks (s+1))))=rc c b (s+1) (ks (s+1)):=rfl
   have h3:=L'.c23 (by omega) (by rw [e1];omega)
   have h4:=hmin (s+1) (by omega) hj
   rw [e1] at h3
   simp only [tm,hi,h1] at h3 h4
   simp at h3 h4
   omega
  ·have:=V.le (s+1) (by omega)
   rw [show ks (s+1)=lenP c b (s+1) by omega,(QbI A (by omega)).2.1] at hn
   omega
 ·obtain ⟨h0,h1⟩:=L.c4 hi
  have hq:=(V.qb s (by omega)).1
  apply Classical.byContradiction
  intro hn
  have h2:¬ (K1 c b s (ks s)=4∨(K1 c b s (ks s)=5∧(s:Int)<(nSt c:Nat)-1)):=by
   rintro (h | h)
   ·have:=L.c11 h;omega
   ·have:=L.c12 h.1;omega
  have hrg:rg c b s (ks s)=G c b s (ks s):=by unfold rg rgOf;rw [if_neg h2]
  have hlt:(G c b s (ks s):Int)<b.length:=by have:=L.c0;omega
  by_cases hj:ks (s+1)<lenP c b (s+1)
  ·have L':=loc A (s:=s+1) (by omega) hj
   have h3:=L'.c25 (by omega) (by show ((sg c b (s+1) (ks (s+1)):Nat):Int)<_;omega)
   have h4:=hmin (s+1) (by omega) hj
   have e1:(sgQ (G c b (s+1) (ks (s+1))) (K1 c b (s+1) (ks (s+1))))=G c b s (ks s):=by show sg c b (s+1) (ks (s+1))=_;omega
   rw [e1] at h3
   simp only [tm,hi,h1] at h3 h4
   simp at h3 h4
   split at h3 <;> simp_all <;> omega
  ·have:=V.le (s+1) (by omega)
   rw [show ks (s+1)=lenP c b (s+1) by omega,(QbI A (by omega)).2.2.2] at hn
   omega
 ·obtain ⟨h0,h1,h2⟩:=L.c7 hi
  have h0:0<s:=by omega
  have hq:=(V.qb (s-1) (by omega)).1
  rw [show s-1+1=s by omega] at hq
  have hcap:=QbN A (s:=s-1) (by omega)
  apply Classical.byContradiction
  intro hn
  have h15:=L.c15 h2
  have hsg:sg c b s (ks s)=G c b s (ks s)-1:=by unfold sg sgQ;rw [if_pos h2]
  have hfM:(G c b s (ks s):Int)≤b.length:=by have:=L.c0;omega
  by_cases hj:ks (s-1)<lenP c b (s-1)
  ·have L':=loc A (s:=s-1) (by omega) hj
   have e1:(rgOf (nSt c:Nat) ((s-1:Nat):Int) (G c b (s-1) (ks (s-1))) (K1 c b (s-1) (ks (s-1))))=rg c b (s-1) (ks (s-1)):=rfl
   have h3:=L'.c24 (by omega) (by rw [e1];omega)
   have h4:=hmin (s-1) (by omega) hj
   rw [e1] at h3
   simp only [tm,hi,h1] at h3 h4
   simp at h3 h4
   split at h3 <;> simp_all <;> omega
  ·have:=V.le (s-1) (by omega)
   rw [show ks (s-1)=lenP c b (s-1) by omega,(QbI A (by omega)).2.2.1] at hn
   omega
 ·intro j hj
  apply Classical.byContradiction
  intro hn
  have hj':ks j<lenP c b j:=by omega
  have L':=loc A hj hj'
  have h4:=hmin j hj hj'
  have h5:(insP c b j (ks j)).1≠8:=fun e=>by have:=L'.c0.2.2.2.2.2.2.1.1 e;simp at this;omega
  have h6:=L'.c0
  have hn4:=QaN A
  have hb5:=Qba A
  generalize insP c b j (ks j)=i' at *
  generalize insP c b s (ks s)=i at *
  have:tm (cDs c) (nSt c:Nat) b.length s i=1000000:=by unfold tm;simp [hi]
  rw [this] at h4
  unfold tm at h4
  simp only at h4
  repeat' split at h4
  all_goals omega
end
end Go.Proofs.YtjbdljkhbglnhaaGreat.Am

