/- -/
import Derived.Test.YtjbdljkhbglnhaaGreatZGG8
set_option linter.all false
namespace Go.Proofs.YtjbdljkhbglnhaaGreat.Am
open Go Sz
def Zo (m:Q3) (cuts:List Int) (s:Nat):Nat:=if s=0 then 0 else if s≤cuts.length then (gtd 0 cuts (s-1)).toNat else m.length
def Yf (m:Q3) (cuts:List Int) (s:Nat):List TOp':=(m.drop (Zo m cuts s)).take (Zo m cuts (s+1)-Zo m cuts s)
section
variable {m:Q3} {cuts:List Int} (hc:Q5 m cuts=true)
include hc
theorem Qgd {s:Nat} (hs:s≤cuts.length):Zo m cuts s<Zo m cuts (s+1):=by
 have hl:=QaM hc
 have hg:ZY (m.length-1) none cuts=true:=by have:=hc;simp only [Q5,Bool.and_eq_true] at this;exact this.2
 have h1:∀ k:Nat,k<cuts.length→1≤gtd 0 cuts k∧gtd 0 cuts k≤(m.length:Int)-1:=fun k hk=>by
  have:=QcH hg k _ (Y7 hk 0);omega
 have h2:∀ k:Nat,k+1<cuts.length→gtd 0 cuts k<gtd 0 cuts (k+1):=fun k hk=>Qjz hg k _ _ (Y7 (by omega) 0) (Y7 hk 0)
 unfold Zo
 rw [if_neg (Nat.succ_ne_zero s)]
 by_cases h0:s=0
 ·subst h0
  rw [if_pos rfl]
  split
  ·have:=h1 0 (by omega);simp;omega
  ·omega
 ·rw [if_neg h0,if_pos hs]
  have h3:=h1 (s-1) (by omega)
  split
  ·have h4:=h2 (s-1) (by omega)
   rw [show s-1+1=s by omega] at h4
   rw [show s+1-1=s by omega]
   omega
  ·omega
theorem Que {s:Nat}:Zo m cuts s≤m.length:=by
 have hl:=QaM hc
 have hg:ZY (m.length-1) none cuts=true:=by have:=hc;simp only [Q5,Bool.and_eq_true] at this;exact this.2
 unfold Zo
 split
 ·omega
 ·split
  ·have:=QcH hg (s-1) _ (Y7 (by omega) 0);omega
  ·omega
theorem QcQ:Zo m cuts (cuts.length+1)=m.length:=by have _:=hc;unfold Zo;rw [if_neg (by omega),if_neg (by omega)]
theorem QGS {s:Nat} (hs:s≤cuts.length):Qs m cuts (s:Int)=((Zo m cuts s:Int),(Zo m cuts (s+1):Int)):=by
 have hl:=QaM hc
 have hg:ZY (m.length-1) none cuts=true:=by have:=hc;simp only [Q5,Bool.and_eq_true] at this;exact this.2
 have h1:∀ k:Nat,k<cuts.length→1≤gtd 0 cuts k∧gtd 0 cuts k≤(m.length:Int)-1:=fun k hk=>by
  have:=QcH hg k _ (Y7 hk 0);omega
 unfold Qs
 rw [if_pos (by rw [hc,Bool.true_and,QL];omega)]
 unfold Zo
 refine Prod.ext ?_ ?_
 ·dsimp only
  by_cases h0:s=0
  ·subst h0;simp
  ·rw [if_pos (by omega),if_neg h0,if_pos hs,Int.toNat_natCast]
   have:=h1 (s-1) (by omega);omega
 ·dsimp only
  rw [if_neg (Nat.succ_ne_zero s)]
  by_cases h2:s<cuts.length
  ·rw [if_pos (by omega),if_pos (by omega),Int.toNat_natCast,show s+1-1=s by omega]
   have:=h1 s h2;omega
  ·rw [if_neg (by omega),if_neg (by omega)]
theorem QJh {s:Nat} (hs:s≤cuts.length):slice m (Qs m cuts (s:Int)).1 (Qs m cuts (s:Int)).2=Yf m cuts s:=by
 rw [QGS hc hs];simp [slice,Yf]
theorem QMe {s:Nat} (hs:s≤cuts.length):(Yf m cuts s).length=Zo m cuts (s+1)-Zo m cuts s:=by
 have:=Que hc (s:=s+1)
 have:=Qgd hc hs
 unfold Yf;simp;omega
theorem QhU {s:Nat} (hs:s≤cuts.length):1≤(Yf m cuts s).length∧(Yf m cuts s).length≤8:=by
 rw [QMe hc hs]
 have:=Que hc (s:=s+1)
 have:=Qgd hc hs
 have:=(QaM hc).2.1
 omega
theorem QMT {s:Nat} (hs:s≤cuts.length):m.take (Zo m cuts (s+1))=m.take (Zo m cuts s)++Yf m cuts s:=by
 have:=Qgd hc hs
 unfold Yf
 rw [← List.take_add,show Zo m cuts s+(Zo m cuts (s+1)-Zo m cuts s)=Zo m cuts (s+1) by omega]
theorem Qc3 {s:Nat} (hs:s≤cuts.length):m.drop (Zo m cuts s)=Yf m cuts s++m.drop (Zo m cuts (s+1)):=by
 have:=Qgd hc hs
 unfold Yf
 have h:=List.take_append_drop (Zo m cuts (s+1)-Zo m cuts s) (m.drop (Zo m cuts s))
 rw [List.drop_drop,show Zo m cuts s+(Zo m cuts (s+1)-Zo m cuts s)=Zo m cuts (s+1) by omega] at h
 exact h.symm
end
def inp (m:Q3) (cuts:List Int) (x:List Int) (s:Nat):List Int:=ZO (m.take (Zo m cuts s)) x
def Qbr (m:Q3) (cuts:List Int) (x:List Int) (s:Nat):List (List Int):=(Qw (Yf m cuts s) (inp m cuts x s)).1
def fsat (m:Q3) (cuts:List Int) (x:List Int) (s:Nat):Bool:=(Qw (Yf m cuts s) (inp m cuts x s)).2
def JW (m:Q3) (cuts:List Int) (p:Qd) (s:Nat):List (List Int) × List Int × Bool :=
 QN (m.drop (Zo m cuts s)) (Qw (m.drop (Zo m cuts s)) (inp m cuts p.1 s)).1 (Zu (ZO m p.1) p.2).1
def dOut (m:Q3) (cuts:List Int) (p:Qd) (s:Nat):List Int:=(JW m cuts p s).2.1
def Qak (m:Q3) (cuts:List Int) (p:Qd) (s:Nat):List (List Int) × List Int × Bool:=QN (Yf m cuts s) (Qbr m cuts p.1 s) (dOut m cuts p (s+1))
section
variable {m:Q3} {cuts:List Int} (hc:Q5 m cuts=true)
include hc
theorem Qzf (x:List Int):inp m cuts x 0=x:=by have _:=hc;unfold inp Zo;simp [QfS]
theorem Qfy (x:List Int):inp m cuts x (cuts.length+1)=ZO m x:=by unfold inp;rw [QcQ hc,List.take_length]
theorem QjN {s:Nat} (hs:s≤cuts.length) (x:List Int):inp m cuts x (s+1)=ZO (Yf m cuts s) (inp m cuts x s):=by
 unfold inp;rw [QMT hc hs,QGZ]
theorem Qxn {s:Nat} (hs:s≤cuts.length) (p:Qd) :
  JW m cuts p s=((Qak m cuts p s).1++(JW m cuts p (s+1)).1,(Qak m cuts p s).2.1,(Qak m cuts p s).2.2||(JW m cuts p (s+1)).2.2):=by
 unfold Qak Qbr dOut
 have e:=QjN hc hs p.1
 conv=>lhs;unfold JW
 rw [Qc3 hc hs,QDx]
 unfold JW
 rw [e]
theorem Qz0 {s:Nat} (hs:s≤cuts.length) (p:Qd):dOut m cuts p s=(Qak m cuts p s).2.1:=by unfold dOut;rw [Qxn hc hs]
theorem QDl (p:Qd):dOut m cuts p (cuts.length+1)=(Zu (ZO m p.1) p.2).1:=by
 unfold dOut JW
 rw [QcQ hc,List.drop_length]
 simp [QN]
theorem QqC (p:Qd):∀ (k s:Nat),s+k=cuts.length+1 →
  (JW m cuts p s).1=(List.range' s k).flatMap (fun j=>(Qak m cuts p j).1)∧(JW m cuts p s).2.2=(List.range' s k).any (fun j=>(Qak m cuts p j).2.2)
 | 0,s,h=>by
  have:s=cuts.length+1:=by omega
  subst this
  unfold JW
  rw [QcQ hc,List.drop_length]
  simp [QN]
 | k+1,s,h=>by
  have ih:=QqC p k (s+1) (by omega)
  rw [Qxn hc (by omega)]
  simp only [List.range'_succ,List.flatMap_cons,List.any_cons,ih.1,ih.2,and_self]
theorem Qtu (x:List Int):∀ (k s:Nat),s+k=cuts.length+1→(Qw (m.drop (Zo m cuts s)) (inp m cuts x s)).2=(List.range' s k).any (fun j=>fsat m cuts x j)
 | 0,s,h=>by
  have:s=cuts.length+1:=by omega
  subst this
  rw [QcQ hc,List.drop_length]
  rfl
 | k+1,s,h=>by
  have ih:=Qtu x k (s+1) (by omega)
  rw [Qc3 hc (by omega),Qjq]
  simp only [List.range'_succ,List.any_cons]
  rw [← QjN hc (by omega),ih]
  rfl
end
end Go.Proofs.YtjbdljkhbglnhaaGreat.Am
namespace Go.Proofs.YtjbdljkhbglnhaaGreat.Am
open Go Sz
structure Adm (c:Qh) (b:List Qd):Prop where
 model:QE (QY c)=true
 batch:ZM (QY c) b=true
 cuts:Q5 (QY c) (Q6 c)=true
 stages:(Q6 c).length+1≤4
 ds:1≤cDs c∧cDs c≤2
 redo:(JU c).length=(Q6 c).length+1
 caps:Yn c=true
 limits:Yo c b.length=true
theorem Qim {c:Qh} {b:List Qd} (h:Q7 c b=0):Adm c b:=by
 unfold Q7 at h
 have hs:=QbO (c:=c)
 split at h
 ·simp at h
 split at h
 ·simp at h
 split at h
 ·simp at h
 split at h
 ·simp at h
 split at h
 ·simp at h
 split at h
 ·simp at h
 split at h
 ·simp at h
 rename_i h1 h2 h3 h4 h5 h6 h7
 have hc:=hs.2.2.1.1 (by omega)
 have e:=hs.2.2.2 hc
 have h4':m_in (cDs c) 1 2=true:=by simpa using h4
 exact ⟨by simpa using h1,by simpa using h2,hc,by have:=e;simp only [Q6];omega,QL.1 h4',by have:=e;simp only [Q6,JU];omega,by simpa using h6,by simpa using h7⟩
theorem Qmz {c:Qh} {b:List Qd} (A:Adm c b):Q7 c b=0:=by
 have hs:=QbO (c:=c)
 have e:=hs.2.2.2 A.cuts
 have h4:=A.stages
 have hr:=A.redo
 simp only [Q6,JU] at h4 hr
 unfold Q7
 rw [if_neg (by simp [A.model]),if_neg (by simp [A.batch]),if_neg (by omega),if_neg (by have:=QL.2 A.ds;simp [this]),if_neg (by simp;omega),if_neg (by simp [A.caps]),if_neg (by simp [A.limits])]
def nSt (c:Qh):Nat:=(Q6 c).length+1
abbrev prAt (b:List Qd) (k:Nat):Qd:=gtd Zj b k
def dimI (m:Q3) (cuts:List Int) (s:Nat):Int:=if s≤cuts.length then QX (Yf m cuts s) else Q1 m
section
variable {m:Q3} {cuts:List Int} (hc:Q5 m cuts=true)
include hc
theorem QFD:QE m=true:=by have:=hc;simp only [Q5,Bool.and_eq_true] at this;exact this.1
theorem QfT {s:Nat} (hs:s≤cuts.length+1):Z5 (QX m) (m.take (Zo m cuts s)) (dimI m cuts s)∧Z5 (dimI m cuts s) (m.drop (Zo m cuts s)) (Q1 m):=by
 obtain ⟨_,_,h⟩:=QGp (QFD hc)
 have h':=h
 rw [← List.take_append_drop (Zo m cuts s) m] at h'
 have h'':Z5 (QX m) (m.take (Zo m cuts s)++m.drop (Zo m cuts s)) (Q1 m):=by rw [List.take_append_drop];exact h
 obtain ⟨k,h1,h2⟩:=Z5.append.1 h''
 have hk:k=dimI m cuts s:=by
  unfold dimI
  by_cases h3:s≤cuts.length
  ·rw [if_pos h3]
   rw [Qc3 hc h3] at h2
   obtain ⟨k2,h4,h5⟩:=Z5.append.1 h2
   have hp:=QhU hc h3
   exact (Qgh h4 hp.1 hp.2).2.1.symm
  ·have es:s=cuts.length+1:=by omega
   subst es
   rw [QcQ hc,List.drop_length] at h2
   rw [if_neg h3]
   exact h2
 rw [← hk]
 exact ⟨h1,h2⟩
theorem Qjm {s:Nat} (hs:s≤cuts.length):Z5 (dimI m cuts s) (Yf m cuts s) (dimI m cuts (s+1)):=by
 obtain ⟨_,h2⟩:=QfT hc (s:=s) (by omega)
 rw [Qc3 hc hs] at h2
 obtain ⟨k2,h4,h5⟩:=Z5.append.1 h2
 have:k2=dimI m cuts (s+1):=by
  obtain ⟨h6,h7⟩:=QfT hc (s:=s+1) (by omega)
  by_cases h8:s+1≤cuts.length
  ·have hp:=QhU hc h8
   rw [Qc3 hc h8] at h5
   obtain ⟨k3,h9,_⟩:=Z5.append.1 h5
   unfold dimI
   rw [if_pos h8]
   exact (Qgh h9 hp.1 hp.2).2.1.symm
  ·rw [show s+1=cuts.length+1 by omega,QcQ hc,List.drop_length] at h5
   unfold dimI
   rw [if_neg h8]
   exact h5
 rw [← this]
 exact h4
theorem QBj {s:Nat} (hs:s≤cuts.length):QE (Yf m cuts s)=true∧QX (Yf m cuts s)=dimI m cuts s∧Q1 (Yf m cuts s)=dimI m cuts (s+1):=by
 have hp:=QhU hc hs
 exact Qgh (Qjm hc hs) hp.1 hp.2
theorem Qv5:dimI m cuts (cuts.length+1)=Q1 m:=by have _:=hc;unfold dimI;rw [if_neg (by omega)]
variable {p:Qd} (hp:YR m p=true)
include hp
theorem QiZ:Qq p.1 (QX m)=true∧Qq p.2 (Q1 m)=true:=by
 have _:=hc
 simp only [YR,Bool.and_eq_true] at hp;exact ⟨hp.1.2,hp.2⟩
theorem QeB {s:Nat} (hs:s≤cuts.length+1):Qq (inp m cuts p.1 s) (dimI m cuts s)=true:=QsM (QfT hc hs).1 (QiZ hc hp).1
theorem QJj:Qq (ZO m p.1) (Q1 m)=true:=by
 have:=QeB hc hp (s:=cuts.length+1) (by omega)
 rwa [Qfy hc,Qv5 hc] at this
theorem QLk:Qq (Zu (ZO m p.1) p.2).1 (Q1 m)=true:=by
 have h1:=QJj hc hp
 have h2:=(QiZ hc hp).2
 have:=QCK (Qjc h1 h2)
 rwa [(YQ.1 h1).2] at this
theorem QoE {s:Nat} (hs:s≤cuts.length+1):Qq (dOut m cuts p s) (dimI m cuts s)=true:=(Qku (QfT hc hs).2 (QeB hc hp hs) (QLk hc hp)).1
theorem QFd {s:Nat} (hs:s≤cuts.length):ZQ (Yf m cuts s) (Qak m cuts p s).1=true∧(Qak m cuts p s).1.length=(Yf m cuts s).length :=
 ⟨(Qku (Qjm hc hs) (QeB hc hp (by omega)) (QoE hc hp (by omega))).2,QjO _ _ _ (by unfold Qbr;rw [Qdv];omega)⟩
theorem Qs7 {s:Nat} (hs:s≤cuts.length):YB (Yf m cuts s) 0 (Qbr m cuts p.1 s)=true :=
 QIp (Qjm hc hs) (by have:=QhU hc hs;intro e;rw [e] at this;simp at this) (QeB hc hp (by omega))
theorem Qnb {s:Nat}:(Qbr m cuts p.1 s).length=(Yf m cuts s).length+1:=by have _:=hc;have _:=hp;exact Qdv _ _
theorem QIa {s:Nat}:gtd [] (Qbr m cuts p.1 s) 0=inp m cuts p.1 s:=by have _:=hc;have _:=hp;exact QCz _ _
theorem Qyl {s:Nat} (hs:s≤cuts.length):gtd [] (Qbr m cuts p.1 s) (Yf m cuts s).length=inp m cuts p.1 (s+1):=by have _:=hp;rw [QjN hc hs];rfl
end
end Go.Proofs.YtjbdljkhbglnhaaGreat.Am
namespace Go.Proofs.YtjbdljkhbglnhaaGreat.Am
open Go Sz
section
variable (c:Qh) (b:List Qd)
def YO (s:Nat):Bool:=gtd false (JU c) s
def YN (s:Nat):List TIns:=Ye (cDs c) (nSt c:Nat) s b.length (YO c s)
abbrev opS (s:Nat):List TOp':=Yf (QY c) (Q6 c) s
abbrev inS (s j:Nat):List Int:=inp (QY c) (Q6 c) (prAt b j).1 s
abbrev rowS (s j:Nat):List (List Int):=Qbr (QY c) (Q6 c) (prAt b j).1 s
abbrev doS (s j:Nat):List Int:=dOut (QY c) (Q6 c) (prAt b j) s
abbrev bkS (s j:Nat):=Qak (QY c) (Q6 c) (prAt b j) s
abbrev outA (j:Nat):List Int:=ZO (QY c) (prAt b j).1
def Q4 (s:Nat):Bool:=decide (s+1=nSt c)
def Qaz (s:Nat) (r:List (List Int)):List (List Int):=if YO c s then r.take 1 else r
def Ji (s:Nat):Nat→List (List Int)
 | 0=>(ZU (opS c s)).1
 | g+1=>(Zk (Ji s g) (bkS c b s g).1).1
def YY:Nat→Int
 | 0=>0
 | f+1=>(Zn (YY f) (Yh (outA c b f) (prAt b f).2).1).1
def lsat (f:Nat):Bool:=(Yh (outA c b f) (prAt b f).2).2||(Zn (YY c b f) (Yh (outA c b f) (prAt b f).2).1).2
def Qdt (s j:Nat):Bool:=fsat (QY c) (Q6 c) (prAt b j).1 s||(Q4 c s&&lsat c b j)
def Qer (s j:Nat):Bool:=(bkS c b s j).2.2||(Zk (Ji c b s j) (bkS c b s j).1).2||(Q4 c s&&(Zu (outA c b j) (prAt b j).2).2)
def satV (s f g:Nat):Bool:=(List.range f).any (Qdt c b s)||(List.range g).any (Qer c b s)
def Yr (s f g:Nat):List Yj:=(List.range' g (f-g)).map fun j:Nat=>((j:Int),Qaz c s (rowS c b s j))
def J3 (s g:Nat) (k1:Int):List (List Int):=if k1=5 then rowS c b s g else []
def vX (s f:Nat) (k1:Int):List Int:=if k1=1 then inS c b s f else []
def vY (s f:Nat) (k1:Int):List Int:=if k1=2∧s+1<nSt c then inS c b (s+1) (f-1) else []
def vG (s g:Nat) (k1:Int):List Int:=if k1=4∨(k1=5∧s+1<nSt c) then doS c b (s+1) g else []
def vD (s g:Nat) (k1:Int):List Int:=if k1=6∧0<s then doS c b s (g-1) else []
def st (s:Nat) (k f g:Nat) (k1:Int):Qc :=
 ((k:Int),YN c b s,opS c s,Q4 c s,YO c s,Yr c b s f g,J3 c b s g k1,vX c b s f k1,vY c b s f k1,vG c b s g k1,vD c b s g k1,Ji c b s g,(if Q4 c s then YY c b f else 0),satV c b s f g)
end
structure Nums (M f g:Nat) (kk:Int):Prop where
 gf:g≤f
 fM:f≤M
 k1:kk=1→f<M
 k2:kk=2→1≤f
 k45:kk=4∨kk=5→g<f
 k6:kk=6→1≤g
theorem Qv8:∀ {l:List Yj} {m k:Int},(∀ x,x∈l→x.1≠m)→JP l m k = -1
 | [],m,k,h=>rfl
 | x::r,m,k,h=>by rw [JP,if_neg (h x List.mem_cons_self)];exact Qv8 (fun y hy=>h y (List.mem_cons_of_mem _ hy))
theorem QLv {c:Qh} {b:List Qd} {s f g:Nat}:QT (Yr c b s f g) (f:Int) = -1:=by
 refine Qv8 (fun x hx=>?_)
 unfold Yr at hx
 obtain ⟨j,hj,rfl⟩:=List.mem_map.1 hx
 rw [List.mem_range'_1] at hj
 simp only [ne_eq];omega
theorem Qhq {c:Qh} {b:List Qd} {s f g:Nat} (h:g<f):Yr c b s f g=((g:Int),Qaz c s (rowS c b s g))::Yr c b s f (g+1):=by
 unfold Yr
 rw [show f-g=(f-(g+1))+1 by omega,List.range'_succ,List.map_cons]
theorem QJi {c:Qh} {b:List Qd} {s f g:Nat} (h:g≤f):Yr c b s (f+1) g=Yr c b s f g++[((f:Int),Qaz c s (rowS c b s f))]:=by
 unfold Yr
 rw [show f+1-g=(f-g)+1 by omega,List.range'_concat,List.map_append]
 simp only [List.map_cons,List.map_nil,Nat.one_mul]
 rw [show g+(f-g)=f by omega]
theorem Qn7 {c:Qh} {b:List Qd} {s f g:Nat} (h:g<f):QT (Yr c b s f g) (g:Int)=0:=by
 rw [Qhq h];unfold QT;rw [JP,if_pos rfl]
theorem QaH {c:Qh} {b:List Qd} {s g:Nat} {k1:Int} (h:k1≠5):J3 c b s g k1=[]:=by unfold J3;rw [if_neg h]
theorem Qau {c:Qh} {b:List Qd} {s f:Nat} {k1:Int} (h:k1≠1):vX c b s f k1=[]:=by unfold vX;rw [if_neg h]
theorem Qao {c:Qh} {b:List Qd} {s f:Nat} {k1:Int} (h:¬ (k1=2∧s+1<nSt c)):vY c b s f k1=[]:=by unfold vY;rw [if_neg h]
theorem QbY {c:Qh} {b:List Qd} {s g:Nat} {k1:Int} (h4:k1≠4) (h5:k1≠5):vG c b s g k1=[]:=by
 unfold vG;rw [if_neg];rintro (e | e)
 ·exact h4 e
 ·exact h5 e.1
theorem Qah {c:Qh} {b:List Qd} {s g:Nat} {k1:Int} (h:¬ (k1=6∧0<s)):vD c b s g k1=[]:=by unfold vD;rw [if_neg h]
theorem Js {p:Prop} {x y:Int} (h:x≠y):¬ (x=y∧p):=fun e=>h e.1
theorem QHp {c:Qh} {b:List Qd} {s f:Nat}:vX c b s f 1=inS c b s f:=by unfold vX;rw [if_pos rfl]
theorem QMx {c:Qh} {b:List Qd} {s g:Nat}:vG c b s g 4=doS c b (s+1) g:=by unfold vG;rw [if_pos (.inl rfl)]
section
variable {c:Qh} {b:List Qd} (A:Adm c b)
include A
theorem Qbc:1≤b.length∧b.length≤5:=by
 have:=A.batch;simp only [ZM,Bool.and_eq_true,QL] at this;omega
theorem QaR {j:Nat} (hj:j<b.length):YR (QY c) (prAt b j)=true:=by
 have:=A.batch;simp only [ZM,Bool.and_eq_true] at this
 exact List.all_eq_true.1 this.2 _ (Jt hj Zj)
theorem QJX (f:Nat):Zc (YY c b f)=true:=by
 have _:=A
 cases f with
 | zero=>rfl
 | succ f=>exact QkB _ _
theorem QEV (s f:Nat):Zc (if Q4 c s then YY c b f else 0)=true:=by
 split
 ·exact QJX A f
 ·rfl
theorem Qdh {s:Nat} (hs:s<nSt c):QE (opS c s)=true∧QX (opS c s)=dimI (QY c) (Q6 c) s∧Q1 (opS c s)=dimI (QY c) (Q6 c) (s+1):=QBj A.cuts (by simp only [nSt] at hs;omega)
theorem QD2 {s:Nat} (hs:s<nSt c):(ZU (opS c s)).1.length=(opS c s).length∧ZQ (opS c s) (ZU (opS c s)).1=true:=by
 unfold ZU
 rw [if_pos (Qdh A hs).1]
 simp only [List.length_map,true_and]
 generalize opS c s=l
 induction l with
 | nil=>rfl
 | cons o l ih=>simp [ZQ,ih]
theorem Qwb {s j:Nat} (hs:s<nSt c) (hj:j<b.length):(bkS c b s j).1.length=(opS c s).length∧ZQ (opS c s) (bkS c b s j).1=true:=by
 have:=QFd A.cuts (QaR A hj) (s:=s) (by simp only [nSt] at hs;omega)
 exact ⟨this.2,this.1⟩
theorem QiY {s:Nat} (hs:s<nSt c):∀ {g:Nat},g≤b.length→(Ji c b s g).length=(opS c s).length∧ZQ (opS c s) (Ji c b s g)=true
 | 0,_=>QD2 A hs
 | g+1,hg=>by
  obtain ⟨h1,h2⟩:=QiY hs (g:=g) (by omega)
  obtain ⟨h3,h4⟩:=Qwb A hs (j:=g) (by omega)
  refine ⟨?_,Qpd h1 h3 h2 h4⟩
  show (Zk _ _).1.length=_
  rw [Qo0];omega
theorem Qfa {s j:Nat} (hs:s≤nSt c) (hj:j<b.length):Qq (inS c b s j) (dimI (QY c) (Q6 c) s)=true:=QeB A.cuts (QaR A hj) hs
theorem Qez {s j:Nat} (hs:s≤nSt c) (hj:j<b.length):Qq (doS c b s j) (dimI (QY c) (Q6 c) s)=true:=QoE A.cuts (QaR A hj) hs
theorem QiM {s k f g:Nat} {k1:Int} (hs:s<nSt c) (hk:k≤(YN c b s).length) (H:Nums b.length f g k1):QS (st c b s k f g k1)=true:=by
 obtain ⟨hm,hi,ho⟩:=Qdh A hs
 have hs':s≤(Q6 c).length:=by simp only [nSt] at hs;omega
 have hsr:=QiY A hs (g:=g) (by have:=H.gf;have:=H.fM;omega)
 have hX:Z7 (vX c b s f k1) (QX (opS c s))=true:=by
  unfold vX Z7;split
  ·rename_i h;rw [hi,Qfa A (by omega) (H.k1 h)];simp
  ·simp
 have hY:Z7 (vY c b s f k1) (Q1 (opS c s))=true:=by
  unfold vY Z7;split
  ·rename_i h;rw [ho,Qfa A (by omega) (by have:=H.k2 h.1;have:=H.fM;omega)];simp
  ·simp
 have hG:Z7 (vG c b s g k1) (Q1 (opS c s))=true:=by
  unfold vG Z7;split
  ·rename_i h
   have:g<f:=H.k45 (h.imp id (fun h=>h.1))
   rw [ho,Qez A (by omega) (by have:=H.fM;omega)];simp
  ·simp
 have hD:Z7 (vD c b s g k1) (QX (opS c s))=true:=by
  unfold vD Z7;split
  ·rename_i h;rw [hi,Qez A (by omega) (by have:=H.k6 h.1;have:=H.gf;have:=H.fM;omega)];simp
  ·simp
 have hst:(Yr c b s f g).all (YC (st c b s k f g k1))=true:=by
  rw [List.all_eq_true]
  intro x hx
  unfold Yr at hx
  obtain ⟨j,hj,rfl⟩:=List.mem_map.1 hx
  rw [List.mem_range'_1] at hj
  have hjb:j<b.length:=by have:=H.fM;omega
  have hg:=Qs7 A.cuts (QaR A hjb) hs'
  have hl:(rowS c b s j).length=(opS c s).length+1:=Qnb A.cuts (QaR A hjb)
  have ek:ZX (st c b s k f g k1)=if YO c s=true then 1 else ((opS c s).length:Int)+1:=rfl
  have eo:(st c b s k f g k1).2.2.1=opS c s:=rfl
  unfold YC YG
  rw [ek,eo]
  simp only [Bool.and_eq_true,beq_iff_eq]
  unfold Qaz
  by_cases hr:YO c s=true
  ·simp only [if_pos hr]
   refine ⟨by rw [List.length_take,hl,Nat.min_eq_left (by omega)];rfl,?_⟩
   exact Qet _ _ _ _ (Qet _ _ _ _ hg)
  ·simp only [if_neg hr]
   exact ⟨congrArg Int.ofNat hl,Qet _ _ _ _ hg⟩
 simp only [QS,Bool.and_eq_true]
 refine ⟨⟨⟨⟨hm,?_⟩,?_⟩,hst⟩,⟨⟨hX,hD⟩,hY⟩,hG⟩
 ·simp only [st,QL];omega
 ·simp only [st,Y6,Bool.and_eq_true,beq_iff_eq];exact hsr
theorem QAB {s k f g:Nat} {k1:Int} (h2:¬ (k1=2∧s+1<nSt c)) (h4:k1≠4) (h5:k1≠5) (h6:¬ (k1=6∧0<s)) :
  Yt (setX (st c b s k f g k1) (inS c b s f)) ((k:Int)+1)=st c b s (k+1) f g 1:=by
 have _:=A
 simp only [Yt,setX,setY,setG,setD,st,sPc,QH,sOps,Qv,QF,Qg,QK,sX,sY,sG,sD,QD,QC,sSat]
 rw [QaH h5,Qao h2,QbY h4 h5,Qah h6,QaH (k1:=1) (by decide),QHp,Qao (k1:=1) (Js (by decide)),QbY (k1:=1) (by decide) (by decide),Qah (k1:=1) (Js (by decide))]
 rfl
theorem QHJ {s k f g:Nat} {k1:Int} (h1:k1=2):Yt (setY (st c b s k f g k1) []) ((k:Int)+1)=st c b s (k+1) f g 3:=by
 have _:=A
 subst h1
 simp only [Yt,setX,setY,setG,setD,st,sPc,QH,sOps,Qv,QF,Qg,QK,sX,sY,sG,sD,QD,QC,sSat]
 rw [QaH (k1:=2) (by decide),Qau (k1:=2) (by decide),QbY (k1:=2) (by decide) (by decide),Qah (k1:=2) (Js (by decide)),QaH (k1:=3) (by decide),Qau (k1:=3) (by decide),Qao (k1:=3) (Js (by decide)),QbY (k1:=3) (by decide) (by decide),Qah (k1:=3) (Js (by decide))]
 rfl
theorem QIg {s k f g:Nat} {k1:Int} (h1:k1≠1) (h2:¬ (k1=2∧s+1<nSt c)) (h5:k1≠5) (h6:¬ (k1=6∧0<s)) :
  Yt (setG (st c b s k f g k1) (doS c b (s+1) g)) ((k:Int)+1)=st c b s (k+1) f g 4:=by
 have _:=A
 simp only [Yt,setX,setY,setG,setD,st,sPc,QH,sOps,Qv,QF,Qg,QK,sX,sY,sG,sD,QD,QC,sSat]
 rw [QaH h5,Qau h1,Qao h2,Qah h6,QaH (k1:=4) (by decide),Qau (k1:=4) (by decide),Qao (k1:=4) (Js (by decide)),QMx,Qah (k1:=4) (Js (by decide))]
 rfl
theorem QL5 {s k f g:Nat} {k1:Int} (h1:k1=6):Yt (setD (st c b s k f g k1) []) ((k:Int)+1)=st c b s (k+1) f g 7:=by
 have _:=A
 subst h1
 simp only [Yt,setX,setY,setG,setD,st,sPc,QH,sOps,Qv,QF,Qg,QK,sX,sY,sG,sD,QD,QC,sSat]
 rw [QaH (k1:=6) (by decide),Qau (k1:=6) (by decide),Qao (k1:=6) (Js (by decide)),QbY (k1:=6) (by decide) (by decide),QaH (k1:=7) (by decide),Qau (k1:=7) (by decide),Qao (k1:=7) (Js (by decide)),QbY (k1:=7) (by decide) (by decide),Qah (k1:=7) (Js (by decide))]
 rfl
theorem QBr {s k f g:Nat} {k1:Int} (h1:k1≠1) (h2:¬ (k1=2∧s+1<nSt c)) (h4:k1≠4) (h5:k1≠5) (h6:¬ (k1=6∧0<s)):Yt (st c b s k f g k1) ((k:Int)+1)=st c b s (k+1) f g 8:=by
 have _:=A
 simp only [Yt,setX,setY,setG,setD,st,sPc,QH,sOps,Qv,QF,Qg,QK,sX,sY,sG,sD,QD,QC,sSat]
 rw [QaH h5,Qau h1,Qao h2,QbY h4 h5,Qah h6,QaH (k1:=8) (by decide),Qau (k1:=8) (by decide),Qao (k1:=8) (Js (by decide)),QbY (k1:=8) (by decide) (by decide),Qah (k1:=8) (Js (by decide))]
 rfl
theorem QGj {s k f g:Nat} {k1:Int} (hs:s<nSt c) (hk:k≤(YN c b s).length) (H:Nums b.length f g k1) (hr:YO c s=true) (hgf:g<f) (h1:k1≠1) (h2:¬ (k1=2∧s+1<nSt c)) (h4:k1=4↔s+1<nSt c) (h5:k1≠5) (h6:¬ (k1=6∧0<s)) :
  Yt (Jh (st c b s k f g k1) (g:Int)) ((k:Int)+1)=st c b s (k+1) f g 5:=by
 have hok:=QiM A hs hk H
 have hjb:g<b.length:=by have:=H.fM;omega
 have hf:QT (Qg (st c b s k f g k1)) (g:Int)=0:=Qn7 hgf
 have hrow:gtd [] (gtd ZR (Qg (st c b s k f g k1)) 0).2 0=inS c b s g:=by
  show gtd [] (gtd ZR (Yr c b s f g) 0).2 0=_
  rw [Qhq hgf,QbR]
  have hh:gtd [] (rowS c b s g) 0=inS c b s g:=QIa A.cuts (QaR A hjb) (s:=s)
  have hl:(rowS c b s g).length=(opS c s).length+1:=Qnb A.cuts (QaR A hjb) (s:=s)
  show gtd [] (Qaz c s (rowS c b s g)) 0=_
  unfold Qaz
  rw [hr,if_pos rfl,← hh]
  cases hq:rowS c b s g with
  | nil=>rw [hq] at hl;simp at hl
  | cons x r=>simp [gtd]
 unfold Jh
 simp only [hf]
 rw [if_pos (by rw [hok];rfl),show Int.toNat 0=0 from rfl,hrow]
 have hg:vG c b s g k1=vG c b s g 5:=by
  unfold vG
  by_cases h:s+1<nSt c
  ·rw [if_pos (.inl (h4.2 h)),if_pos (.inr ⟨rfl,h⟩)]
  ·rw [if_neg (by rintro (e | e);exact h (h4.1 e);exact h e.2),if_neg (by rintro (e | e);cases e;exact h e.2)]
 have hfu:J3 c b s g 5=rowS c b s g:=by unfold J3;rw [if_pos rfl]
 simp only [Yt,setX,setY,setG,setD,st,sPc,QH,sOps,Qv,QF,Qg,QK,sX,sY,sG,sD,QD,QC,sSat]
 rw [hg,Qau h1,Qao h2,Qah h6,hfu,Qau (k1:=5) (by decide),Qao (k1:=5) (Js (by decide)),Qah (k1:=5) (Js (by decide))]
 rfl
theorem QMq {s k f g:Nat} {k1:Int} (hs:s<nSt c) (hk:k≤(YN c b s).length) (H:Nums b.length f g k1) (hf:f<b.length) (h0:0<s→k1=1) (h2:¬ (k1=2∧s+1<nSt c)) (h4:k1≠4) (h5:k1≠5) (h6:¬ (k1=6∧0<s)) :
  Yt (YU (st c b s k f g k1) (f:Int) (if s=0 then (prAt b f).1 else sX (st c b s k f g k1)) (prAt b f).2) ((k:Int)+1)=st c b s (k+1) (f+1) g 2:=by
 have hok:=QiM A hs hk H
 obtain ⟨hm,hi,ho⟩:=Qdh A hs
 have hs':s≤(Q6 c).length:=by simp only [nSt] at hs;omega
 have hp:=QaR A hf
 have hx:(if s=0 then (prAt b f).1 else sX (st c b s k f g k1))=inS c b s f:=by
  by_cases h:s=0
  ·subst h;rw [if_pos rfl];exact (Qzf A.cuts _).symm
  ·rw [if_neg h]
   show vX c b s f k1=_
   unfold vX;rw [if_pos (h0 (by omega))]
 rw [hx]
 have hlast:Q4 c s=true→s=(Q6 c).length:=by intro h;unfold Q4 nSt at h;have h:=of_decide_eq_true h;omega
 have hfind:QT (Qg (st c b s k f g k1)) (f:Int) = -1:=QLv
 have hfw:QaL (st c b s k f g k1) (f:Int) (inS c b s f) (prAt b f).2=true:=by
  unfold QaL
  rw [hok,hfind]
  have h1:Qq (inS c b s f) (QX (sOps (st c b s k f g k1)))=true:=by
   show Qq _ (QX (opS c s))=true
   rw [hi];exact Qfa A (by omega) hf
  have h3:(!Qv (st c b s k f g k1)||Qq (prAt b f).2 (Q1 (sOps (st c b s k f g k1))))=true:=by
   show (!Q4 c s||Qq (prAt b f).2 (Q1 (opS c s)))=true
   cases hl:Q4 c s with
   | false=>rfl
   | true =>
    have e:=hlast hl
    rw [ho,e,Qv5 A.cuts]
    simpa using (QiZ A.cuts hp).2
  rw [h1,h3];rfl
 have hy:gtd [] (Qw (opS c s) (inS c b s f)).1 (opS c s).length=inS c b (s+1) f:=Qyl A.cuts hp hs'
 have key:Yt (YU (st c b s k f g k1) (f:Int) (inS c b s f) (prAt b f).2) ((k:Int)+1) =
   ((k:Int)+1,YN c b s,opS c s,Q4 c s,YO c s,Yr c b s f g++[((f:Int),Qaz c s (rowS c b s f))],J3 c b s g k1,[],(if Q4 c s=true then vY c b s f k1 else gtd [] (Qw (opS c s) (inS c b s f)).1 (opS c s).length),vG c b s g k1,vD c b s g k1,Ji c b s g,
    (if Q4 c s=true then (Zn (if Q4 c s=true then YY c b f else 0) (Yh (gtd [] (Qw (opS c s) (inS c b s f)).1 (opS c s).length) (prAt b f).2).1).1 else if Q4 c s=true then YY c b f else 0),
    (satV c b s f g||(Qw (opS c s) (inS c b s f)).2||(Q4 c s&&((Yh (gtd [] (Qw (opS c s) (inS c b s f)).1 (opS c s).length) (prAt b f).2).2||(Zn (if Q4 c s=true then YY c b f else 0) (Yh (gtd [] (Qw (opS c s) (inS c b s f)).1 (opS c s).length) (prAt b f).2).1).2)))):=by
  unfold YU
  rw [if_pos hfw]
  rfl
 rw [key,hy]
 have e1:Yr c b s f g++[((f:Int),Qaz c s (rowS c b s f))]=Yr c b s (f+1) g:=(QJi H.gf).symm
 have e2:(if Q4 c s=true then vY c b s f k1 else inS c b (s+1) f)=vY c b s (f+1) 2:=by
  unfold vY
  cases hl:Q4 c s with
  | false =>
   simp only [Q4,decide_eq_false_iff_not] at hl
   rw [if_neg (by simp),if_pos ⟨rfl,by omega⟩,Nat.add_sub_cancel]
  | true =>
   simp only [Q4,decide_eq_true_eq] at hl
   rw [if_pos rfl,if_neg h2,if_neg (by omega)]
 have e3:(if Q4 c s=true then (Zn (if Q4 c s=true then YY c b f else 0) (Yh (inS c b (s+1) f) (prAt b f).2).1).1 else if Q4 c s=true then YY c b f else 0)=(if Q4 c s=true then YY c b (f+1) else 0):=by
  cases hl:Q4 c s with
  | false=>simp
  | true =>
   simp only [if_true]
   rw [hlast hl]
   show (Zn _ (Yh (inp _ _ _ _) _).1).1=_
   rw [Qfy A.cuts]
   rfl
 have e4:(satV c b s f g||(Qw (opS c s) (inS c b s f)).2||(Q4 c s&&((Yh (inS c b (s+1) f) (prAt b f).2).2||(Zn (if Q4 c s=true then YY c b f else 0) (Yh (inS c b (s+1) f) (prAt b f).2).1).2)))=satV c b s (f+1) g:=by
  unfold satV
  rw [List.range_succ,List.any_append]
  have:Qdt c b s f=((Qw (opS c s) (inS c b s f)).2||(Q4 c s&&((Yh (inS c b (s+1) f) (prAt b f).2).2||(Zn (if Q4 c s=true then YY c b f else 0) (Yh (inS c b (s+1) f) (prAt b f).2).1).2))):=by
   unfold Qdt
   cases hl:Q4 c s with
   | false=>rfl
   | true =>
    simp only [if_true,Bool.true_and]
    rw [hlast hl]
    have:inS c b ((Q6 c).length+1) f=outA c b f:=Qfy A.cuts _
    rw [this]
    rfl
  simp only [List.any_cons,List.any_nil,Bool.or_false]
  rw [this]
  cases (List.range f).any (Qdt c b s) <;> cases (List.range g).any (Qer c b s) <;> simp
 have e5:vX c b s (f+1) 2=[]:=rfl
 have e6:vG c b s g k1=vG c b s g 2:=by unfold vG;rw [if_neg (by rintro (e | e);exact h4 e;exact h5 e.1),if_neg (by rintro (e | e);cases e;exact absurd e.1 (by decide))]
 have e7:vD c b s g k1=vD c b s g 2:=by unfold vD;rw [if_neg h6,if_neg (by rintro ⟨e,_⟩;exact absurd e (by decide))]
 have e8:J3 c b s g k1=J3 c b s g 2:=by unfold J3;rw [if_neg h5,if_neg (by decide)]
 rw [e1,e2,e3,e4,← e5,e6,e7,e8]
 rfl
theorem QJe {s k f g:Nat} {k1:Int} (hs:s<nSt c) (hk:k≤(YN c b s).length) (H:Nums b.length f g k1) (hgf:g<f) (hr1:YO c s=true→k1=5) (hr2:YO c s=false→s+1<nSt c→k1=4) (h1:k1≠1) (h2:¬ (k1=2∧s+1<nSt c)) (h5:k1=5→YO c s=true) (h4:k1=4→s+1<nSt c) :
  Yt (if s=0 then setD (Z4 (st c b s k f g k1) (g:Int) (prAt b g).2) [] else Z4 (st c b s k f g k1) (g:Int) (prAt b g).2) ((k:Int)+1)=st c b s (k+1) f (g+1) 6:=by
 have hok:=QiM A hs hk H
 obtain ⟨hm,hi,ho⟩:=Qdh A hs
 have hs':s≤(Q6 c).length:=by simp only [nSt] at hs;omega
 have hg:g<b.length:=by have:=H.fM;omega
 have hp:=QaR A hg
 have hlast:Q4 c s=true→s=(Q6 c).length:=by intro h;unfold Q4 nSt at h;have h:=of_decide_eq_true h;omega
 have hfind:QT (Qg (st c b s k f g k1)) (g:Int)=0:=Qn7 hgf
 have hrl:(rowS c b s g).length=(opS c s).length+1:=Qnb A.cuts hp
 have hrows:YK (st c b s k f g k1) 0=rowS c b s g:=by
  unfold YK
  show (if YO c s=true then J3 c b s g k1 else (gtd ZR (Yr c b s f g) (Int.toNat 0)).2)=_
  rw [Qhq hgf,show Int.toNat 0=0 from rfl,QbR]
  cases hr:YO c s with
  | true=>rw [if_pos rfl];unfold J3;rw [if_pos (hr1 hr)]
  | false=>rw [if_neg (by simp)];show Qaz c s _=_;unfold Qaz;rw [hr,if_neg (by simp)]
 have hd:bwdD (st c b s k f g k1) 0 (prAt b g).2=(doS c b (s+1) g,Q4 c s&&(Zu (outA c b g) (prAt b g).2).2):=by
  unfold bwdD
  rw [hrows]
  show (if Q4 c s=true then Zu (gtd [] (rowS c b s g) (opS c s).length) (prAt b g).2 else (vG c b s g k1,false))=_
  cases hl:Q4 c s with
  | true =>
   rw [if_pos rfl,Qyl A.cuts hp hs',hlast hl,Qfy A.cuts]
   show _=(dOut _ _ _ _,_)
   rw [QDl A.cuts,Bool.true_and]
  | false =>
   simp only [Q4,decide_eq_false_iff_not] at hl
   rw [if_neg (by simp),Bool.false_and]
   unfold vG
   rw [if_pos]
   cases hr:YO c s with
   | true=>exact .inr ⟨hr1 hr,by omega⟩
   | false=>exact .inl (hr2 hr (by omega))
 have hbk:QaP (st c b s k f g k1) 0 (prAt b g).2=true:=by
  unfold QaP
  rw [hok,hrows,hd]
  simp only [Bool.and_eq_true,beq_iff_eq,decide_eq_true_eq]
  refine ⟨⟨⟨⟨trivial,by omega⟩,hrl⟩,?_⟩,?_⟩
  ·unfold YG
   exact Qet _ _ _ _ (Qs7 A.cuts hp hs')
  ·show Qq (doS c b (s+1) g) (Q1 (opS c s))=true
   rw [ho];exact Qez A (by omega) hg
 have hback:QN (opS c s) (rowS c b s g) (doS c b (s+1) g)=bkS c b s g:=rfl
 have hbd:(bkS c b s g).2.1=doS c b s g:=(Qz0 A.cuts hs' _).symm
 have hadd:Yy (sSum (st c b s k f g k1)) ((bkS c b s g).1,0,(Q4 c s&&(Zu (outA c b g) (prAt b g).2).2)||(bkS c b s g).2.2)=(Ji c b s (g+1),(if Q4 c s then YY c b f else 0),satV c b s f (g+1)):=by
  unfold Yy
  simp only
  have hl:Zn (sSum (st c b s k f g k1)).2.1 0=((if Q4 c s then YY c b f else 0),false):=QCG (QEV A s f)
  rw [hl]
  refine Prod.ext rfl (Prod.ext rfl ?_)
  show (satV c b s f g||((Q4 c s&&(Zu (outA c b g) (prAt b g).2).2)||(bkS c b s g).2.2)||(Zk (Ji c b s g) (bkS c b s g).1).2||false)=satV c b s f (g+1)
  unfold satV
  rw [List.range_succ,List.any_append]
  simp only [List.any_cons,List.any_nil,Bool.or_false]
  unfold Qer
  cases (List.range f).any (Qdt c b s) <;> cases (List.range g).any (Qer c b s) <;> cases (bkS c b s g).2.2 <;> cases (Zk (Ji c b s g) (bkS c b s g).1).2 <;> simp
 have key:Z4 (st c b s k f g k1) (g:Int) (prAt b g).2=((k:Int),YN c b s,opS c s,Q4 c s,YO c s,Yr c b s f (g+1),[],vX c b s f k1,vY c b s f k1,[],doS c b s g,Ji c b s (g+1),(if Q4 c s then YY c b f else 0),satV c b s f (g+1)):=by
  unfold Z4
  simp only [hfind]
  rw [if_pos hbk,hrows,hd]
  simp only
  have e:sOps (st c b s k f g k1)=opS c s:=rfl
  rw [e,hback,hadd,hbd]
  have e2:(Qg (st c b s k f g k1)).take (Int.toNat 0)++(Qg (st c b s k f g k1)).drop (Int.toNat 0+1)=Yr c b s f (g+1):=by
   show (Yr c b s f g).take 0++(Yr c b s f g).drop 1=_
   rw [Qhq hgf];rfl
  rw [e2]
  rfl
 rw [key]
 have f1:vX c b s f k1=vX c b s f 6:=by unfold vX;rw [if_neg h1,if_neg (by decide)]
 have f2:vY c b s f k1=vY c b s f 6:=by unfold vY;rw [if_neg h2,if_neg (by rintro ⟨e,_⟩;exact absurd e (by decide))]
 have f3:vG c b s (g+1) 6=[]:=by unfold vG;rw [if_neg];rintro (e | e);exact absurd e (by decide);exact absurd e.1 (by decide)
 rw [f1,f2]
 by_cases h:s=0
 ·rw [if_pos h]
  simp only [Yt,setX,setY,setG,setD,st,sPc,QH,sOps,Qv,QF,Qg,QK,sX,sY,sG,sD,QD,QC,sSat]
  have f4:vD c b s (g+1) 6=[]:=by unfold vD;rw [if_neg (by omega)]
  rw [f3,f4]
  rfl
 ·rw [if_neg h]
  simp only [Yt,setX,setY,setG,setD,st,sPc,QH,sOps,Qv,QF,Qg,QK,sX,sY,sG,sD,QD,QC,sSat]
  have f4:vD c b s (g+1) 6=doS c b s g:=by unfold vD;rw [if_pos ⟨rfl,by omega⟩,Nat.add_sub_cancel]
  rw [f3,f4]
  rfl
end
end Go.Proofs.YtjbdljkhbglnhaaGreat.Am
namespace Go.Proofs.YtjbdljkhbglnhaaGreat.Am
open Go Sz
structure Loc (ds n M s:Int) (rd:Bool) (f g:Nat) (k1:Int) (i:TIns) (last:Bool):Prop where
 c0:g≤f∧(f:Int)≤M∧1≤i.1∧i.1≤8∧0≤i.2∧i.2<M∧(i.1=8↔last=true)∧i≠(0,0)
 c1:i.1=1→0<s∧i.2=f∧k1≠1
 c2:i.1=2→i.2=f∧(0<s→k1=1)
 c3:i.1=3→s<n-1∧i.2=(f:Int)-1∧k1=2
 c4:i.1=4→s<n-1∧i.2=g
 c5:i.1=5→rd=true∧i.2=g∧g<f∧(s<n-1→k1=4)
 c6:i.1=6→i.2=g∧g<f∧(rd=true→k1=5)∧(rd=false→s<n-1→k1=4)
 c7:i.1=7→0<s∧i.2=(g:Int)-1∧k1=6
 c8:i.1=8→(f:Int)=M∧(g:Int)=M∧k1≠0
 c9:k1=1→i.1=2
 c10:k1=2→s<n-1→i.1=3
 c11:k1=4→i.1=5∨i.1=6
 c12:k1=5→i.1=6
 c13:k1=6→0<s→i.1=7
 c14:k1=5→rd=true
 c15:k1=6→1≤g
 c16:k1=2→1≤f
 c17:k1≠8
 c18:k1=4→s<n-1
 c19:k1=1→0<s
 c20:k1=4∨k1=5→g<f
 c21:k1=1→(f:Int)<M
 c22:s<n-1→(scOf f k1:Int)<M→tm ds n M s i≤tm ds n M s (3,(scOf f k1:Int))
 c23:0<s→(rcOf f k1:Int)<M→tm ds n M s i≤tm ds n M s (1,(rcOf f k1:Int))
 c24:s<n-1→(rgOf n s g k1:Int)<M→tm ds n M s i≤tm ds n M s (4,(rgOf n s g k1:Int))
 c25:0<s→(sgQ g k1:Int)<M→tm ds n M s i≤tm ds n M s (7,(sgQ g k1:Int))
 c26:ds=2→(f:Int)-g≤n-s
 c27:ds=2→i.1=2→(f:Int)-g<n-s
theorem QCU {ds n M s:Int} {rd:Bool} {f g:Nat} {k1:Int} {i:TIns} {last:Bool} (h:Qf3 ds n M s rd f g k1 i last=true):Loc ds n M s rd f g k1 i last:=by
 simp only [Qf3,Bool.and_eq_true,decide_eq_true_eq] at h
 exact ⟨h.1.1.1.1.1.1.1.1.1.1.1.1.1.1.1.1.1.1.1.1.1.1.1.1.1.1.1,h.1.1.1.1.1.1.1.1.1.1.1.1.1.1.1.1.1.1.1.1.1.1.1.1.1.1.2,h.1.1.1.1.1.1.1.1.1.1.1.1.1.1.1.1.1.1.1.1.1.1.1.1.1.2,h.1.1.1.1.1.1.1.1.1.1.1.1.1.1.1.1.1.1.1.1.1.1.1.1.2,h.1.1.1.1.1.1.1.1.1.1.1.1.1.1.1.1.1.1.1.1.1.1.1.2,h.1.1.1.1.1.1.1.1.1.1.1.1.1.1.1.1.1.1.1.1.1.1.2,h.1.1.1.1.1.1.1.1.1.1.1.1.1.1.1.1.1.1.1.1.1.2,h.1.1.1.1.1.1.1.1.1.1.1.1.1.1.1.1.1.1.1.1.2,h.1.1.1.1.1.1.1.1.1.1.1.1.1.1.1.1.1.1.1.2,h.1.1.1.1.1.1.1.1.1.1.1.1.1.1.1.1.1.1.2,h.1.1.1.1.1.1.1.1.1.1.1.1.1.1.1.1.1.2,h.1.1.1.1.1.1.1.1.1.1.1.1.1.1.1.1.2,h.1.1.1.1.1.1.1.1.1.1.1.1.1.1.1.2,h.1.1.1.1.1.1.1.1.1.1.1.1.1.1.2,h.1.1.1.1.1.1.1.1.1.1.1.1.1.2,h.1.1.1.1.1.1.1.1.1.1.1.1.2,h.1.1.1.1.1.1.1.1.1.1.1.2,h.1.1.1.1.1.1.1.1.1.1.2,h.1.1.1.1.1.1.1.1.1.2,h.1.1.1.1.1.1.1.1.2,h.1.1.1.1.1.1.1.2,h.1.1.1.1.1.1.2,h.1.1.1.1.1.2,h.1.1.1.1.2,h.1.1.1.2,h.1.1.2,h.1.2,h.2⟩
section
variable (c:Qh) (b:List Qd)
def lenP (s:Nat):Nat:=(YN c b s).length
def insP (s k:Nat):TIns:=gtd dIns (YN c b s) k
def F (s k:Nat):Nat:=cf ((YN c b s).take k)
def G (s k:Nat):Nat:=cg ((YN c b s).take k)
def K1 (s k:Nat):Int:=Y9 (YN c b s) k
def sc (s k:Nat):Nat:=scOf (F c b s k) (K1 c b s k)
def rc (s k:Nat):Nat:=rcOf (F c b s k) (K1 c b s k)
def rg (s k:Nat):Nat:=rgOf (nSt c:Nat) (s:Int) (G c b s k) (K1 c b s k)
def sg (s k:Nat):Nat:=sgQ (G c b s k) (K1 c b s k)
def stAt (s k:Nat):Qc:=st c b s k (F c b s k) (G c b s k) (K1 c b s k)
abbrev JT (s:Nat):Int:=gtd 0 (Jw c) s
def aQ (ks:Nat→Nat) (s:Nat):Qm:=(JT c s,(List.range' (rc c b (s+1) (ks (s+1))) (sc c b s (ks s)-rc c b (s+1) (ks (s+1)))).map fun j:Nat=>((j:Int),inS c b (s+1) j))
def bQ (ks:Nat→Nat) (s:Nat):Qm:=(JT c s,(List.range' (rg c b s (ks s)) (sg c b (s+1) (ks (s+1))-rg c b s (ks s))).map fun j:Nat=>((j:Int),doS c b (s+1) j))
def Q8 (ks:Nat→Nat):Qo :=
 (b,(List.range (nSt c)).map (fun s=>stAt c b s (ks s)),(List.range (nSt c-1)).map (aQ c b ks),(List.range (nSt c-1)).map (bQ c b ks))
end
section
variable {c:Qh} {b:List Qd} (A:Adm c b)
include A
theorem JE:1≤nSt c∧nSt c≤4:=by have:=A.stages;simp only [nSt];omega
theorem Qou {s:Nat} (hs:s<nSt c):QcN (cDs c) (nSt c:Nat) b.length s (YO c s) (YN c b s) 0 0 0=true:=by
 have h1:=JE A
 have h2:=Qbc A
 exact QIW (YO c s) A.ds.1 A.ds.2 (by omega) (by omega) (by omega) (by omega) (by omega)
theorem loc {s k:Nat} (hs:s<nSt c) (hk:k<lenP c b s):Loc (cDs c) (nSt c:Nat) b.length s (YO c s) (F c b s k) (G c b s k) (K1 c b s k) (insP c b s k) (decide (k+1=lenP c b s)):=by
 have h:=(Qka _ _ _ _ (Qou A hs) k (Nat.le_of_lt hk)).1 (insP c b s k) (Y7 hk dIns)
 have e:(if k=0 then (0:Int) else Y9 (YN c b s) k)=K1 c b s k:=by
  unfold K1 Y9;split <;> rfl
 rw [e,Nat.zero_add,Nat.zero_add] at h
 exact QCU h
theorem Qg6 {s:Nat} (hs:s<nSt c):F c b s (lenP c b s)=b.length∧G c b s (lenP c b s)=b.length∧K1 c b s (lenP c b s)=8:=by
 have h:=(Qka _ _ _ _ (Qou A hs) (lenP c b s) (Nat.le_refl _)).2 rfl
 have e:(if lenP c b s=0 then (0:Int) else Y9 (YN c b s) (lenP c b s))=K1 c b s (lenP c b s):=by
  unfold K1 Y9;split <;> rfl
 rw [e,Nat.zero_add,Nat.zero_add] at h
 simp only [Qmt,decide_eq_true_eq] at h
 unfold F G
 exact ⟨by omega,by omega,h.2.2⟩
theorem nums {s k:Nat} (hs:s<nSt c) (hk:k≤lenP c b s):Nums b.length (F c b s k) (G c b s k) (K1 c b s k):=by
 by_cases h:k<lenP c b s
 ·have L:=loc A hs h
  exact ⟨L.c0.1,by have:=L.c0.2.1;omega,fun e=>by have:=L.c21 e;omega,L.c16,L.c20,L.c15⟩
 ·have:k=lenP c b s:=by omega
  subst this
  obtain ⟨h1,h2,h3⟩:=Qg6 A hs
  rw [h1,h2,h3]
  exact ⟨Nat.le_refl _,Nat.le_refl _,(fun e=>by simp at e),(fun e=>by simp at e),(fun e=>by simp at e),(fun e=>by simp at e)⟩
omit A in
theorem Qyn {s k:Nat} (hk:k<lenP c b s):F c b s (k+1)=F c b s k+kf (insP c b s k)∧G c b s (k+1)=G c b s k+kg (insP c b s k)∧K1 c b s (k+1)=(insP c b s k).1:=by
 have h:(YN c b s)[k]? = some (insP c b s k):=Y7 hk dIns
 have ht:(YN c b s).take (k+1)=(YN c b s).take k++[insP c b s k]:=by rw [List.take_add_one,h];rfl
 refine ⟨?_,?_,?_⟩
 ·unfold F cf;rw [ht];simp
 ·unfold G cg;rw [ht];simp
 ·unfold K1 Y9;rw [if_neg (by omega)];rfl
theorem QbZ {s:Nat} (hs:s<nSt c):sc c b s (lenP c b s)=b.length∧rc c b s (lenP c b s)=b.length∧rg c b s (lenP c b s)=b.length∧sg c b s (lenP c b s)=b.length:=by
 obtain ⟨h1,h2,h3⟩:=Qg6 A hs
 unfold sc rc rg sg
 rw [h1,h2,h3]
 exact ⟨rfl,rfl,rfl,rfl⟩
theorem Qtj {s k:Nat} (hs:s<nSt c) (hk:k<lenP c b s) :
  (s+1<nSt c→sc c b s (k+1)=sc c b s k+if (insP c b s k).1=3 then 1 else 0) ∧
  (0<s→rc c b s (k+1)=rc c b s k+if (insP c b s k).1=1 then 1 else 0) ∧
  (s+1<nSt c→rg c b s (k+1)=rg c b s k+if (insP c b s k).1=4 then 1 else 0) ∧
  (0<s→sg c b s (k+1)=sg c b s k+if (insP c b s k).1=7 then 1 else 0):=by
 have L:=loc A hs hk
 obtain ⟨e1,e2,e3⟩:=Qyn (c:=c) (b:=b) hk
 unfold sc rc rg sg
 rw [e1,e2,e3]
 generalize F c b s k=f at *
 generalize G c b s k=g at *
 generalize K1 c b s k=k1 at *
 generalize insP c b s k=i at *
 have hi:=L.c0
 have h6:i.1=6→(s:Int)<(nSt c:Nat)-1→k1=4∨k1=5:=fun e hlt=>by
  have h:=L.c6 e
  cases hr:YO c s with
  | true=>exact .inr (h.2.2.1 hr)
  | false=>exact .inl (h.2.2.2 hr hlt)
 have h1:=L.c1;have h2:=L.c2;have h3:=L.c3;have h4:=L.c4;have h5:=L.c5;have h7:=L.c7;have h9:=L.c9;have h10:=L.c10;have h11:=L.c11;have h12:=L.c12;have h13:=L.c13;have h15:=L.c15;have h16:=L.c16;have h18:=L.c18
 obtain ⟨i1,i2⟩:=i
 simp only at hi h1 h2 h3 h4 h5 h6 h7 h9 h10 h11 h12 h13
 unfold scOf rcOf rgOf sgQ kf kg
 simp only
 have hcase:i1=1∨i1=2∨i1=3∨i1=4∨i1=5∨i1=6∨i1=7∨i1=8:=by omega
 rcases hcase with rfl | rfl | rfl | rfl | rfl | rfl | rfl | rfl <;> simp at h1 h2 h3 h4 h5 h6 h7 h9 h10 h11 h12 h13 ⊢ <;> (refine ⟨?_,?_,?_,?_⟩ <;> intro hh <;> (repeat' split) <;> omega)
structure Ok (c:Qh) (b:List Qd) (ks:Nat→Nat):Prop where
 le:∀ s,s<nSt c→ks s≤lenP c b s
 qa:∀ s,s+1<nSt c→rc c b (s+1) (ks (s+1))≤sc c b s (ks s)∧(sc c b s (ks s):Int)-rc c b (s+1) (ks (s+1))≤JT c s
 qb:∀ s,s+1<nSt c→rg c b s (ks s)≤sg c b (s+1) (ks (s+1))∧(sg c b (s+1) (ks (s+1)):Int)-rg c b s (ks s)≤JT c s
 fl:(∃ s,s<nSt c∧ks s=lenP c b s)→∀ s,s<nSt c→lenP c b s≤ks s+1
def En (c:Qh) (b:List Qd) (ks:Nat→Nat) (s:Nat):Prop :=
 ks s<lenP c b s ∧
 ((insP c b s (ks s)).1=1→rc c b s (ks s)<sc c b (s-1) (ks (s-1))) ∧
 ((insP c b s (ks s)).1=3→(sc c b s (ks s):Int)-rc c b (s+1) (ks (s+1))<JT c s) ∧
 ((insP c b s (ks s)).1=4→rg c b s (ks s)<sg c b (s+1) (ks (s+1))) ∧
 ((insP c b s (ks s)).1=7→(sg c b s (ks s):Int)-rg c b (s-1) (ks (s-1))<JT c (s-1)) ∧
 ((insP c b s (ks s)).1=8→∀ j,j<nSt c→lenP c b j≤ks j+1)
theorem Qbw {s:Nat} (hs:s+1<nSt c):1≤JT c s∧JT c s≤5:=by
 have:=A.caps
 simp only [Yn,Bool.and_eq_true,beq_iff_eq] at this
 have hl:s<(Jw c).length:=by simp only [nSt] at hs;have:=this.1;simp only [Jw,Q6] at *;omega
 have:=List.all_eq_true.1 this.2 _ (Jt hl 0)
 exact QL.1 this
theorem QgP:(Jw c).length=nSt c-1:=by
 have:=A.caps
 simp only [Yn,Bool.and_eq_true,beq_iff_eq] at this
 have:=this.1;simp only [nSt,Jw,Q6] at *;omega
omit A in
theorem QId (n:Nat) (P:Nat→Prop) (t:Nat→Int) (h:∃ s,s<n∧P s):∃ s,s<n∧P s∧∀ j,j<n→P j→t s≤t j:=by
 induction n with
 | zero=>obtain ⟨s,h,_⟩:=h;omega
 | succ n ih =>
  by_cases h1:∃ s,s<n∧P s
  ·obtain ⟨s,hs,hp,hm⟩:=ih h1
   by_cases h2:P n∧t n<t s
   ·refine ⟨n,by omega,h2.1,fun j hj hpj=>?_⟩
    by_cases h3:j=n
    ·subst h3;omega
    ·have:=hm j (by omega) hpj;omega
   ·refine ⟨s,by omega,hp,fun j hj hpj=>?_⟩
    by_cases h3:j=n
    ·subst h3
     have:¬ t j<t s:=fun h=>h2 ⟨hpj,h⟩
     omega
    ·exact hm j (by omega) hpj
  ·obtain ⟨s,hs,hp⟩:=h
   have:s=n:=by
    apply Classical.byContradiction;intro hne
    exact h1 ⟨s,by omega,hp⟩
   subst this
   refine ⟨s,by omega,hp,fun j hj hpj=>?_⟩
   by_cases h3:j=s
   ·subst h3;omega
   ·exact absurd ⟨j,by omega,hpj⟩ h1
set_option maxHeartbeats 1000000 in
theorem QMY {ks:Nat→Nat} (V:Ok c b ks) (h:∃ s,s<nSt c∧ks s<lenP c b s):∃ s,s<nSt c∧En c b ks s:=by
 obtain ⟨s,hs,hk,hmin⟩:=QId (nSt c) (fun s=>ks s<lenP c b s) (fun s=>tm (cDs c) (nSt c:Nat) b.length s (insP c b s (ks s))) h
 have L:=loc A hs hk
 refine ⟨s,hs,hk,fun hi=>?_,fun hi=>?_,fun hi=>?_,fun hi=>?_,fun hi=>?_⟩
 ·obtain ⟨h0,h1,h2⟩:=L.c1 hi
  have h0:0<s:=by omega
  have hq:=(V.qa (s-1) (by omega)).1
  rw [show s-1+1=s by omega] at hq
  apply Classical.byContradiction
  intro hn
  have hrc:rc c b s (ks s)=F c b s (ks s):=by unfold rc rcOf;rw [if_neg h2]
  have hlt:(F c b s (ks s):Int)<b.length:=by have:=L.c0;omega
  by_cases hj:ks (s-1)<lenP c b (s-1)
  ·have L':=loc A (s:=s-1) (by omega) hj
   have h3:=L'.c22 (by omega) (by show ((sc c b (s-1) (ks (s-1)):Nat):Int)<_;omega)
   have h4:=hmin (s-1) (by omega) hj
   have e1:(scOf (F c b (s-1) (ks (s-1))) (K1 c b (s-1) (ks (s-1))))=F c b s (ks s):=by show sc c b (s-1) (ks (s-1))=_;omega
   rw [e1] at h3
   simp only [tm,hi,h1] at h3 h4
   simp at h3 h4
   omega
  ·have:=V.le (s-1) (by omega)
   rw [show ks (s-1)=lenP c b (s-1) by omega,(QbZ A (by omega)).1] at hn
   omega
 ·obtain ⟨h0,h1,h2⟩:=L.c3 hi
  have hq:=(V.qa s (by omega)).1
  have hcap:=Qbw A (s:=s) (by omega)
  apply Classical.byContradiction
  intro hn
  have h16:=L.c16 h2
  have hsc:sc c b s (ks s)=F c b s (ks s)-1:=by unfold sc scOf;rw [if_pos h2]
  have hfM:(F c b s (ks s):Int)≤b.length:=L.c0.2.1
  by_cases hj:ks (s+1)<lenP c b (s+1)
  ·have L':=loc A (s:=s+1) (by omega) hj
   have e1:(rcOf (F c b (s+1) (ks (s+1))) (K1 c b (s+1) (ks (s+1))))=rc c b (s+1) (ks (s+1)):=rfl
   have h3:=L'.c23 (by omega) (by rw [e1];omega)
   have h4:=hmin (s+1) (by omega) hj
   rw [e1] at h3
   simp only [tm,hi,h1] at h3 h4
   simp at h3 h4
   omega
  ·have:=V.le (s+1) (by omega)
   rw [show ks (s+1)=lenP c b (s+1) by omega,(QbZ A (by omega)).2.1] at hn
   omega
 ·obtain ⟨h0,h1⟩:=L.c4 hi
  have hq:=(V.qb s (by omega)).1
  apply Classical.byContradiction
  intro hn
  have h2:¬ (K1 c b s (ks s)=4∨(K1 c b s (ks s)=5∧(s:Int)<(nSt c:Nat)-1)):=by
   rintro (h | h)
   ·have:=L.c11 h;omega
   ·have:=L.c12 h.1;omega
  have hrg:rg c b s (ks s)=G c b s (ks s):=by unfold rg rgOf;rw [if_neg h2]
  have hlt:(G c b s (ks s):Int)<b.length:=by have:=L.c0;omega
  by_cases hj:ks (s+1)<lenP c b (s+1)
  ·have L':=loc A (s:=s+1) (by omega) hj
   have h3:=L'.c25 (by omega) (by show ((sg c b (s+1) (ks (s+1)):Nat):Int)<_;omega)
   have h4:=hmin (s+1) (by omega) hj
   have e1:(sgQ (G c b (s+1) (ks (s+1))) (K1 c b (s+1) (ks (s+1))))=G c b s (ks s):=by show sg c b (s+1) (ks (s+1))=_;omega
   rw [e1] at h3
   simp only [tm,hi,h1] at h3 h4
   simp at h3 h4
   split at h3 <;> simp_all <;> omega
  ·have:=V.le (s+1) (by omega)
   rw [show ks (s+1)=lenP c b (s+1) by omega,(QbZ A (by omega)).2.2.2] at hn
   omega
 ·obtain ⟨h0,h1,h2⟩:=L.c7 hi
  have h0:0<s:=by omega
  have hq:=(V.qb (s-1) (by omega)).1
  rw [show s-1+1=s by omega] at hq
  have hcap:=Qbw A (s:=s-1) (by omega)
  apply Classical.byContradiction
  intro hn
  have h15:=L.c15 h2
  have hsg:sg c b s (ks s)=G c b s (ks s)-1:=by unfold sg sgQ;rw [if_pos h2]
  have hfM:(G c b s (ks s):Int)≤b.length:=by have:=L.c0;omega
  by_cases hj:ks (s-1)<lenP c b (s-1)
  ·have L':=loc A (s:=s-1) (by omega) hj
   have e1:(rgOf (nSt c:Nat) ((s-1:Nat):Int) (G c b (s-1) (ks (s-1))) (K1 c b (s-1) (ks (s-1))))=rg c b (s-1) (ks (s-1)):=rfl
   have h3:=L'.c24 (by omega) (by rw [e1];omega)
   have h4:=hmin (s-1) (by omega) hj
   rw [e1] at h3
   simp only [tm,hi,h1] at h3 h4
   simp at h3 h4
   split at h3 <;> simp_all <;> omega
  ·have:=V.le (s-1) (by omega)
   rw [show ks (s-1)=lenP c b (s-1) by omega,(QbZ A (by omega)).2.2.1] at hn
   omega
 ·intro j hj
  apply Classical.byContradiction
  intro hn
  have hj':ks j<lenP c b j:=by omega
  have L':=loc A hj hj'
  have h4:=hmin j hj hj'
  have h5:(insP c b j (ks j)).1≠8:=fun e=>by have:=L'.c0.2.2.2.2.2.2.1.1 e;simp at this;omega
  have h6:=L'.c0
  have hn4:=JE A
  have hb5:=Qbc A
  generalize insP c b j (ks j)=i' at *
  generalize insP c b s (ks s)=i at *
  have:tm (cDs c) (nSt c:Nat) b.length s i=1000000:=by unfold tm;simp [hi]
  rw [this] at h4
  unfold tm at h4
  simp only at h4
  repeat' split at h4
  all_goals omega
end
end Go.Proofs.YtjbdljkhbglnhaaGreat.Am

