/- -/
import Derived.Test.YtjbdljkhbglnhaaGreatZAG8
set_option linter.all false
namespace Go.Proofs.YtjbdljkhbglnhaaGreat.Am
open Go Sz
def Zh (m:Q5) (cuts:List Int) (s:Nat):Nat:=if s=0 then 0 else if s≤cuts.length then (gtd 0 cuts (s-1)).toNat else m.length
def Yb (m:Q5) (cuts:List Int) (s:Nat):List TOp':=(m.drop (Zh m cuts s)).take (Zh m cuts (s+1)-Zh m cuts s)
section
variable {m:Q5} {cuts:List Int} (hc:Q7 m cuts=true)
include hc
theorem QgP {s:Nat} (hs:s≤cuts.length):Zh m cuts s<Zh m cuts (s+1):=by
 have hl:=QaH hc
 have hg:ZT (m.length-1) none cuts=true:=by have:=hc;simp only [Q7,Bool.and_eq_true] at this;exact this.2
 have h1:∀ k:Nat,k<cuts.length→1≤gtd 0 cuts k∧gtd 0 cuts k≤(m.length:Int)-1:=fun k hk=>by
  have:=Qb8 hg k _ (Jq hk 0);omega
 have h2:∀ k:Nat,k+1<cuts.length→gtd 0 cuts k<gtd 0 cuts (k+1):=fun k hk=>Qm6 hg k _ _ (Jq (by omega) 0) (Jq hk 0)
 unfold Zh
 rw [if_neg (Nat.succ_ne_zero s)]
 by_cases h0:s=0
 ·subst h0
  rw [if_pos rfl]
  split
  ·have:=h1 0 (by omega);simp;omega
  ·omega
 ·rw [if_neg h0,if_pos hs]
  have h3:=h1 (s-1) (by omega)
  split
  ·have h4:=h2 (s-1) (by omega)
   rw [show s-1+1=s by omega] at h4
   rw [show s+1-1=s by omega]
   omega
  ·omega
theorem Qsm {s:Nat}:Zh m cuts s≤m.length:=by
 have hl:=QaH hc
 have hg:ZT (m.length-1) none cuts=true:=by have:=hc;simp only [Q7,Bool.and_eq_true] at this;exact this.2
 unfold Zh
 split
 ·omega
 ·split
  ·have:=Qb8 hg (s-1) _ (Jq (by omega) 0);omega
  ·omega
theorem Qch:Zh m cuts (cuts.length+1)=m.length:=by have _:=hc;unfold Zh;rw [if_neg (by omega),if_neg (by omega)]
theorem QHi {s:Nat} (hs:s≤cuts.length):Qr m cuts (s:Int)=((Zh m cuts s:Int),(Zh m cuts (s+1):Int)):=by
 have hl:=QaH hc
 have hg:ZT (m.length-1) none cuts=true:=by have:=hc;simp only [Q7,Bool.and_eq_true] at this;exact this.2
 have h1:∀ k:Nat,k<cuts.length→1≤gtd 0 cuts k∧gtd 0 cuts k≤(m.length:Int)-1:=fun k hk=>by
  have:=Qb8 hg k _ (Jq hk 0);omega
 unfold Qr
 rw [if_pos (by rw [hc,Bool.true_and,QR];omega)]
 unfold Zh
 refine Prod.ext ?_ ?_
 ·dsimp only
  by_cases h0:s=0
  ·subst h0;simp
  ·rw [if_pos (by omega),if_neg h0,if_pos hs,Int.toNat_natCast]
   have:=h1 (s-1) (by omega);omega
 ·dsimp only
  rw [if_neg (Nat.succ_ne_zero s)]
  by_cases h2:s<cuts.length
  ·rw [if_pos (by omega),if_pos (by omega),Int.toNat_natCast,show s+1-1=s by omega]
   have:=h1 s h2;omega
  ·rw [if_neg (by omega),if_neg (by omega)]
theorem QQi {s:Nat} (hs:s≤cuts.length):slice m (Qr m cuts (s:Int)).1 (Qr m cuts (s:Int)).2=Yb m cuts s:=by
 rw [QHi hc hs];simp [slice,Yb]
theorem QGV {s:Nat} (hs:s≤cuts.length):(Yb m cuts s).length=Zh m cuts (s+1)-Zh m cuts s:=by
 have:=Qsm hc (s:=s+1)
 have:=QgP hc hs
 unfold Yb;simp;omega
theorem QhE {s:Nat} (hs:s≤cuts.length):1≤(Yb m cuts s).length∧(Yb m cuts s).length≤8:=by
 rw [QGV hc hs]
 have:=Qsm hc (s:=s+1)
 have:=QgP hc hs
 have:=(QaH hc).2.1
 omega
theorem QRl {s:Nat} (hs:s≤cuts.length):m.take (Zh m cuts (s+1))=m.take (Zh m cuts s)++Yb m cuts s:=by
 have:=QgP hc hs
 unfold Yb
 rw [← List.take_add,show Zh m cuts s+(Zh m cuts (s+1)-Zh m cuts s)=Zh m cuts (s+1) by omega]
theorem Qc9 {s:Nat} (hs:s≤cuts.length):m.drop (Zh m cuts s)=Yb m cuts s++m.drop (Zh m cuts (s+1)):=by
 have:=QgP hc hs
 unfold Yb
 have h:=List.take_append_drop (Zh m cuts (s+1)-Zh m cuts s) (m.drop (Zh m cuts s))
 rw [List.drop_drop,show Zh m cuts s+(Zh m cuts (s+1)-Zh m cuts s)=Zh m cuts (s+1) by omega] at h
 exact h.symm
end
def inp (m:Q5) (cuts:List Int) (x:List Int) (s:Nat):List Int:=ZI (m.take (Zh m cuts s)) x
def QbW (m:Q5) (cuts:List Int) (x:List Int) (s:Nat):List (List Int):=(Qy (Yb m cuts s) (inp m cuts x s)).1
def fsat (m:Q5) (cuts:List Int) (x:List Int) (s:Nat):Bool:=(Qy (Yb m cuts s) (inp m cuts x s)).2
def J4 (m:Q5) (cuts:List Int) (p:Qh) (s:Nat):List (List Int) × List Int × Bool :=
 QI (m.drop (Zh m cuts s)) (Qy (m.drop (Zh m cuts s)) (inp m cuts p.1 s)).1 (Zt (ZI m p.1) p.2).1
def dOut (m:Q5) (cuts:List Int) (p:Qh) (s:Nat):List Int:=(J4 m cuts p s).2.1
def Qaj (m:Q5) (cuts:List Int) (p:Qh) (s:Nat):List (List Int) × List Int × Bool:=QI (Yb m cuts s) (QbW m cuts p.1 s) (dOut m cuts p (s+1))
section
variable {m:Q5} {cuts:List Int} (hc:Q7 m cuts=true)
include hc
theorem Qvq (x:List Int):inp m cuts x 0=x:=by have _:=hc;unfold inp Zh;simp [QhO]
theorem Qid (x:List Int):inp m cuts x (cuts.length+1)=ZI m x:=by unfold inp;rw [Qch hc,List.take_length]
theorem QnB {s:Nat} (hs:s≤cuts.length) (x:List Int):inp m cuts x (s+1)=ZI (Yb m cuts s) (inp m cuts x s):=by
 unfold inp;rw [QRl hc hs,QES]
theorem QwP {s:Nat} (hs:s≤cuts.length) (p:Qh) :
  J4 m cuts p s=((Qaj m cuts p s).1++(J4 m cuts p (s+1)).1,(Qaj m cuts p s).2.1,(Qaj m cuts p s).2.2||(J4 m cuts p (s+1)).2.2):=by
 unfold Qaj QbW dOut
 have e:=QnB hc hs p.1
 conv=>lhs;unfold J4
 rw [Qc9 hc hs,QEn]
 unfold J4
 rw [e]
theorem QNS {s:Nat} (hs:s≤cuts.length) (p:Qh):dOut m cuts p s=(Qaj m cuts p s).2.1:=by unfold dOut;rw [QwP hc hs]
theorem QBZ (p:Qh):dOut m cuts p (cuts.length+1)=(Zt (ZI m p.1) p.2).1:=by
 unfold dOut J4
 rw [Qch hc,List.drop_length]
 simp [QI]
theorem QpF (p:Qh):∀ (k s:Nat),s+k=cuts.length+1 →
  (J4 m cuts p s).1=(List.range' s k).flatMap (fun j=>(Qaj m cuts p j).1)∧(J4 m cuts p s).2.2=(List.range' s k).any (fun j=>(Qaj m cuts p j).2.2)
 | 0,s,h=>by
  have:s=cuts.length+1:=by omega
  subst this
  unfold J4
  rw [Qch hc,List.drop_length]
  simp [QI]
 | k+1,s,h=>by
  have ih:=QpF p k (s+1) (by omega)
  rw [QwP hc (by omega)]
  simp only [List.range'_succ,List.flatMap_cons,List.any_cons,ih.1,ih.2,and_self]
theorem Qqe (x:List Int):∀ (k s:Nat),s+k=cuts.length+1→(Qy (m.drop (Zh m cuts s)) (inp m cuts x s)).2=(List.range' s k).any (fun j=>fsat m cuts x j)
 | 0,s,h=>by
  have:s=cuts.length+1:=by omega
  subst this
  rw [Qch hc,List.drop_length]
  rfl
 | k+1,s,h=>by
  have ih:=Qqe x k (s+1) (by omega)
  rw [Qc9 hc (by omega),Qlz]
  simp only [List.range'_succ,List.any_cons]
  rw [← QnB hc (by omega),ih]
  rfl
end
end Go.Proofs.YtjbdljkhbglnhaaGreat.Am
namespace Go.Proofs.YtjbdljkhbglnhaaGreat.Am
open Go Sz
structure Adm (c:Qo) (b:List Qh):Prop where
 model:QM (Q0 c)=true
 batch:ZP (Q0 c) b=true
 cuts:Q7 (Q0 c) (Q8 c)=true
 stages:(Q8 c).length+1≤4
 ds:1≤cDs c∧cDs c≤2
 redo:(J0 c).length=(Q8 c).length+1
 caps:YA c=true
 limits:YR c b.length=true
theorem QkF {c:Qo} {b:List Qh} (h:Zq c b=0):Adm c b:=by
 unfold Zq at h
 have hs:=QbK (c:=c)
 split at h
 ·simp at h
 split at h
 ·simp at h
 split at h
 ·simp at h
 split at h
 ·simp at h
 split at h
 ·simp at h
 split at h
 ·simp at h
 split at h
 ·simp at h
 rename_i h1 h2 h3 h4 h5 h6 h7
 have hc:=hs.2.2.1.1 (by omega)
 have e:=hs.2.2.2 hc
 have h4':m_in (cDs c) 1 2=true:=by simpa using h4
 exact ⟨by simpa using h1,by simpa using h2,hc,by have:=e;simp only [Q8];omega,QR.1 h4',by have:=e;simp only [Q8,J0];omega,by simpa using h6,by simpa using h7⟩
theorem QOG {c:Qo} {b:List Qh} (A:Adm c b):Zq c b=0:=by
 have hs:=QbK (c:=c)
 have e:=hs.2.2.2 A.cuts
 have h4:=A.stages
 have hr:=A.redo
 simp only [Q8,J0] at h4 hr
 unfold Zq
 rw [if_neg (by simp [A.model]),if_neg (by simp [A.batch]),if_neg (by omega),if_neg (by have:=QR.2 A.ds;simp [this]),if_neg (by simp;omega),if_neg (by simp [A.caps]),if_neg (by simp [A.limits])]
def nSt (c:Qo):Nat:=(Q8 c).length+1
abbrev prAt (b:List Qh) (k:Nat):Qh:=gtd Zl b k
def dimI (m:Q5) (cuts:List Int) (s:Nat):Int:=if s≤cuts.length then QZ (Yb m cuts s) else Q3 m
section
variable {m:Q5} {cuts:List Int} (hc:Q7 m cuts=true)
include hc
theorem QQF:QM m=true:=by have:=hc;simp only [Q7,Bool.and_eq_true] at this;exact this.1
theorem QfI {s:Nat} (hs:s≤cuts.length+1):ZX (QZ m) (m.take (Zh m cuts s)) (dimI m cuts s)∧ZX (dimI m cuts s) (m.drop (Zh m cuts s)) (Q3 m):=by
 obtain ⟨_,_,h⟩:=QCY (QQF hc)
 have h':=h
 rw [← List.take_append_drop (Zh m cuts s) m] at h'
 have h'':ZX (QZ m) (m.take (Zh m cuts s)++m.drop (Zh m cuts s)) (Q3 m):=by rw [List.take_append_drop];exact h
 obtain ⟨k,h1,h2⟩:=ZX.append.1 h''
 have hk:k=dimI m cuts s:=by
  unfold dimI
  by_cases h3:s≤cuts.length
  ·rw [if_pos h3]
   rw [Qc9 hc h3] at h2
   obtain ⟨k2,h4,h5⟩:=ZX.append.1 h2
   have hp:=QhE hc h3
   exact (QiO h4 hp.1 hp.2).2.1.symm
  ·have es:s=cuts.length+1:=by omega
   subst es
   rw [Qch hc,List.drop_length] at h2
   rw [if_neg h3]
   exact h2
 rw [← hk]
 exact ⟨h1,h2⟩
theorem Qmd {s:Nat} (hs:s≤cuts.length):ZX (dimI m cuts s) (Yb m cuts s) (dimI m cuts (s+1)):=by
 obtain ⟨_,h2⟩:=QfI hc (s:=s) (by omega)
 rw [Qc9 hc hs] at h2
 obtain ⟨k2,h4,h5⟩:=ZX.append.1 h2
 have:k2=dimI m cuts (s+1):=by
  obtain ⟨h6,h7⟩:=QfI hc (s:=s+1) (by omega)
  by_cases h8:s+1≤cuts.length
  ·have hp:=QhE hc h8
   rw [Qc9 hc h8] at h5
   obtain ⟨k3,h9,_⟩:=ZX.append.1 h5
   unfold dimI
   rw [if_pos h8]
   exact (QiO h9 hp.1 hp.2).2.1.symm
  ·rw [show s+1=cuts.length+1 by omega,Qch hc,List.drop_length] at h5
   unfold dimI
   rw [if_neg h8]
   exact h5
 rw [← this]
 exact h4
theorem QEe {s:Nat} (hs:s≤cuts.length):QM (Yb m cuts s)=true∧QZ (Yb m cuts s)=dimI m cuts s∧Q3 (Yb m cuts s)=dimI m cuts (s+1):=by
 have hp:=QhE hc hs
 exact QiO (Qmd hc hs) hp.1 hp.2
theorem Qwd:dimI m cuts (cuts.length+1)=Q3 m:=by have _:=hc;unfold dimI;rw [if_neg (by omega)]
variable {p:Qh} (hp:Y5 m p=true)
include hp
theorem QlB:Qt p.1 (QZ m)=true∧Qt p.2 (Q3 m)=true:=by
 have _:=hc
 simp only [Y5,Bool.and_eq_true] at hp;exact ⟨hp.1.2,hp.2⟩
theorem QeV {s:Nat} (hs:s≤cuts.length+1):Qt (inp m cuts p.1 s) (dimI m cuts s)=true:=QuS (QfI hc hs).1 (QlB hc hp).1
theorem QH6:Qt (ZI m p.1) (Q3 m)=true:=by
 have:=QeV hc hp (s:=cuts.length+1) (by omega)
 rwa [Qid hc,Qwd hc] at this
theorem QLx:Qt (Zt (ZI m p.1) p.2).1 (Q3 m)=true:=by
 have h1:=QH6 hc hp
 have h2:=(QlB hc hp).2
 have:=QLX (QlH h1 h2)
 rwa [(YN.1 h1).2] at this
theorem QzW {s:Nat} (hs:s≤cuts.length+1):Qt (dOut m cuts p s) (dimI m cuts s)=true:=(QjT (QfI hc hs).2 (QeV hc hp hs) (QLx hc hp)).1
theorem QIl {s:Nat} (hs:s≤cuts.length):Z6 (Yb m cuts s) (Qaj m cuts p s).1=true∧(Qaj m cuts p s).1.length=(Yb m cuts s).length :=
 ⟨(QjT (Qmd hc hs) (QeV hc hp (by omega)) (QzW hc hp (by omega))).2,Ql0 _ _ _ (by unfold QbW;rw [QdL];omega)⟩
theorem QoS {s:Nat} (hs:s≤cuts.length):Je (Yb m cuts s) 0 (QbW m cuts p.1 s)=true :=
 QBI (Qmd hc hs) (by have:=QhE hc hs;intro e;rw [e] at this;simp at this) (QeV hc hp (by omega))
theorem Qm9 {s:Nat}:(QbW m cuts p.1 s).length=(Yb m cuts s).length+1:=by have _:=hc;have _:=hp;exact QdL _ _
theorem QCX {s:Nat}:gtd [] (QbW m cuts p.1 s) 0=inp m cuts p.1 s:=by have _:=hc;have _:=hp;exact QNB _ _
theorem Qxm {s:Nat} (hs:s≤cuts.length):gtd [] (QbW m cuts p.1 s) (Yb m cuts s).length=inp m cuts p.1 (s+1):=by have _:=hp;rw [QnB hc hs];rfl
end
end Go.Proofs.YtjbdljkhbglnhaaGreat.Am
namespace Go.Proofs.YtjbdljkhbglnhaaGreat.Am
open Go Sz
section
variable (c:Qo) (b:List Qh)
def Yx (s:Nat):Bool:=gtd false (J0 c) s
def YB (s:Nat):List TIns:=ZW (cDs c) (nSt c:Nat) s b.length (Yx c s)
abbrev opS (s:Nat):List TOp':=Yb (Q0 c) (Q8 c) s
abbrev inS (s j:Nat):List Int:=inp (Q0 c) (Q8 c) (prAt b j).1 s
abbrev rowS (s j:Nat):List (List Int):=QbW (Q0 c) (Q8 c) (prAt b j).1 s
abbrev doS (s j:Nat):List Int:=dOut (Q0 c) (Q8 c) (prAt b j) s
abbrev bkS (s j:Nat):=Qaj (Q0 c) (Q8 c) (prAt b j) s
abbrev outA (j:Nat):List Int:=ZI (Q0 c) (prAt b j).1
def Q1 (s:Nat):Bool:=decide (s+1=nSt c)
def Qax (s:Nat) (r:List (List Int)):List (List Int):=if Yx c s then r.take 1 else r
def Jh (s:Nat):Nat→List (List Int)
 | 0=>(ZN (opS c s)).1
 | g+1=>(Zg (Jh s g) (bkS c b s g).1).1
def YT:Nat→Int
 | 0=>0
 | f+1=>(Zi (YT f) (Yh (outA c b f) (prAt b f).2).1).1
def lsat (f:Nat):Bool:=(Yh (outA c b f) (prAt b f).2).2||(Zi (YT c b f) (Yh (outA c b f) (prAt b f).2).1).2
def Qdj (s j:Nat):Bool:=fsat (Q0 c) (Q8 c) (prAt b j).1 s||(Q1 c s&&lsat c b j)
def QeX (s j:Nat):Bool:=(bkS c b s j).2.2||(Zg (Jh c b s j) (bkS c b s j).1).2||(Q1 c s&&(Zt (outA c b j) (prAt b j).2).2)
def satV (s f g:Nat):Bool:=(List.range f).any (Qdj c b s)||(List.range g).any (QeX c b s)
def Yi (s f g:Nat):List Yg:=(List.range' g (f-g)).map fun j:Nat=>((j:Int),Qax c s (rowS c b s j))
def JF (s g:Nat) (k1:Int):List (List Int):=if k1=5 then rowS c b s g else []
def vX (s f:Nat) (k1:Int):List Int:=if k1=1 then inS c b s f else []
def vY (s f:Nat) (k1:Int):List Int:=if k1=2∧s+1<nSt c then inS c b (s+1) (f-1) else []
def vG (s g:Nat) (k1:Int):List Int:=if k1=4∨(k1=5∧s+1<nSt c) then doS c b (s+1) g else []
def vD (s g:Nat) (k1:Int):List Int:=if k1=6∧0<s then doS c b s (g-1) else []
def st (s:Nat) (k f g:Nat) (k1:Int):Qc :=
 ((k:Int),YB c b s,opS c s,Q1 c s,Yx c s,Yi c b s f g,JF c b s g k1,vX c b s f k1,vY c b s f k1,vG c b s g k1,vD c b s g k1,Jh c b s g,(if Q1 c s then YT c b f else 0),satV c b s f g)
end
structure Nums (M f g:Nat) (kk:Int):Prop where
 gf:g≤f
 fM:f≤M
 k1:kk=1→f<M
 k2:kk=2→1≤f
 k45:kk=4∨kk=5→g<f
 k6:kk=6→1≤g
theorem Qv2:∀ {l:List Yg} {m k:Int},(∀ x,x∈l→x.1≠m)→JY l m k = -1
 | [],m,k,h=>rfl
 | x::r,m,k,h=>by rw [JY,if_neg (h x List.mem_cons_self)];exact Qv2 (fun y hy=>h y (List.mem_cons_of_mem _ hy))
theorem QKa {c:Qo} {b:List Qh} {s f g:Nat}:QS (Yi c b s f g) (f:Int) = -1:=by
 refine Qv2 (fun x hx=>?_)
 unfold Yi at hx
 obtain ⟨j,hj,rfl⟩:=List.mem_map.1 hx
 rw [List.mem_range'_1] at hj
 simp only [ne_eq];omega
theorem Qhd {c:Qo} {b:List Qh} {s f g:Nat} (h:g<f):Yi c b s f g=((g:Int),Qax c s (rowS c b s g))::Yi c b s f (g+1):=by
 unfold Yi
 rw [show f-g=(f-(g+1))+1 by omega,List.range'_succ,List.map_cons]
theorem QPB {c:Qo} {b:List Qh} {s f g:Nat} (h:g≤f):Yi c b s (f+1) g=Yi c b s f g++[((f:Int),Qax c s (rowS c b s f))]:=by
 unfold Yi
 rw [show f+1-g=(f-g)+1 by omega,List.range'_concat,List.map_append]
 simp only [List.map_cons,List.map_nil,Nat.one_mul]
 rw [show g+(f-g)=f by omega]
theorem Qws {c:Qo} {b:List Qh} {s f g:Nat} (h:g<f):QS (Yi c b s f g) (g:Int)=0:=by
 rw [Qhd h];unfold QS;rw [JY,if_pos rfl]
theorem QaM {c:Qo} {b:List Qh} {s g:Nat} {k1:Int} (h:k1≠5):JF c b s g k1=[]:=by unfold JF;rw [if_neg h]
theorem QaN {c:Qo} {b:List Qh} {s f:Nat} {k1:Int} (h:k1≠1):vX c b s f k1=[]:=by unfold vX;rw [if_neg h]
theorem Qae {c:Qo} {b:List Qh} {s f:Nat} {k1:Int} (h:¬ (k1=2∧s+1<nSt c)):vY c b s f k1=[]:=by unfold vY;rw [if_neg h]
theorem Qb1 {c:Qo} {b:List Qh} {s g:Nat} {k1:Int} (h4:k1≠4) (h5:k1≠5):vG c b s g k1=[]:=by
 unfold vG;rw [if_neg];rintro (e | e)
 ·exact h4 e
 ·exact h5 e.1
theorem Qal {c:Qo} {b:List Qh} {s g:Nat} {k1:Int} (h:¬ (k1=6∧0<s)):vD c b s g k1=[]:=by unfold vD;rw [if_neg h]
theorem JA {p:Prop} {x y:Int} (h:x≠y):¬ (x=y∧p):=fun e=>h e.1
theorem QQu {c:Qo} {b:List Qh} {s f:Nat}:vX c b s f 1=inS c b s f:=by unfold vX;rw [if_pos rfl]
theorem QMu {c:Qo} {b:List Qh} {s g:Nat}:vG c b s g 4=doS c b (s+1) g:=by unfold vG;rw [if_pos (.inl rfl)]
section
variable {c:Qo} {b:List Qh} (A:Adm c b)
include A
theorem Qa8:1≤b.length∧b.length≤5:=by
 have:=A.batch;simp only [ZP,Bool.and_eq_true,QR] at this;omega
theorem Qaz {j:Nat} (hj:j<b.length):Y5 (Q0 c) (prAt b j)=true:=by
 have:=A.batch;simp only [ZP,Bool.and_eq_true] at this
 exact List.all_eq_true.1 this.2 _ (JB hj Zl)
theorem QLt (f:Nat):Q6 (YT c b f)=true:=by
 have _:=A
 cases f with
 | zero=>rfl
 | succ f=>exact Qmr _ _
theorem QRk (s f:Nat):Q6 (if Q1 c s then YT c b f else 0)=true:=by
 split
 ·exact QLt A f
 ·rfl
theorem Qd5 {s:Nat} (hs:s<nSt c):QM (opS c s)=true∧QZ (opS c s)=dimI (Q0 c) (Q8 c) s∧Q3 (opS c s)=dimI (Q0 c) (Q8 c) (s+1):=QEe A.cuts (by simp only [nSt] at hs;omega)
theorem QKM {s:Nat} (hs:s<nSt c):(ZN (opS c s)).1.length=(opS c s).length∧Z6 (opS c s) (ZN (opS c s)).1=true:=by
 unfold ZN
 rw [if_pos (Qd5 A hs).1]
 simp only [List.length_map,true_and]
 generalize opS c s=l
 induction l with
 | nil=>rfl
 | cons o l ih=>simp [Z6,ih]
theorem Qyr {s j:Nat} (hs:s<nSt c) (hj:j<b.length):(bkS c b s j).1.length=(opS c s).length∧Z6 (opS c s) (bkS c b s j).1=true:=by
 have:=QIl A.cuts (Qaz A hj) (s:=s) (by simp only [nSt] at hs;omega)
 exact ⟨this.2,this.1⟩
theorem QkE {s:Nat} (hs:s<nSt c):∀ {g:Nat},g≤b.length→(Jh c b s g).length=(opS c s).length∧Z6 (opS c s) (Jh c b s g)=true
 | 0,_=>QKM A hs
 | g+1,hg=>by
  obtain ⟨h1,h2⟩:=QkE hs (g:=g) (by omega)
  obtain ⟨h3,h4⟩:=Qyr A hs (j:=g) (by omega)
  refine ⟨?_,Qs4 h1 h3 h2 h4⟩
  show (Zg _ _).1.length=_
  rw [QxY];omega
theorem Qft {s j:Nat} (hs:s≤nSt c) (hj:j<b.length):Qt (inS c b s j) (dimI (Q0 c) (Q8 c) s)=true:=QeV A.cuts (Qaz A hj) hs
theorem Qez {s j:Nat} (hs:s≤nSt c) (hj:j<b.length):Qt (doS c b s j) (dimI (Q0 c) (Q8 c) s)=true:=QzW A.cuts (Qaz A hj) hs
theorem QfO {s k f g:Nat} {k1:Int} (hs:s<nSt c) (hk:k≤(YB c b s).length) (H:Nums b.length f g k1):Q9 (st c b s k f g k1)=true:=by
 obtain ⟨hm,hi,ho⟩:=Qd5 A hs
 have hs':s≤(Q8 c).length:=by simp only [nSt] at hs;omega
 have hsr:=QkE A hs (g:=g) (by have:=H.gf;have:=H.fM;omega)
 have hX:YU (vX c b s f k1) (QZ (opS c s))=true:=by
  unfold vX YU;split
  ·rename_i h;rw [hi,Qft A (by omega) (H.k1 h)];simp
  ·simp
 have hY:YU (vY c b s f k1) (Q3 (opS c s))=true:=by
  unfold vY YU;split
  ·rename_i h;rw [ho,Qft A (by omega) (by have:=H.k2 h.1;have:=H.fM;omega)];simp
  ·simp
 have hG:YU (vG c b s g k1) (Q3 (opS c s))=true:=by
  unfold vG YU;split
  ·rename_i h
   have:g<f:=H.k45 (h.imp id (fun h=>h.1))
   rw [ho,Qez A (by omega) (by have:=H.fM;omega)];simp
  ·simp
 have hD:YU (vD c b s g k1) (QZ (opS c s))=true:=by
  unfold vD YU;split
  ·rename_i h;rw [hi,Qez A (by omega) (by have:=H.k6 h.1;have:=H.gf;have:=H.fM;omega)];simp
  ·simp
 have hst:(Yi c b s f g).all (Qav (st c b s k f g k1))=true:=by
  rw [List.all_eq_true]
  intro x hx
  unfold Yi at hx
  obtain ⟨j,hj,rfl⟩:=List.mem_map.1 hx
  rw [List.mem_range'_1] at hj
  have hjb:j<b.length:=by have:=H.fM;omega
  have hg:=QoS A.cuts (Qaz A hjb) hs'
  have hl:(rowS c b s j).length=(opS c s).length+1:=Qm9 A.cuts (Qaz A hjb)
  have ek:Ji (st c b s k f g k1)=if Yx c s=true then 1 else ((opS c s).length:Int)+1:=rfl
  have eo:(st c b s k f g k1).2.2.1=opS c s:=rfl
  unfold Qav YE
  rw [ek,eo]
  simp only [Bool.and_eq_true,beq_iff_eq]
  unfold Qax
  by_cases hr:Yx c s=true
  ·simp only [if_pos hr]
   refine ⟨by rw [List.length_take,hl,Nat.min_eq_left (by omega)];rfl,?_⟩
   exact QfB _ _ _ _ (QfB _ _ _ _ hg)
  ·simp only [if_neg hr]
   exact ⟨congrArg Int.ofNat hl,QfB _ _ _ _ hg⟩
 simp only [Q9,Bool.and_eq_true]
 refine ⟨⟨⟨⟨hm,?_⟩,?_⟩,hst⟩,⟨⟨hX,hD⟩,hY⟩,hG⟩
 ·simp only [st,QR];omega
 ·simp only [st,JI,Bool.and_eq_true,beq_iff_eq];exact hsr
theorem QL5 {s k f g:Nat} {k1:Int} (h2:¬ (k1=2∧s+1<nSt c)) (h4:k1≠4) (h5:k1≠5) (h6:¬ (k1=6∧0<s)) :
  Yp (setX (st c b s k f g k1) (inS c b s f)) ((k:Int)+1)=st c b s (k+1) f g 1:=by
 have _:=A
 simp only [Yp,setX,setY,setG,setD,st,sPc,QD,sOps,Qw,QB,Qk,QJ,sX,sY,sG,sD,QF,QH,sSat]
 rw [QaM h5,Qae h2,Qb1 h4 h5,Qal h6,QaM (k1:=1) (by decide),QQu,Qae (k1:=1) (JA (by decide)),Qb1 (k1:=1) (by decide) (by decide),Qal (k1:=1) (JA (by decide))]
 rfl
theorem QMb {s k f g:Nat} {k1:Int} (h1:k1=2):Yp (setY (st c b s k f g k1) []) ((k:Int)+1)=st c b s (k+1) f g 3:=by
 have _:=A
 subst h1
 simp only [Yp,setX,setY,setG,setD,st,sPc,QD,sOps,Qw,QB,Qk,QJ,sX,sY,sG,sD,QF,QH,sSat]
 rw [QaM (k1:=2) (by decide),QaN (k1:=2) (by decide),Qb1 (k1:=2) (by decide) (by decide),Qal (k1:=2) (JA (by decide)),QaM (k1:=3) (by decide),QaN (k1:=3) (by decide),Qae (k1:=3) (JA (by decide)),Qb1 (k1:=3) (by decide) (by decide),Qal (k1:=3) (JA (by decide))]
 rfl
theorem QCf {s k f g:Nat} {k1:Int} (h1:k1≠1) (h2:¬ (k1=2∧s+1<nSt c)) (h5:k1≠5) (h6:¬ (k1=6∧0<s)) :
  Yp (setG (st c b s k f g k1) (doS c b (s+1) g)) ((k:Int)+1)=st c b s (k+1) f g 4:=by
 have _:=A
 simp only [Yp,setX,setY,setG,setD,st,sPc,QD,sOps,Qw,QB,Qk,QJ,sX,sY,sG,sD,QF,QH,sSat]
 rw [QaM h5,QaN h1,Qae h2,Qal h6,QaM (k1:=4) (by decide),QaN (k1:=4) (by decide),Qae (k1:=4) (JA (by decide)),QMu,Qal (k1:=4) (JA (by decide))]
 rfl
theorem QI2 {s k f g:Nat} {k1:Int} (h1:k1=6):Yp (setD (st c b s k f g k1) []) ((k:Int)+1)=st c b s (k+1) f g 7:=by
 have _:=A
 subst h1
 simp only [Yp,setX,setY,setG,setD,st,sPc,QD,sOps,Qw,QB,Qk,QJ,sX,sY,sG,sD,QF,QH,sSat]
 rw [QaM (k1:=6) (by decide),QaN (k1:=6) (by decide),Qae (k1:=6) (JA (by decide)),Qb1 (k1:=6) (by decide) (by decide),QaM (k1:=7) (by decide),QaN (k1:=7) (by decide),Qae (k1:=7) (JA (by decide)),Qb1 (k1:=7) (by decide) (by decide),Qal (k1:=7) (JA (by decide))]
 rfl
theorem QLg {s k f g:Nat} {k1:Int} (h1:k1≠1) (h2:¬ (k1=2∧s+1<nSt c)) (h4:k1≠4) (h5:k1≠5) (h6:¬ (k1=6∧0<s)):Yp (st c b s k f g k1) ((k:Int)+1)=st c b s (k+1) f g 8:=by
 have _:=A
 simp only [Yp,setX,setY,setG,setD,st,sPc,QD,sOps,Qw,QB,Qk,QJ,sX,sY,sG,sD,QF,QH,sSat]
 rw [QaM h5,QaN h1,Qae h2,Qb1 h4 h5,Qal h6,QaM (k1:=8) (by decide),QaN (k1:=8) (by decide),Qae (k1:=8) (JA (by decide)),Qb1 (k1:=8) (by decide) (by decide),Qal (k1:=8) (JA (by decide))]
 rfl
theorem QMH {s k f g:Nat} {k1:Int} (hs:s<nSt c) (hk:k≤(YB c b s).length) (H:Nums b.length f g k1) (hr:Yx c s=true) (hgf:g<f) (h1:k1≠1) (h2:¬ (k1=2∧s+1<nSt c)) (h4:k1=4↔s+1<nSt c) (h5:k1≠5) (h6:¬ (k1=6∧0<s)) :
  Yp (Jl (st c b s k f g k1) (g:Int)) ((k:Int)+1)=st c b s (k+1) f g 5:=by
 have hok:=QfO A hs hk H
 have hjb:g<b.length:=by have:=H.fM;omega
 have hf:QS (Qk (st c b s k f g k1)) (g:Int)=0:=Qws hgf
 have hrow:gtd [] (gtd Ya (Qk (st c b s k f g k1)) 0).2 0=inS c b s g:=by
  show gtd [] (gtd Ya (Yi c b s f g) 0).2 0=_
  rw [Qhd hgf,Qce]
  have hh:gtd [] (rowS c b s g) 0=inS c b s g:=QCX A.cuts (Qaz A hjb) (s:=s)
  have hl:(rowS c b s g).length=(opS c s).length+1:=Qm9 A.cuts (Qaz A hjb) (s:=s)
  show gtd [] (Qax c s (rowS c b s g)) 0=_
  unfold Qax
  rw [hr,if_pos rfl,← hh]
  cases hq:rowS c b s g with
  | nil=>rw [hq] at hl;simp at hl
  | cons x r=>simp [gtd]
 unfold Jl
 simp only [hf]
 rw [if_pos (by rw [hok];rfl),show Int.toNat 0=0 from rfl,hrow]
 have hg:vG c b s g k1=vG c b s g 5:=by
  unfold vG
  by_cases h:s+1<nSt c
  ·rw [if_pos (.inl (h4.2 h)),if_pos (.inr ⟨rfl,h⟩)]
  ·rw [if_neg (by rintro (e | e);exact h (h4.1 e);exact h e.2),if_neg (by rintro (e | e);cases e;exact h e.2)]
 have hfu:JF c b s g 5=rowS c b s g:=by unfold JF;rw [if_pos rfl]
 simp only [Yp,setX,setY,setG,setD,st,sPc,QD,sOps,Qw,QB,Qk,QJ,sX,sY,sG,sD,QF,QH,sSat]
 rw [hg,QaN h1,Qae h2,Qal h6,hfu,QaN (k1:=5) (by decide),Qae (k1:=5) (JA (by decide)),Qal (k1:=5) (JA (by decide))]
 rfl
theorem QID {s k f g:Nat} {k1:Int} (hs:s<nSt c) (hk:k≤(YB c b s).length) (H:Nums b.length f g k1) (hf:f<b.length) (h0:0<s→k1=1) (h2:¬ (k1=2∧s+1<nSt c)) (h4:k1≠4) (h5:k1≠5) (h6:¬ (k1=6∧0<s)) :
  Yp (YM (st c b s k f g k1) (f:Int) (if s=0 then (prAt b f).1 else sX (st c b s k f g k1)) (prAt b f).2) ((k:Int)+1)=st c b s (k+1) (f+1) g 2:=by
 have hok:=QfO A hs hk H
 obtain ⟨hm,hi,ho⟩:=Qd5 A hs
 have hs':s≤(Q8 c).length:=by simp only [nSt] at hs;omega
 have hp:=Qaz A hf
 have hx:(if s=0 then (prAt b f).1 else sX (st c b s k f g k1))=inS c b s f:=by
  by_cases h:s=0
  ·subst h;rw [if_pos rfl];exact (Qvq A.cuts _).symm
  ·rw [if_neg h]
   show vX c b s f k1=_
   unfold vX;rw [if_pos (h0 (by omega))]
 rw [hx]
 have hlast:Q1 c s=true→s=(Q8 c).length:=by intro h;unfold Q1 nSt at h;have h:=of_decide_eq_true h;omega
 have hfind:QS (Qk (st c b s k f g k1)) (f:Int) = -1:=QKa
 have hfw:Qaw (st c b s k f g k1) (f:Int) (inS c b s f) (prAt b f).2=true:=by
  unfold Qaw
  rw [hok,hfind]
  have h1:Qt (inS c b s f) (QZ (sOps (st c b s k f g k1)))=true:=by
   show Qt _ (QZ (opS c s))=true
   rw [hi];exact Qft A (by omega) hf
  have h3:(!Qw (st c b s k f g k1)||Qt (prAt b f).2 (Q3 (sOps (st c b s k f g k1))))=true:=by
   show (!Q1 c s||Qt (prAt b f).2 (Q3 (opS c s)))=true
   cases hl:Q1 c s with
   | false=>rfl
   | true =>
    have e:=hlast hl
    rw [ho,e,Qwd A.cuts]
    simpa using (QlB A.cuts hp).2
  rw [h1,h3];rfl
 have hy:gtd [] (Qy (opS c s) (inS c b s f)).1 (opS c s).length=inS c b (s+1) f:=Qxm A.cuts hp hs'
 have key:Yp (YM (st c b s k f g k1) (f:Int) (inS c b s f) (prAt b f).2) ((k:Int)+1) =
   ((k:Int)+1,YB c b s,opS c s,Q1 c s,Yx c s,Yi c b s f g++[((f:Int),Qax c s (rowS c b s f))],JF c b s g k1,[],(if Q1 c s=true then vY c b s f k1 else gtd [] (Qy (opS c s) (inS c b s f)).1 (opS c s).length),vG c b s g k1,vD c b s g k1,Jh c b s g,
    (if Q1 c s=true then (Zi (if Q1 c s=true then YT c b f else 0) (Yh (gtd [] (Qy (opS c s) (inS c b s f)).1 (opS c s).length) (prAt b f).2).1).1 else if Q1 c s=true then YT c b f else 0),
    (satV c b s f g||(Qy (opS c s) (inS c b s f)).2||(Q1 c s&&((Yh (gtd [] (Qy (opS c s) (inS c b s f)).1 (opS c s).length) (prAt b f).2).2||(Zi (if Q1 c s=true then YT c b f else 0) (Yh (gtd [] (Qy (opS c s) (inS c b s f)).1 (opS c s).length) (prAt b f).2).1).2)))):=by
  unfold YM
  rw [if_pos hfw]
  rfl
 rw [key,hy]
 have e1:Yi c b s f g++[((f:Int),Qax c s (rowS c b s f))]=Yi c b s (f+1) g:=(QPB H.gf).symm
 have e2:(if Q1 c s=true then vY c b s f k1 else inS c b (s+1) f)=vY c b s (f+1) 2:=by
  unfold vY
  cases hl:Q1 c s with
  | false =>
   simp only [Q1,decide_eq_false_iff_not] at hl
   rw [if_neg (by simp),if_pos ⟨rfl,by omega⟩,Nat.add_sub_cancel]
  | true =>
   simp only [Q1,decide_eq_true_eq] at hl
   rw [if_pos rfl,if_neg h2,if_neg (by omega)]
 have e3:(if Q1 c s=true then (Zi (if Q1 c s=true then YT c b f else 0) (Yh (inS c b (s+1) f) (prAt b f).2).1).1 else if Q1 c s=true then YT c b f else 0)=(if Q1 c s=true then YT c b (f+1) else 0):=by
  cases hl:Q1 c s with
  | false=>simp
  | true =>
   simp only [if_true]
   rw [hlast hl]
   show (Zi _ (Yh (inp _ _ _ _) _).1).1=_
   rw [Qid A.cuts]
   rfl
 have e4:(satV c b s f g||(Qy (opS c s) (inS c b s f)).2||(Q1 c s&&((Yh (inS c b (s+1) f) (prAt b f).2).2||(Zi (if Q1 c s=true then YT c b f else 0) (Yh (inS c b (s+1) f) (prAt b f).2).1).2)))=satV c b s (f+1) g:=by
  unfold satV
  rw [List.range_succ,List.any_append]
  have:Qdj c b s f=((Qy (opS c s) (inS c b s f)).2||(Q1 c s&&((Yh (inS c b (s+1) f) (prAt b f).2).2||(Zi (if Q1 c s=true then YT c b f else 0) (Yh (inS c b (s+1) f) (prAt b f).2).1).2))):=by
   unfold Qdj
   cases hl:Q1 c s with
   | false=>rfl
   | true =>
    simp only [if_true,Bool.true_and]
    rw [hlast hl]
    have:inS c b ((Q8 c).length+1) f=outA c b f:=Qid A.cuts _
    rw [this]
    rfl
  simp only [List.any_cons,List.any_nil,Bool.or_false]
  rw [this]
  cases (List.range f).any (Qdj c b s) <;> cases (List.range g).any (QeX c b s) <;> simp
 have e5:vX c b s (f+1) 2=[]:=rfl
 have e6:vG c b s g k1=vG c b s g 2:=by unfold vG;rw [if_neg (by rintro (e | e);exact h4 e;exact h5 e.1),if_neg (by rintro (e | e);cases e;exact absurd e.1 (by decide))]
 have e7:vD c b s g k1=vD c b s g 2:=by unfold vD;rw [if_neg h6,if_neg (by rintro ⟨e,_⟩;exact absurd e (by decide))]
 have e8:JF c b s g k1=JF c b s g 2:=by unfold JF;rw [if_neg h5,if_neg (by decide)]
 rw [e1,e2,e3,e4,← e5,e6,e7,e8]
 rfl
theorem QME {s k f g:Nat} {k1:Int} (hs:s<nSt c) (hk:k≤(YB c b s).length) (H:Nums b.length f g k1) (hgf:g<f) (hr1:Yx c s=true→k1=5) (hr2:Yx c s=false→s+1<nSt c→k1=4) (h1:k1≠1) (h2:¬ (k1=2∧s+1<nSt c)) (h5:k1=5→Yx c s=true) (h4:k1=4→s+1<nSt c) :
  Yp (if s=0 then setD (Z0 (st c b s k f g k1) (g:Int) (prAt b g).2) [] else Z0 (st c b s k f g k1) (g:Int) (prAt b g).2) ((k:Int)+1)=st c b s (k+1) f (g+1) 6:=by
 have hok:=QfO A hs hk H
 obtain ⟨hm,hi,ho⟩:=Qd5 A hs
 have hs':s≤(Q8 c).length:=by simp only [nSt] at hs;omega
 have hg:g<b.length:=by have:=H.fM;omega
 have hp:=Qaz A hg
 have hlast:Q1 c s=true→s=(Q8 c).length:=by intro h;unfold Q1 nSt at h;have h:=of_decide_eq_true h;omega
 have hfind:QS (Qk (st c b s k f g k1)) (g:Int)=0:=Qws hgf
 have hrl:(rowS c b s g).length=(opS c s).length+1:=Qm9 A.cuts hp
 have hrows:YF (st c b s k f g k1) 0=rowS c b s g:=by
  unfold YF
  show (if Yx c s=true then JF c b s g k1 else (gtd Ya (Yi c b s f g) (Int.toNat 0)).2)=_
  rw [Qhd hgf,show Int.toNat 0=0 from rfl,Qce]
  cases hr:Yx c s with
  | true=>rw [if_pos rfl];unfold JF;rw [if_pos (hr1 hr)]
  | false=>rw [if_neg (by simp)];show Qax c s _=_;unfold Qax;rw [hr,if_neg (by simp)]
 have hd:bwdD (st c b s k f g k1) 0 (prAt b g).2=(doS c b (s+1) g,Q1 c s&&(Zt (outA c b g) (prAt b g).2).2):=by
  unfold bwdD
  rw [hrows]
  show (if Q1 c s=true then Zt (gtd [] (rowS c b s g) (opS c s).length) (prAt b g).2 else (vG c b s g k1,false))=_
  cases hl:Q1 c s with
  | true =>
   rw [if_pos rfl,Qxm A.cuts hp hs',hlast hl,Qid A.cuts]
   show _=(dOut _ _ _ _,_)
   rw [QBZ A.cuts,Bool.true_and]
  | false =>
   simp only [Q1,decide_eq_false_iff_not] at hl
   rw [if_neg (by simp),Bool.false_and]
   unfold vG
   rw [if_pos]
   cases hr:Yx c s with
   | true=>exact .inr ⟨hr1 hr,by omega⟩
   | false=>exact .inl (hr2 hr (by omega))
 have hbk:QaR (st c b s k f g k1) 0 (prAt b g).2=true:=by
  unfold QaR
  rw [hok,hrows,hd]
  simp only [Bool.and_eq_true,beq_iff_eq,decide_eq_true_eq]
  refine ⟨⟨⟨⟨trivial,by omega⟩,hrl⟩,?_⟩,?_⟩
  ·unfold YE
   exact QfB _ _ _ _ (QoS A.cuts hp hs')
  ·show Qt (doS c b (s+1) g) (Q3 (opS c s))=true
   rw [ho];exact Qez A (by omega) hg
 have hback:QI (opS c s) (rowS c b s g) (doS c b (s+1) g)=bkS c b s g:=rfl
 have hbd:(bkS c b s g).2.1=doS c b s g:=(QNS A.cuts hs' _).symm
 have hadd:Yl (sSum (st c b s k f g k1)) ((bkS c b s g).1,0,(Q1 c s&&(Zt (outA c b g) (prAt b g).2).2)||(bkS c b s g).2.2)=(Jh c b s (g+1),(if Q1 c s then YT c b f else 0),satV c b s f (g+1)):=by
  unfold Yl
  simp only
  have hl:Zi (sSum (st c b s k f g k1)).2.1 0=((if Q1 c s then YT c b f else 0),false):=QDH (QRk A s f)
  rw [hl]
  refine Prod.ext rfl (Prod.ext rfl ?_)
  show (satV c b s f g||((Q1 c s&&(Zt (outA c b g) (prAt b g).2).2)||(bkS c b s g).2.2)||(Zg (Jh c b s g) (bkS c b s g).1).2||false)=satV c b s f (g+1)
  unfold satV
  rw [List.range_succ,List.any_append]
  simp only [List.any_cons,List.any_nil,Bool.or_false]
  unfold QeX
  cases (List.range f).any (Qdj c b s) <;> cases (List.range g).any (QeX c b s) <;> cases (bkS c b s g).2.2 <;> cases (Zg (Jh c b s g) (bkS c b s g).1).2 <;> simp
 have key:Z0 (st c b s k f g k1) (g:Int) (prAt b g).2=((k:Int),YB c b s,opS c s,Q1 c s,Yx c s,Yi c b s f (g+1),[],vX c b s f k1,vY c b s f k1,[],doS c b s g,Jh c b s (g+1),(if Q1 c s then YT c b f else 0),satV c b s f (g+1)):=by
  unfold Z0
  simp only [hfind]
  rw [if_pos hbk,hrows,hd]
  simp only
  have e:sOps (st c b s k f g k1)=opS c s:=rfl
  rw [e,hback,hadd,hbd]
  have e2:(Qk (st c b s k f g k1)).take (Int.toNat 0)++(Qk (st c b s k f g k1)).drop (Int.toNat 0+1)=Yi c b s f (g+1):=by
   show (Yi c b s f g).take 0++(Yi c b s f g).drop 1=_
   rw [Qhd hgf];rfl
  rw [e2]
  rfl
 rw [key]
 have f1:vX c b s f k1=vX c b s f 6:=by unfold vX;rw [if_neg h1,if_neg (by decide)]
 have f2:vY c b s f k1=vY c b s f 6:=by unfold vY;rw [if_neg h2,if_neg (by rintro ⟨e,_⟩;exact absurd e (by decide))]
 have f3:vG c b s (g+1) 6=[]:=by unfold vG;rw [if_neg];rintro (e | e);exact absurd e (by decide);exact absurd e.1 (by decide)
 rw [f1,f2]
 by_cases h:s=0
 ·rw [if_pos h]
  simp only [Yp,setX,setY,setG,setD,st,sPc,QD,sOps,Qw,QB,Qk,QJ,sX,sY,sG,sD,QF,QH,sSat]
  have f4:vD c b s (g+1) 6=[]:=by unfold vD;rw [if_neg (by omega)]
  rw [f3,f4]
  rfl
 ·rw [if_neg h]
  simp only [Yp,setX,setY,setG,setD,st,sPc,QD,sOps,Qw,QB,Qk,QJ,sX,sY,sG,sD,QF,QH,sSat]
  have f4:vD c b s (g+1) 6=doS c b s g:=by unfold vD;rw [if_pos ⟨rfl,by omega⟩,Nat.add_sub_cancel]
  rw [f3,f4]
  rfl
end
end Go.Proofs.YtjbdljkhbglnhaaGreat.Am
namespace Go.Proofs.YtjbdljkhbglnhaaGreat.Am
open Go Sz
structure Loc (ds n M s:Int) (rd:Bool) (f g:Nat) (k1:Int) (i:TIns) (last:Bool):Prop where
 c0:g≤f∧(f:Int)≤M∧1≤i.1∧i.1≤8∧0≤i.2∧i.2<M∧(i.1=8↔last=true)∧i≠(0,0)
 c1:i.1=1→0<s∧i.2=f∧k1≠1
 c2:i.1=2→i.2=f∧(0<s→k1=1)
 c3:i.1=3→s<n-1∧i.2=(f:Int)-1∧k1=2
 c4:i.1=4→s<n-1∧i.2=g
 c5:i.1=5→rd=true∧i.2=g∧g<f∧(s<n-1→k1=4)
 c6:i.1=6→i.2=g∧g<f∧(rd=true→k1=5)∧(rd=false→s<n-1→k1=4)
 c7:i.1=7→0<s∧i.2=(g:Int)-1∧k1=6
 c8:i.1=8→(f:Int)=M∧(g:Int)=M∧k1≠0
 c9:k1=1→i.1=2
 c10:k1=2→s<n-1→i.1=3
 c11:k1=4→i.1=5∨i.1=6
 c12:k1=5→i.1=6
 c13:k1=6→0<s→i.1=7
 c14:k1=5→rd=true
 c15:k1=6→1≤g
 c16:k1=2→1≤f
 c17:k1≠8
 c18:k1=4→s<n-1
 c19:k1=1→0<s
 c20:k1=4∨k1=5→g<f
 c21:k1=1→(f:Int)<M
 c22:s<n-1→(scOf f k1:Int)<M→tm ds n M s i≤tm ds n M s (3,(scOf f k1:Int))
 c23:0<s→(rcOf f k1:Int)<M→tm ds n M s i≤tm ds n M s (1,(rcOf f k1:Int))
 c24:s<n-1→(rgOf n s g k1:Int)<M→tm ds n M s i≤tm ds n M s (4,(rgOf n s g k1:Int))
 c25:0<s→(sgQ g k1:Int)<M→tm ds n M s i≤tm ds n M s (7,(sgQ g k1:Int))
 c26:ds=2→(f:Int)-g≤n-s
 c27:ds=2→i.1=2→(f:Int)-g<n-s
theorem QMw {ds n M s:Int} {rd:Bool} {f g:Nat} {k1:Int} {i:TIns} {last:Bool} (h:QfQ ds n M s rd f g k1 i last=true):Loc ds n M s rd f g k1 i last:=by
 simp only [QfQ,Bool.and_eq_true,decide_eq_true_eq] at h
 exact ⟨h.1.1.1.1.1.1.1.1.1.1.1.1.1.1.1.1.1.1.1.1.1.1.1.1.1.1.1,h.1.1.1.1.1.1.1.1.1.1.1.1.1.1.1.1.1.1.1.1.1.1.1.1.1.1.2,h.1.1.1.1.1.1.1.1.1.1.1.1.1.1.1.1.1.1.1.1.1.1.1.1.1.2,h.1.1.1.1.1.1.1.1.1.1.1.1.1.1.1.1.1.1.1.1.1.1.1.1.2,h.1.1.1.1.1.1.1.1.1.1.1.1.1.1.1.1.1.1.1.1.1.1.1.2,h.1.1.1.1.1.1.1.1.1.1.1.1.1.1.1.1.1.1.1.1.1.1.2,h.1.1.1.1.1.1.1.1.1.1.1.1.1.1.1.1.1.1.1.1.1.2,h.1.1.1.1.1.1.1.1.1.1.1.1.1.1.1.1.1.1.1.1.2,h.1.1.1.1.1.1.1.1.1.1.1.1.1.1.1.1.1.1.1.2,h.1.1.1.1.1.1.1.1.1.1.1.1.1.1.1.1.1.1.2,h.1.1.1.1.1.1.1.1.1.1.1.1.1.1.1.1.1.2,h.1.1.1.1.1.1.1.1.1.1.1.1.1.1.1.1.2,h.1.1.1.1.1.1.1.1.1.1.1.1.1.1.1.2,h.1.1.1.1.1.1.1.1.1.1.1.1.1.1.2,h.1.1.1.1.1.1.1.1.1.1.1.1.1.2,h.1.1.1.1.1.1.1.1.1.1.1.1.2,h.1.1.1.1.1.1.1.1.1.1.1.2,h.1.1.1.1.1.1.1.1.1.1.2,h.1.1.1.1.1.1.1.1.1.2,h.1.1.1.1.1.1.1.1.2,h.1.1.1.1.1.1.1.2,h.1.1.1.1.1.1.2,h.1.1.1.1.1.2,h.1.1.1.1.2,h.1.1.1.2,h.1.1.2,h.1.2,h.2⟩
section
variable (c:Qo) (b:List Qh)
def lenP (s:Nat):Nat:=(YB c b s).length
def insP (s k:Nat):TIns:=gtd dIns (YB c b s) k
def F (s k:Nat):Nat:=cf ((YB c b s).take k)
def G (s k:Nat):Nat:=cg ((YB c b s).take k)
def K1 (s k:Nat):Int:=Y2 (YB c b s) k
def sc (s k:Nat):Nat:=scOf (F c b s k) (K1 c b s k)
def rc (s k:Nat):Nat:=rcOf (F c b s k) (K1 c b s k)
def rg (s k:Nat):Nat:=rgOf (nSt c:Nat) (s:Int) (G c b s k) (K1 c b s k)
def sg (s k:Nat):Nat:=sgQ (G c b s k) (K1 c b s k)
def stAt (s k:Nat):Qc:=st c b s k (F c b s k) (G c b s k) (K1 c b s k)
abbrev JW (s:Nat):Int:=gtd 0 (JX c) s
def aQ (ks:Nat→Nat) (s:Nat):Qe:=(JW c s,(List.range' (rc c b (s+1) (ks (s+1))) (sc c b s (ks s)-rc c b (s+1) (ks (s+1)))).map fun j:Nat=>((j:Int),inS c b (s+1) j))
def bQ (ks:Nat→Nat) (s:Nat):Qe:=(JW c s,(List.range' (rg c b s (ks s)) (sg c b (s+1) (ks (s+1))-rg c b s (ks s))).map fun j:Nat=>((j:Int),doS c b (s+1) j))
def QT (ks:Nat→Nat):Qd :=
 (b,(List.range (nSt c)).map (fun s=>stAt c b s (ks s)),(List.range (nSt c-1)).map (aQ c b ks),(List.range (nSt c-1)).map (bQ c b ks))
end
section
variable {c:Qo} {b:List Qh} (A:Adm c b)
include A
theorem Jk:1≤nSt c∧nSt c≤4:=by have:=A.stages;simp only [nSt];omega
theorem QuV {s:Nat} (hs:s<nSt c):QcG (cDs c) (nSt c:Nat) b.length s (Yx c s) (YB c b s) 0 0 0=true:=by
 have h1:=Jk A
 have h2:=Qa8 A
 exact QOu (Yx c s) A.ds.1 A.ds.2 (by omega) (by omega) (by omega) (by omega) (by omega)
theorem loc {s k:Nat} (hs:s<nSt c) (hk:k<lenP c b s):Loc (cDs c) (nSt c:Nat) b.length s (Yx c s) (F c b s k) (G c b s k) (K1 c b s k) (insP c b s k) (decide (k+1=lenP c b s)):=by
 have h:=(Qn2 _ _ _ _ (QuV A hs) k (Nat.le_of_lt hk)).1 (insP c b s k) (Jq hk dIns)
 have e:(if k=0 then (0:Int) else Y2 (YB c b s) k)=K1 c b s k:=by
  unfold K1 Y2;split <;> rfl
 rw [e,Nat.zero_add,Nat.zero_add] at h
 exact QMw h
theorem Qe3 {s:Nat} (hs:s<nSt c):F c b s (lenP c b s)=b.length∧G c b s (lenP c b s)=b.length∧K1 c b s (lenP c b s)=8:=by
 have h:=(Qn2 _ _ _ _ (QuV A hs) (lenP c b s) (Nat.le_refl _)).2 rfl
 have e:(if lenP c b s=0 then (0:Int) else Y2 (YB c b s) (lenP c b s))=K1 c b s (lenP c b s):=by
  unfold K1 Y2;split <;> rfl
 rw [e,Nat.zero_add,Nat.zero_add] at h
 simp only [QnR,decide_eq_true_eq] at h
 unfold F G
 exact ⟨by omega,by omega,h.2.2⟩
theorem nums {s k:Nat} (hs:s<nSt c) (hk:k≤lenP c b s):Nums b.length (F c b s k) (G c b s k) (K1 c b s k):=by
 by_cases h:k<lenP c b s
 ·have L:=loc A hs h
  exact ⟨L.c0.1,by have:=L.c0.2.1;omega,fun e=>by have:=L.c21 e;omega,L.c16,L.c20,L.c15⟩
 ·have:k=lenP c b s:=by omega
  subst this
  obtain ⟨h1,h2,h3⟩:=Qe3 A hs
  rw [h1,h2,h3]
  exact ⟨Nat.le_refl _,Nat.le_refl _,(fun e=>by simp at e),(fun e=>by simp at e),(fun e=>by simp at e),(fun e=>by simp at e)⟩
omit A in
theorem Qou {s k:Nat} (hk:k<lenP c b s):F c b s (k+1)=F c b s k+kf (insP c b s k)∧G c b s (k+1)=G c b s k+kg (insP c b s k)∧K1 c b s (k+1)=(insP c b s k).1:=by
 have h:(YB c b s)[k]? = some (insP c b s k):=Jq hk dIns
 have ht:(YB c b s).take (k+1)=(YB c b s).take k++[insP c b s k]:=by rw [List.take_add_one,h];rfl
 refine ⟨?_,?_,?_⟩
 ·unfold F cf;rw [ht];simp
 ·unfold G cg;rw [ht];simp
 ·unfold K1 Y2;rw [if_neg (by omega)];rfl
theorem Jc {s:Nat} (hs:s<nSt c):sc c b s (lenP c b s)=b.length∧rc c b s (lenP c b s)=b.length∧rg c b s (lenP c b s)=b.length∧sg c b s (lenP c b s)=b.length:=by
 obtain ⟨h1,h2,h3⟩:=Qe3 A hs
 unfold sc rc rg sg
 rw [h1,h2,h3]
 exact ⟨rfl,rfl,rfl,rfl⟩
theorem Qsd {s k:Nat} (hs:s<nSt c) (hk:k<lenP c b s) :
  (s+1<nSt c→sc c b s (k+1)=sc c b s k+if (insP c b s k).1=3 then 1 else 0) ∧
  (0<s→rc c b s (k+1)=rc c b s k+if (insP c b s k).1=1 then 1 else 0) ∧
  (s+1<nSt c→rg c b s (k+1)=rg c b s k+if (insP c b s k).1=4 then 1 else 0) ∧
  (0<s→sg c b s (k+1)=sg c b s k+if (insP c b s k).1=7 then 1 else 0):=by
 have L:=loc A hs hk
 obtain ⟨e1,e2,e3⟩:=Qou (c:=c) (b:=b) hk
 unfold sc rc rg sg
 rw [e1,e2,e3]
 generalize F c b s k=f at *
 generalize G c b s k=g at *
 generalize K1 c b s k=k1 at *
 generalize insP c b s k=i at *
 have hi:=L.c0
 have h6:i.1=6→(s:Int)<(nSt c:Nat)-1→k1=4∨k1=5:=fun e hlt=>by
  have h:=L.c6 e
  cases hr:Yx c s with
  | true=>exact .inr (h.2.2.1 hr)
  | false=>exact .inl (h.2.2.2 hr hlt)
 have h1:=L.c1;have h2:=L.c2;have h3:=L.c3;have h4:=L.c4;have h5:=L.c5;have h7:=L.c7;have h9:=L.c9;have h10:=L.c10;have h11:=L.c11;have h12:=L.c12;have h13:=L.c13;have h15:=L.c15;have h16:=L.c16;have h18:=L.c18
 obtain ⟨i1,i2⟩:=i
 simp only at hi h1 h2 h3 h4 h5 h6 h7 h9 h10 h11 h12 h13
 unfold scOf rcOf rgOf sgQ kf kg
 simp only
 have hcase:i1=1∨i1=2∨i1=3∨i1=4∨i1=5∨i1=6∨i1=7∨i1=8:=by omega
 rcases hcase with rfl | rfl | rfl | rfl | rfl | rfl | rfl | rfl <;> simp at h1 h2 h3 h4 h5 h6 h7 h9 h10 h11 h12 h13 ⊢ <;> (refine ⟨?_,?_,?_,?_⟩ <;> intro hh <;> (repeat' split) <;> omega)
structure Ok (c:Qo) (b:List Qh) (ks:Nat→Nat):Prop where
 le:∀ s,s<nSt c→ks s≤lenP c b s
 qa:∀ s,s+1<nSt c→rc c b (s+1) (ks (s+1))≤sc c b s (ks s)∧(sc c b s (ks s):Int)-rc c b (s+1) (ks (s+1))≤JW c s
 qb:∀ s,s+1<nSt c→rg c b s (ks s)≤sg c b (s+1) (ks (s+1))∧(sg c b (s+1) (ks (s+1)):Int)-rg c b s (ks s)≤JW c s
 fl:(∃ s,s<nSt c∧ks s=lenP c b s)→∀ s,s<nSt c→lenP c b s≤ks s+1
def En (c:Qo) (b:List Qh) (ks:Nat→Nat) (s:Nat):Prop :=
 ks s<lenP c b s ∧
 ((insP c b s (ks s)).1=1→rc c b s (ks s)<sc c b (s-1) (ks (s-1))) ∧
 ((insP c b s (ks s)).1=3→(sc c b s (ks s):Int)-rc c b (s+1) (ks (s+1))<JW c s) ∧
 ((insP c b s (ks s)).1=4→rg c b s (ks s)<sg c b (s+1) (ks (s+1))) ∧
 ((insP c b s (ks s)).1=7→(sg c b s (ks s):Int)-rg c b (s-1) (ks (s-1))<JW c (s-1)) ∧
 ((insP c b s (ks s)).1=8→∀ j,j<nSt c→lenP c b j≤ks j+1)
theorem QaC {s:Nat} (hs:s+1<nSt c):1≤JW c s∧JW c s≤5:=by
 have:=A.caps
 simp only [YA,Bool.and_eq_true,beq_iff_eq] at this
 have hl:s<(JX c).length:=by simp only [nSt] at hs;have:=this.1;simp only [JX,Q8] at *;omega
 have:=List.all_eq_true.1 this.2 _ (JB hl 0)
 exact QR.1 this
theorem Qh7:(JX c).length=nSt c-1:=by
 have:=A.caps
 simp only [YA,Bool.and_eq_true,beq_iff_eq] at this
 have:=this.1;simp only [nSt,JX,Q8] at *;omega
omit A in
theorem QGI (n:Nat) (P:Nat→Prop) (t:Nat→Int) (h:∃ s,s<n∧P s):∃ s,s<n∧P s∧∀ j,j<n→P j→t s≤t j:=by
 induction n with
 | zero=>obtain ⟨s,h,_⟩:=h;omega
 | succ n ih =>
  by_cases h1:∃ s,s<n∧P s
  ·obtain ⟨s,hs,hp,hm⟩:=ih h1
   by_cases h2:P n∧t n<t s
   ·refine ⟨n,by omega,h2.1,fun j hj hpj=>?_⟩
    by_cases h3:j=n
    ·subst h3;omega
    ·have:=hm j (by omega) hpj;omega
   ·refine ⟨s,by omega,hp,fun j hj hpj=>?_⟩
    by_cases h3:j=n
    ·subst h3
     have:¬ t j<t s:=fun h=>h2 ⟨hpj,h⟩
     omega
    ·exact hm j (by omega) hpj
  ·obtain ⟨s,hs,hp⟩:=h
   have:s=n:=by
    apply Classical.byContradiction;intro hne
    exact h1 ⟨s,by omega,hp⟩
   subst this
   refine ⟨s,by omega,hp,fun j hj hpj=>?_⟩
   by_cases h3:j=s
   ·subst h3;omega
   ·exact absurd ⟨j,by omega,hpj⟩ h1
set_option maxHeartbeats 1000000 in
theorem QHf {ks:Nat→Nat} (V:Ok c b ks) (h:∃ s,s<nSt c∧ks s<lenP c b s):∃ s,s<nSt c∧En c b ks s:=by
 obtain ⟨s,hs,hk,hmin⟩:=QGI (nSt c) (fun s=>ks s<lenP c b s) (fun s=>tm (cDs c) (nSt c:Nat) b.length s (insP c b s (ks s))) h
 have L:=loc A hs hk
 refine ⟨s,hs,hk,fun hi=>?_,fun hi=>?_,fun hi=>?_,fun hi=>?_,fun hi=>?_⟩
 ·obtain ⟨h0,h1,h2⟩:=L.c1 hi
  have h0:0<s:=by omega
  have hq:=(V.qa (s-1) (by omega)).1
  rw [show s-1+1=s by omega] at hq
  apply Classical.byContradiction
  intro hn
  have hrc:rc c b s (ks s)=F c b s (ks s):=by unfold rc rcOf;rw [if_neg h2]
  have hlt:(F c b s (ks s):Int)<b.length:=by have:=L.c0;omega
  by_cases hj:ks (s-1)<lenP c b (s-1)
  ·have L':=loc A (s:=s-1) (by omega) hj
   have h3:=L'.c22 (by omega) (by show ((sc c b (s-1) (ks (s-1)):Nat):Int)<_;omega)
   have h4:=hmin (s-1) (by omega) hj
   have e1:(scOf (F c b (s-1) (ks (s-1))) (K1 c b (s-1) (ks (s-1))))=F c b s (ks s):=by show sc c b (s-1) (ks (s-1))=_;omega
   rw [e1] at h3
   simp only [tm,hi,h1] at h3 h4
   simp at h3 h4
   omega
  ·have:=V.le (s-1) (by omega)
   rw [show ks (s-1)=lenP c b (s-1) by omega,(Jc A (by omega)).1] at hn
   omega
 ·obtain ⟨h0,h1,h2⟩:=L.c3 hi
  have hq:=(V.qa s (by omega)).1
  have hcap:=QaC A (s:=s) (by omega)
  apply Classical.byContradiction
  intro hn
  have h16:=L.c16 h2
  have hsc:sc c b s (ks s)=F c b s (ks s)-1:=by unfold sc scOf;rw [if_pos h2]
  have hfM:(F c b s (ks s):Int)≤b.length:=L.c0.2.1
  by_cases hj:ks (s+1)<lenP c b (s+1)
  ·have L':=loc A (s:=s+1) (by omega) hj
   have e1:(rcOf (F c b (s+1) (ks (s+1))) (K1 c b (s+1) (ks (s+1))))=rc c b (s+1) (ks (s+1)):=rfl
   have h3:=L'.c23 (by omega) (by rw [e1];omega)
   have h4:=hmin (s+1) (by omega) hj
   rw [e1] at h3
   simp only [tm,hi,h1] at h3 h4
   simp at h3 h4
   omega
  ·have:=V.le (s+1) (by omega)
   rw [show ks (s+1)=lenP c b (s+1) by omega,(Jc A (by omega)).2.1] at hn
   omega
 ·obtain ⟨h0,h1⟩:=L.c4 hi
  have hq:=(V.qb s (by omega)).1
  apply Classical.byContradiction
  intro hn
  have h2:¬ (K1 c b s (ks s)=4∨(K1 c b s (ks s)=5∧(s:Int)<(nSt c:Nat)-1)):=by
   rintro (h | h)
   ·have:=L.c11 h;omega
   ·have:=L.c12 h.1;omega
  have hrg:rg c b s (ks s)=G c b s (ks s):=by unfold rg rgOf;rw [if_neg h2]
  have hlt:(G c b s (ks s):Int)<b.length:=by have:=L.c0;omega
  by_cases hj:ks (s+1)<lenP c b (s+1)
  ·have L':=loc A (s:=s+1) (by omega) hj
   have h3:=L'.c25 (by omega) (by show ((sg c b (s+1) (ks (s+1)):Nat):Int)<_;omega)
   have h4:=hmin (s+1) (by omega) hj
   have e1:(sgQ (G c b (s+1) (ks (s+1))) (K1 c b (s+1) (ks (s+1))))=G c b s (ks s):=by show sg c b (s+1) (ks (s+1))=_;omega
   rw [e1] at h3
   simp only [tm,hi,h1] at h3 h4
   simp at h3 h4
   split at h3 <;> simp_all <;> omega
  ·have:=V.le (s+1) (by omega)
   rw [show ks (s+1)=lenP c b (s+1) by omega,(Jc A (by omega)).2.2.2] at hn
   omega
 ·obtain ⟨h0,h1,h2⟩:=L.c7 hi
  have h0:0<s:=by omega
  have hq:=(V.qb (s-1) (by omega)).1
  rw [show s-1+1=s by omega] at hq
  have hcap:=QaC A (s:=s-1) (by omega)
  apply Classical.byContradiction
  intro hn
  have h15:=L.c15 h2
  have hsg:sg c b s (ks s)=G c b s (ks s)-1:=by unfold sg sgQ;rw [if_pos h2]
  have hfM:(G c b s (ks s):Int)≤b.length:=by have:=L.c0;omega
  by_cases hj:ks (s-1)<lenP c b (s-1)
  ·have L':=loc A (s:=s-1) (by omega) hj
   have e1:(rgOf (nSt c:Nat) ((s-1:Nat):Int) (G c b (s-1) (ks (s-1))) (K1 c b (s-1) (ks (s-1))))=rg c b (s-1) (ks (s-1)):=rfl
   have h3:=L'.c24 (by omega) (by rw [e1];omega)
   have h4:=hmin (s-1) (by omega) hj
   rw [e1] at h3
   simp only [tm,hi,h1] at h3 h4
   simp at h3 h4
   split at h3 <;> simp_all <;> omega
  ·have:=V.le (s-1) (by omega)
   rw [show ks (s-1)=lenP c b (s-1) by omega,(Jc A (by omega)).2.2.1] at hn
   omega
 ·intro j hj
  apply Classical.byContradiction
  intro hn
  have hj':ks j<lenP c b j:=by omega
  have L':=loc A hj hj'
  have h4:=hmin j hj hj'
  have h5:(insP c b j (ks j)).1≠8:=fun e=>by have:=L'.c0.2.2.2.2.2.2.1.1 e;simp at this;omega
  have h6:=L'.c0
  have hn4:=Jk A
  have hb5:=Qa8 A
  generalize insP c b j (ks j)=i' at *
  generalize insP c b s (ks s)=i at *
  have:tm (cDs c) (nSt c:Nat) b.length s i=1000000:=by unfold tm;simp [hi]
  rw [this] at h4
  unfold tm at h4
  simp only at h4
  repeat' split at h4
  all_goals omega
end
end Go.Proofs.YtjbdljkhbglnhaaGreat.Am

