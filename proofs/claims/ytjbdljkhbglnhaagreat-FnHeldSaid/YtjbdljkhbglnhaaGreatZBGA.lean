/- -/
import Derived.Test.YtjbdljkhbglnhaaGreatZBG8
set_option linter.all false
namespace Go.Proofs.YtjbdljkhbglnhaaGreat.Am
open Go Sz
def Q2 (m:Q6) (cuts:List Int) (s:Nat):Nat:=if s=0 then 0 else if s≤cuts.length then (gtd 0 cuts (s-1)).toNat else m.length
def Zj (m:Q6) (cuts:List Int) (s:Nat):List TOp':=(m.drop (Q2 m cuts s)).take (Q2 m cuts (s+1)-Q2 m cuts s)
section
variable {m:Q6} {cuts:List Int} (hc:Q4 m cuts=true)
include hc
theorem Qd4 {s:Nat} (hs:s≤cuts.length):Q2 m cuts s<Q2 m cuts (s+1):=by
 have hl:=Qay hc
 have hg:ZT (m.length-1) none cuts=true:=by have:=hc;simp only [Q4,Bool.and_eq_true] at this;exact this.2
 have h1:∀ k:Nat,k<cuts.length→1≤gtd 0 cuts k∧gtd 0 cuts k≤(m.length:Int)-1:=fun k hk=>by
  have:=QcZ hg k _ (Y6 hk 0);omega
 have h2:∀ k:Nat,k+1<cuts.length→gtd 0 cuts k<gtd 0 cuts (k+1):=fun k hk=>Qnz hg k _ _ (Y6 (by omega) 0) (Y6 hk 0)
 unfold Q2
 rw [if_neg (Nat.succ_ne_zero s)]
 by_cases h0:s=0
 ·subst h0
  rw [if_pos rfl]
  split
  ·have:=h1 0 (by omega);simp;omega
  ·omega
 ·rw [if_neg h0,if_pos hs]
  have h3:=h1 (s-1) (by omega)
  split
  ·have h4:=h2 (s-1) (by omega)
   rw [show s-1+1=s by omega] at h4
   rw [show s+1-1=s by omega]
   omega
  ·omega
theorem QfY {s:Nat}:Q2 m cuts s≤m.length:=by
 have hl:=Qay hc
 have hg:ZT (m.length-1) none cuts=true:=by have:=hc;simp only [Q4,Bool.and_eq_true] at this;exact this.2
 unfold Q2
 split
 ·omega
 ·split
  ·have:=QcZ hg (s-1) _ (Y6 (by omega) 0);omega
  ·omega
theorem QgL:Q2 m cuts (cuts.length+1)=m.length:=by have _:=hc;unfold Q2;rw [if_neg (by omega),if_neg (by omega)]
theorem QnQ {s:Nat} (hs:s≤cuts.length):Qq m cuts (s:Int)=((Q2 m cuts s:Int),(Q2 m cuts (s+1):Int)):=by
 have hl:=Qay hc
 have hg:ZT (m.length-1) none cuts=true:=by have:=hc;simp only [Q4,Bool.and_eq_true] at this;exact this.2
 have h1:∀ k:Nat,k<cuts.length→1≤gtd 0 cuts k∧gtd 0 cuts k≤(m.length:Int)-1:=fun k hk=>by
  have:=QcZ hg k _ (Y6 hk 0);omega
 unfold Qq
 rw [if_pos (by rw [hc,Bool.true_and,QS];omega)]
 unfold Q2
 refine Prod.ext ?_ ?_
 ·dsimp only
  by_cases h0:s=0
  ·subst h0;simp
  ·rw [if_pos (by omega),if_neg h0,if_pos hs,Int.toNat_natCast]
   have:=h1 (s-1) (by omega);omega
 ·dsimp only
  rw [if_neg (Nat.succ_ne_zero s)]
  by_cases h2:s<cuts.length
  ·rw [if_pos (by omega),if_pos (by omega),Int.toNat_natCast,show s+1-1=s by omega]
   have:=h1 s h2;omega
  ·rw [if_neg (by omega),if_neg (by omega)]
theorem QtD {s:Nat} (hs:s≤cuts.length):slice m (Qq m cuts (s:Int)).1 (Qq m cuts (s:Int)).2=Zj m cuts s:=by
 rw [QnQ hc hs];simp [slice,Zj]
theorem QkU {s:Nat} (hs:s≤cuts.length):(Zj m cuts s).length=Q2 m cuts (s+1)-Q2 m cuts s:=by
 have:=QfY hc (s:=s+1)
 have:=Qd4 hc hs
 unfold Zj;simp;omega
theorem Qb8 {s:Nat} (hs:s≤cuts.length):1≤(Zj m cuts s).length∧(Zj m cuts s).length≤8:=by
 rw [QkU hc hs]
 have:=QfY hc (s:=s+1)
 have:=Qd4 hc hs
 have:=(Qay hc).2.1
 omega
theorem QGk {s:Nat} (hs:s≤cuts.length):m.take (Q2 m cuts (s+1))=m.take (Q2 m cuts s)++Zj m cuts s:=by
 have:=Qd4 hc hs
 unfold Zj
 rw [← List.take_add,show Q2 m cuts s+(Q2 m cuts (s+1)-Q2 m cuts s)=Q2 m cuts (s+1) by omega]
theorem QiF {s:Nat} (hs:s≤cuts.length):m.drop (Q2 m cuts s)=Zj m cuts s++m.drop (Q2 m cuts (s+1)):=by
 have:=Qd4 hc hs
 unfold Zj
 have h:=List.take_append_drop (Q2 m cuts (s+1)-Q2 m cuts s) (m.drop (Q2 m cuts s))
 rw [List.drop_drop,show Q2 m cuts s+(Q2 m cuts (s+1)-Q2 m cuts s)=Q2 m cuts (s+1) by omega] at h
 exact h.symm
end
def inp (m:Q6) (cuts:List Int) (x:List Int) (s:Nat):List Int:=ZW (m.take (Q2 m cuts s)) x
def QbI (m:Q6) (cuts:List Int) (x:List Int) (s:Nat):List (List Int):=(Qz (Zj m cuts s) (inp m cuts x s)).1
def fsat (m:Q6) (cuts:List Int) (x:List Int) (s:Nat):Bool:=(Qz (Zj m cuts s) (inp m cuts x s)).2
def QcE (m:Q6) (cuts:List Int) (p:Qg) (s:Nat):List (List Int) × List Int × Bool :=
 QP (m.drop (Q2 m cuts s)) (Qz (m.drop (Q2 m cuts s)) (inp m cuts p.1 s)).1 (ZH (ZW m p.1) p.2).1
def dOut (m:Q6) (cuts:List Int) (p:Qg) (s:Nat):List Int:=(QcE m cuts p s).2.1
def QbQ (m:Q6) (cuts:List Int) (p:Qg) (s:Nat):List (List Int) × List Int × Bool:=QP (Zj m cuts s) (QbI m cuts p.1 s) (dOut m cuts p (s+1))
section
variable {m:Q6} {cuts:List Int} (hc:Q4 m cuts=true)
include hc
theorem QNA (x:List Int):inp m cuts x 0=x:=by have _:=hc;unfold inp Q2;simp [QfM]
theorem QfX (x:List Int):inp m cuts x (cuts.length+1)=ZW m x:=by unfold inp;rw [QgL hc,List.take_length]
theorem QxI {s:Nat} (hs:s≤cuts.length) (x:List Int):inp m cuts x (s+1)=ZW (Zj m cuts s) (inp m cuts x s):=by
 unfold inp;rw [QGk hc hs,QPd]
theorem QPU {s:Nat} (hs:s≤cuts.length) (p:Qg) :
  QcE m cuts p s=((QbQ m cuts p s).1++(QcE m cuts p (s+1)).1,(QbQ m cuts p s).2.1,(QbQ m cuts p s).2.2||(QcE m cuts p (s+1)).2.2):=by
 unfold QbQ QbI dOut
 have e:=QxI hc hs p.1
 conv=>lhs;unfold QcE
 rw [QiF hc hs,QCN]
 unfold QcE
 rw [e]
theorem QCf {s:Nat} (hs:s≤cuts.length) (p:Qg):dOut m cuts p s=(QbQ m cuts p s).2.1:=by unfold dOut;rw [QPU hc hs]
theorem QEI (p:Qg):dOut m cuts p (cuts.length+1)=(ZH (ZW m p.1) p.2).1:=by
 unfold dOut QcE
 rw [QgL hc,List.drop_length]
 simp [QP]
end
end Go.Proofs.YtjbdljkhbglnhaaGreat.Am
namespace Go.Proofs.YtjbdljkhbglnhaaGreat.Am
open Go Sz
structure Adm (c:Ql) (b:List Qg):Prop where
 model:QN (Qw c)=true
 batch:ZY (Qw c) b=true
 cuts:Q4 (Qw c) (Qt c)=true
 stages:(Qt c).length+1≤4
 ds:1≤cDs c∧cDs c≤2
 redo:(JY c).length=(Qt c).length+1
 caps:YA c=true
 limits:YB c b.length=true
theorem Qjp {c:Ql} {b:List Qg} (h:Zl c b=0):Adm c b:=by
 unfold Zl at h
 have hs:=QcH (c:=c)
 split at h
 ·simp at h
 split at h
 ·simp at h
 split at h
 ·simp at h
 split at h
 ·simp at h
 split at h
 ·simp at h
 split at h
 ·simp at h
 split at h
 ·simp at h
 rename_i h1 h2 h3 h4 h5 h6 h7
 have hc:=hs.2.2.1.1 (by omega)
 have e:=hs.2.2.2 hc
 have h4':m_in (cDs c) 1 2=true:=by simpa using h4
 exact ⟨by simpa using h1,by simpa using h2,hc,by have:=e;simp only [Qt];omega,QS.1 h4',by have:=e;simp only [Qt,JY];omega,by simpa using h6,by simpa using h7⟩
theorem QNm {c:Ql} {b:List Qg} (A:Adm c b):Zl c b=0:=by
 have hs:=QcH (c:=c)
 have e:=hs.2.2.2 A.cuts
 have h4:=A.stages
 have hr:=A.redo
 simp only [Qt,JY] at h4 hr
 unfold Zl
 rw [if_neg (by simp [A.model]),if_neg (by simp [A.batch]),if_neg (by omega),if_neg (by have:=QS.2 A.ds;simp [this]),if_neg (by simp;omega),if_neg (by simp [A.caps]),if_neg (by simp [A.limits])]
def nSt (c:Ql):Nat:=(Qt c).length+1
abbrev prAt (b:List Qg) (k:Nat):Qg:=gtd Zh b k
def dimI (m:Q6) (cuts:List Int) (s:Nat):Int:=if s≤cuts.length then QZ (Zj m cuts s) else Q1 m
section
variable {m:Q6} {cuts:List Int} (hc:Q4 m cuts=true)
include hc
theorem QOo:QN m=true:=by have:=hc;simp only [Q4,Bool.and_eq_true] at this;exact this.1
theorem Qf7 {s:Nat} (hs:s≤cuts.length+1):ZI (QZ m) (m.take (Q2 m cuts s)) (dimI m cuts s)∧ZI (dimI m cuts s) (m.drop (Q2 m cuts s)) (Q1 m):=by
 obtain ⟨_,_,h⟩:=QJq (QOo hc)
 have h':=h
 rw [← List.take_append_drop (Q2 m cuts s) m] at h'
 have h'':ZI (QZ m) (m.take (Q2 m cuts s)++m.drop (Q2 m cuts s)) (Q1 m):=by rw [List.take_append_drop];exact h
 obtain ⟨k,h1,h2⟩:=ZI.append.1 h''
 have hk:k=dimI m cuts s:=by
  unfold dimI
  by_cases h3:s≤cuts.length
  ·rw [if_pos h3]
   rw [QiF hc h3] at h2
   obtain ⟨k2,h4,h5⟩:=ZI.append.1 h2
   have hp:=Qb8 hc h3
   exact (QgB h4 hp.1 hp.2).2.1.symm
  ·have es:s=cuts.length+1:=by omega
   subst es
   rw [QgL hc,List.drop_length] at h2
   rw [if_neg h3]
   exact h2
 rw [← hk]
 exact ⟨h1,h2⟩
theorem Qcr {s:Nat} (hs:s≤cuts.length):ZI (dimI m cuts s) (Zj m cuts s) (dimI m cuts (s+1)):=by
 obtain ⟨_,h2⟩:=Qf7 hc (s:=s) (by omega)
 rw [QiF hc hs] at h2
 obtain ⟨k2,h4,h5⟩:=ZI.append.1 h2
 have:k2=dimI m cuts (s+1):=by
  obtain ⟨h6,h7⟩:=Qf7 hc (s:=s+1) (by omega)
  by_cases h8:s+1≤cuts.length
  ·have hp:=Qb8 hc h8
   rw [QiF hc h8] at h5
   obtain ⟨k3,h9,_⟩:=ZI.append.1 h5
   unfold dimI
   rw [if_pos h8]
   exact (QgB h9 hp.1 hp.2).2.1.symm
  ·rw [show s+1=cuts.length+1 by omega,QgL hc,List.drop_length] at h5
   unfold dimI
   rw [if_neg h8]
   exact h5
 rw [← this]
 exact h4
theorem QBe {s:Nat} (hs:s≤cuts.length):QN (Zj m cuts s)=true∧QZ (Zj m cuts s)=dimI m cuts s∧Q1 (Zj m cuts s)=dimI m cuts (s+1):=by
 have hp:=Qb8 hc hs
 exact QgB (Qcr hc hs) hp.1 hp.2
theorem Qvy:dimI m cuts (cuts.length+1)=Q1 m:=by have _:=hc;unfold dimI;rw [if_neg (by omega)]
variable {p:Qg} (hp:Jd m p=true)
include hp
theorem Qjm:Qs p.1 (QZ m)=true∧Qs p.2 (Q1 m)=true:=by
 have _:=hc
 simp only [Jd,Bool.and_eq_true] at hp;exact ⟨hp.1.2,hp.2⟩
theorem Qfp {s:Nat} (hs:s≤cuts.length+1):Qs (inp m cuts p.1 s) (dimI m cuts s)=true:=Qwl (Qf7 hc hs).1 (Qjm hc hp).1
theorem QNC:Qs (ZW m p.1) (Q1 m)=true:=by
 have:=Qfp hc hp (s:=cuts.length+1) (by omega)
 rwa [QfX hc,Qvy hc] at this
theorem QEW:Qs (ZH (ZW m p.1) p.2).1 (Q1 m)=true:=by
 have h1:=QNC hc hp
 have h2:=(Qjm hc hp).2
 have:=QOE (Qmd h1 h2)
 rwa [(Z2.1 h1).2] at this
theorem QxU {s:Nat} (hs:s≤cuts.length+1):Qs (dOut m cuts p s) (dimI m cuts s)=true:=(Qm7 (Qf7 hc hs).2 (Qfp hc hp hs) (QEW hc hp)).1
theorem QOQ {s:Nat} (hs:s≤cuts.length):Z9 (Zj m cuts s) (QbQ m cuts p s).1=true∧(QbQ m cuts p s).1.length=(Zj m cuts s).length :=
 ⟨(Qm7 (Qcr hc hs) (Qfp hc hp (by omega)) (QxU hc hp (by omega))).2,QmO _ _ _ (by unfold QbI;rw [Qd2];omega)⟩
theorem Qur {s:Nat} (hs:s≤cuts.length):Jf (Zj m cuts s) 0 (QbI m cuts p.1 s)=true :=
 QPy (Qcr hc hs) (by have:=Qb8 hc hs;intro e;rw [e] at this;simp at this) (Qfp hc hp (by omega))
theorem Qhv {s:Nat}:(QbI m cuts p.1 s).length=(Zj m cuts s).length+1:=by have _:=hc;have _:=hp;exact Qd2 _ _
theorem Qox {s:Nat}:gtd [] (QbI m cuts p.1 s) 0=inp m cuts p.1 s:=by have _:=hc;have _:=hp;exact QHG _ _
theorem Qqx {s:Nat} (hs:s≤cuts.length):gtd [] (QbI m cuts p.1 s) (Zj m cuts s).length=inp m cuts p.1 (s+1):=by have _:=hp;rw [QxI hc hs];rfl
end
end Go.Proofs.YtjbdljkhbglnhaaGreat.Am
namespace Go.Proofs.YtjbdljkhbglnhaaGreat.Am
open Go Sz
section
variable (c:Ql) (b:List Qg)
def Z4 (s:Nat):Bool:=gtd false (JY c) s
def YL (s:Nat):List TIns:=Yn (cDs c) (nSt c:Nat) s b.length (Z4 c s)
abbrev opS (s:Nat):List TOp':=Zj (Qw c) (Qt c) s
abbrev inS (s j:Nat):List Int:=inp (Qw c) (Qt c) (prAt b j).1 s
abbrev rowS (s j:Nat):List (List Int):=QbI (Qw c) (Qt c) (prAt b j).1 s
abbrev doS (s j:Nat):List Int:=dOut (Qw c) (Qt c) (prAt b j) s
abbrev bkS (s j:Nat):=QbQ (Qw c) (Qt c) (prAt b j) s
abbrev outA (j:Nat):List Int:=ZW (Qw c) (prAt b j).1
def Zb (s:Nat):Bool:=decide (s+1=nSt c)
def JC (s:Nat) (r:List (List Int)):List (List Int):=if Z4 c s then r.take 1 else r
def Qaa (s:Nat):Nat→List (List Int)
 | 0=>(Yl (opS c s)).1
 | g+1=>(ZG (Qaa s g) (bkS c b s g).1).1
def Y2:Nat→Int
 | 0=>0
 | f+1=>(Ze (Y2 f) (YI (outA c b f) (prAt b f).2).1).1
def lsat (f:Nat):Bool:=(YI (outA c b f) (prAt b f).2).2||(Ze (Y2 c b f) (YI (outA c b f) (prAt b f).2).1).2
def Qek (s j:Nat):Bool:=fsat (Qw c) (Qt c) (prAt b j).1 s||(Zb c s&&lsat c b j)
def QgJ (s j:Nat):Bool:=(bkS c b s j).2.2||(ZG (Qaa c b s j) (bkS c b s j).1).2||(Zb c s&&(ZH (outA c b j) (prAt b j).2).2)
def satV (s f g:Nat):Bool:=(List.range f).any (Qek c b s)||(List.range g).any (QgJ c b s)
def Z7 (s f g:Nat):List Z8:=(List.range' g (f-g)).map fun j:Nat=>((j:Int),JC c s (rowS c b s j))
def Jp (s g:Nat) (k1:Int):List (List Int):=if k1=5 then rowS c b s g else []
def vX (s f:Nat) (k1:Int):List Int:=if k1=1 then inS c b s f else []
def vY (s f:Nat) (k1:Int):List Int:=if k1=2∧s+1<nSt c then inS c b (s+1) (f-1) else []
def vG (s g:Nat) (k1:Int):List Int:=if k1=4∨(k1=5∧s+1<nSt c) then doS c b (s+1) g else []
def vD (s g:Nat) (k1:Int):List Int:=if k1=6∧0<s then doS c b s (g-1) else []
def st (s:Nat) (k f g:Nat) (k1:Int):Qc :=
 ((k:Int),YL c b s,opS c s,Zb c s,Z4 c s,Z7 c b s f g,Jp c b s g k1,vX c b s f k1,vY c b s f k1,vG c b s g k1,vD c b s g k1,Qaa c b s g,(if Zb c s then Y2 c b f else 0),satV c b s f g)
end
structure Nums (M f g:Nat) (kk:Int):Prop where
 gf:g≤f
 fM:f≤M
 k1:kk=1→f<M
 k2:kk=2→1≤f
 k45:kk=4∨kk=5→g<f
 k6:kk=6→1≤g
theorem Qsn:∀ {l:List Z8} {m k:Int},(∀ x,x∈l→x.1≠m)→JR l m k = -1
 | [],m,k,h=>rfl
 | x::r,m,k,h=>by rw [JR,if_neg (h x List.mem_cons_self)];exact Qsn (fun y hy=>h y (List.mem_cons_of_mem _ hy))
theorem QA1 {c:Ql} {b:List Qg} {s f g:Nat}:QU (Z7 c b s f g) (f:Int) = -1:=by
 refine Qsn (fun x hx=>?_)
 unfold Z7 at hx
 obtain ⟨j,hj,rfl⟩:=List.mem_map.1 hx
 rw [List.mem_range'_1] at hj
 simp only [ne_eq];omega
theorem Qia {c:Ql} {b:List Qg} {s f g:Nat} (h:g<f):Z7 c b s f g=((g:Int),JC c s (rowS c b s g))::Z7 c b s f (g+1):=by
 unfold Z7
 rw [show f-g=(f-(g+1))+1 by omega,List.range'_succ,List.map_cons]
theorem QEZ {c:Ql} {b:List Qg} {s f g:Nat} (h:g≤f):Z7 c b s (f+1) g=Z7 c b s f g++[((f:Int),JC c s (rowS c b s f))]:=by
 unfold Z7
 rw [show f+1-g=(f-g)+1 by omega,List.range'_concat,List.map_append]
 simp only [List.map_cons,List.map_nil,Nat.one_mul]
 rw [show g+(f-g)=f by omega]
theorem Qux {c:Ql} {b:List Qg} {s f g:Nat} (h:g<f):QU (Z7 c b s f g) (g:Int)=0:=by
 rw [Qia h];unfold QU;rw [JR,if_pos rfl]
theorem QaQ {c:Ql} {b:List Qg} {s g:Nat} {k1:Int} (h:k1≠5):Jp c b s g k1=[]:=by unfold Jp;rw [if_neg h]
theorem Qaq {c:Ql} {b:List Qg} {s f:Nat} {k1:Int} (h:k1≠1):vX c b s f k1=[]:=by unfold vX;rw [if_neg h]
theorem Qab {c:Ql} {b:List Qg} {s f:Nat} {k1:Int} (h:¬ (k1=2∧s+1<nSt c)):vY c b s f k1=[]:=by unfold vY;rw [if_neg h]
theorem Qbu {c:Ql} {b:List Qg} {s g:Nat} {k1:Int} (h4:k1≠4) (h5:k1≠5):vG c b s g k1=[]:=by
 unfold vG;rw [if_neg];rintro (e | e)
 ·exact h4 e
 ·exact h5 e.1
theorem Qad {c:Ql} {b:List Qg} {s g:Nat} {k1:Int} (h:¬ (k1=6∧0<s)):vD c b s g k1=[]:=by unfold vD;rw [if_neg h]
theorem Jt {p:Prop} {x y:Int} (h:x≠y):¬ (x=y∧p):=fun e=>h e.1
theorem QEs {c:Ql} {b:List Qg} {s f:Nat}:vX c b s f 1=inS c b s f:=by unfold vX;rw [if_pos rfl]
theorem QDq {c:Ql} {b:List Qg} {s g:Nat}:vG c b s g 4=doS c b (s+1) g:=by unfold vG;rw [if_pos (.inl rfl)]
section
variable {c:Ql} {b:List Qg} (A:Adm c b)
include A
theorem Qbn:1≤b.length∧b.length≤5:=by
 have:=A.batch;simp only [ZY,Bool.and_eq_true,QS] at this;omega
theorem Qaf {j:Nat} (hj:j<b.length):Jd (Qw c) (prAt b j)=true:=by
 have:=A.batch;simp only [ZY,Bool.and_eq_true] at this
 exact List.all_eq_true.1 this.2 _ (JH hj Zh)
theorem QDA (f:Nat):Q5 (Y2 c b f)=true:=by
 have _:=A
 cases f with
 | zero=>rfl
 | succ f=>exact QkQ _ _
theorem QKx (s f:Nat):Q5 (if Zb c s then Y2 c b f else 0)=true:=by
 split
 ·exact QDA A f
 ·rfl
theorem QeA {s:Nat} (hs:s<nSt c):QN (opS c s)=true∧QZ (opS c s)=dimI (Qw c) (Qt c) s∧Q1 (opS c s)=dimI (Qw c) (Qt c) (s+1):=QBe A.cuts (by simp only [nSt] at hs;omega)
theorem QCG {s:Nat} (hs:s<nSt c):(Yl (opS c s)).1.length=(opS c s).length∧Z9 (opS c s) (Yl (opS c s)).1=true:=by
 unfold Yl
 rw [if_pos (QeA A hs).1]
 simp only [List.length_map,true_and]
 generalize opS c s=l
 induction l with
 | nil=>rfl
 | cons o l ih=>simp [Z9,ih]
theorem QMS {s j:Nat} (hs:s<nSt c) (hj:j<b.length):(bkS c b s j).1.length=(opS c s).length∧Z9 (opS c s) (bkS c b s j).1=true:=by
 have:=QOQ A.cuts (Qaf A hj) (s:=s) (by simp only [nSt] at hs;omega)
 exact ⟨this.2,this.1⟩
theorem Qoi {s:Nat} (hs:s<nSt c):∀ {g:Nat},g≤b.length→(Qaa c b s g).length=(opS c s).length∧Z9 (opS c s) (Qaa c b s g)=true
 | 0,_=>QCG A hs
 | g+1,hg=>by
  obtain ⟨h1,h2⟩:=Qoi hs (g:=g) (by omega)
  obtain ⟨h3,h4⟩:=QMS A hs (j:=g) (by omega)
  refine ⟨?_,QwR h1 h3 h2 h4⟩
  show (ZG _ _).1.length=_
  rw [Quy];omega
theorem QaN {s j:Nat} (hs:s≤nSt c) (hj:j<b.length):Qs (inS c b s j) (dimI (Qw c) (Qt c) s)=true:=Qfp A.cuts (Qaf A hj) hs
theorem Qcz {s j:Nat} (hs:s≤nSt c) (hj:j<b.length):Qs (doS c b s j) (dimI (Qw c) (Qt c) s)=true:=QxU A.cuts (Qaf A hj) hs
theorem QiD {s k f g:Nat} {k1:Int} (hs:s<nSt c) (hk:k≤(YL c b s).length) (H:Nums b.length f g k1):Q7 (st c b s k f g k1)=true:=by
 obtain ⟨hm,hi,ho⟩:=QeA A hs
 have hs':s≤(Qt c).length:=by simp only [nSt] at hs;omega
 have hsr:=Qoi A hs (g:=g) (by have:=H.gf;have:=H.fM;omega)
 have hX:YR (vX c b s f k1) (QZ (opS c s))=true:=by
  unfold vX YR;split
  ·rename_i h;rw [hi,QaN A (by omega) (H.k1 h)];simp
  ·simp
 have hY:YR (vY c b s f k1) (Q1 (opS c s))=true:=by
  unfold vY YR;split
  ·rename_i h;rw [ho,QaN A (by omega) (by have:=H.k2 h.1;have:=H.fM;omega)];simp
  ·simp
 have hG:YR (vG c b s g k1) (Q1 (opS c s))=true:=by
  unfold vG YR;split
  ·rename_i h
   have:g<f:=H.k45 (h.imp id (fun h=>h.1))
   rw [ho,Qcz A (by omega) (by have:=H.fM;omega)];simp
  ·simp
 have hD:YR (vD c b s g k1) (QZ (opS c s))=true:=by
  unfold vD YR;split
  ·rename_i h;rw [hi,Qcz A (by omega) (by have:=H.k6 h.1;have:=H.gf;have:=H.fM;omega)];simp
  ·simp
 have hst:(Z7 c b s f g).all (QaA (st c b s k f g k1))=true:=by
  rw [List.all_eq_true]
  intro x hx
  unfold Z7 at hx
  obtain ⟨j,hj,rfl⟩:=List.mem_map.1 hx
  rw [List.mem_range'_1] at hj
  have hjb:j<b.length:=by have:=H.fM;omega
  have hg:=Qur A.cuts (Qaf A hjb) hs'
  have hl:(rowS c b s j).length=(opS c s).length+1:=Qhv A.cuts (Qaf A hjb)
  have ek:Jl (st c b s k f g k1)=if Z4 c s=true then 1 else ((opS c s).length:Int)+1:=rfl
  have eo:(st c b s k f g k1).2.2.1=opS c s:=rfl
  unfold QaA YG
  rw [ek,eo]
  simp only [Bool.and_eq_true,beq_iff_eq]
  unfold JC
  by_cases hr:Z4 c s=true
  ·simp only [if_pos hr]
   refine ⟨by rw [List.length_take,hl,Nat.min_eq_left (by omega)];rfl,?_⟩
   exact QeT _ _ _ _ (QeT _ _ _ _ hg)
  ·simp only [if_neg hr]
   exact ⟨congrArg Int.ofNat hl,QeT _ _ _ _ hg⟩
 simp only [Q7,Bool.and_eq_true]
 refine ⟨⟨⟨⟨hm,?_⟩,?_⟩,hst⟩,⟨⟨hX,hD⟩,hY⟩,hG⟩
 ·simp only [st,QS];omega
 ·simp only [st,JF,Bool.and_eq_true,beq_iff_eq];exact hsr
theorem QJS {s k f g:Nat} {k1:Int} (h2:¬ (k1=2∧s+1<nSt c)) (h4:k1≠4) (h5:k1≠5) (h6:¬ (k1=6∧0<s)) :
  Ys (setX (st c b s k f g k1) (inS c b s f)) ((k:Int)+1)=st c b s (k+1) f g 1:=by
 have _:=A
 simp only [Ys,setX,setY,setG,setD,st,sPc,QH,sOps,QA,QG,Qh,QL,sX,sY,sG,sD,QI,QJ,sSat]
 rw [QaQ h5,Qab h2,Qbu h4 h5,Qad h6,QaQ (k1:=1) (by decide),QEs,Qab (k1:=1) (Jt (by decide)),Qbu (k1:=1) (by decide) (by decide),Qad (k1:=1) (Jt (by decide))]
 rfl
theorem QCs {s k f g:Nat} {k1:Int} (h1:k1=2):Ys (setY (st c b s k f g k1) []) ((k:Int)+1)=st c b s (k+1) f g 3:=by
 have _:=A
 subst h1
 simp only [Ys,setX,setY,setG,setD,st,sPc,QH,sOps,QA,QG,Qh,QL,sX,sY,sG,sD,QI,QJ,sSat]
 rw [QaQ (k1:=2) (by decide),Qaq (k1:=2) (by decide),Qbu (k1:=2) (by decide) (by decide),Qad (k1:=2) (Jt (by decide)),QaQ (k1:=3) (by decide),Qaq (k1:=3) (by decide),Qab (k1:=3) (Jt (by decide)),Qbu (k1:=3) (by decide) (by decide),Qad (k1:=3) (Jt (by decide))]
 rfl
theorem QPC {s k f g:Nat} {k1:Int} (h1:k1≠1) (h2:¬ (k1=2∧s+1<nSt c)) (h5:k1≠5) (h6:¬ (k1=6∧0<s)) :
  Ys (setG (st c b s k f g k1) (doS c b (s+1) g)) ((k:Int)+1)=st c b s (k+1) f g 4:=by
 have _:=A
 simp only [Ys,setX,setY,setG,setD,st,sPc,QH,sOps,QA,QG,Qh,QL,sX,sY,sG,sD,QI,QJ,sSat]
 rw [QaQ h5,Qaq h1,Qab h2,Qad h6,QaQ (k1:=4) (by decide),Qaq (k1:=4) (by decide),Qab (k1:=4) (Jt (by decide)),QDq,Qad (k1:=4) (Jt (by decide))]
 rfl
theorem QAU {s k f g:Nat} {k1:Int} (h1:k1=6):Ys (setD (st c b s k f g k1) []) ((k:Int)+1)=st c b s (k+1) f g 7:=by
 have _:=A
 subst h1
 simp only [Ys,setX,setY,setG,setD,st,sPc,QH,sOps,QA,QG,Qh,QL,sX,sY,sG,sD,QI,QJ,sSat]
 rw [QaQ (k1:=6) (by decide),Qaq (k1:=6) (by decide),Qab (k1:=6) (Jt (by decide)),Qbu (k1:=6) (by decide) (by decide),QaQ (k1:=7) (by decide),Qaq (k1:=7) (by decide),Qab (k1:=7) (Jt (by decide)),Qbu (k1:=7) (by decide) (by decide),Qad (k1:=7) (Jt (by decide))]
 rfl
theorem QFW {s k f g:Nat} {k1:Int} (h1:k1≠1) (h2:¬ (k1=2∧s+1<nSt c)) (h4:k1≠4) (h5:k1≠5) (h6:¬ (k1=6∧0<s)):Ys (st c b s k f g k1) ((k:Int)+1)=st c b s (k+1) f g 8:=by
 have _:=A
 simp only [Ys,setX,setY,setG,setD,st,sPc,QH,sOps,QA,QG,Qh,QL,sX,sY,sG,sD,QI,QJ,sSat]
 rw [QaQ h5,Qaq h1,Qab h2,Qbu h4 h5,Qad h6,QaQ (k1:=8) (by decide),Qaq (k1:=8) (by decide),Qab (k1:=8) (Jt (by decide)),Qbu (k1:=8) (by decide) (by decide),Qad (k1:=8) (Jt (by decide))]
 rfl
theorem QKm {s k f g:Nat} {k1:Int} (hs:s<nSt c) (hk:k≤(YL c b s).length) (H:Nums b.length f g k1) (hr:Z4 c s=true) (hgf:g<f) (h1:k1≠1) (h2:¬ (k1=2∧s+1<nSt c)) (h4:k1=4↔s+1<nSt c) (h5:k1≠5) (h6:¬ (k1=6∧0<s)) :
  Ys (Jj (st c b s k f g k1) (g:Int)) ((k:Int)+1)=st c b s (k+1) f g 5:=by
 have hok:=QiD A hs hk H
 have hjb:g<b.length:=by have:=H.fM;omega
 have hf:QU (Qh (st c b s k f g k1)) (g:Int)=0:=Qux hgf
 have hrow:gtd [] (gtd Yc (Qh (st c b s k f g k1)) 0).2 0=inS c b s g:=by
  show gtd [] (gtd Yc (Z7 c b s f g) 0).2 0=_
  rw [Qia hgf,QaJ]
  have hh:gtd [] (rowS c b s g) 0=inS c b s g:=Qox A.cuts (Qaf A hjb) (s:=s)
  have hl:(rowS c b s g).length=(opS c s).length+1:=Qhv A.cuts (Qaf A hjb) (s:=s)
  show gtd [] (JC c s (rowS c b s g)) 0=_
  unfold JC
  rw [hr,if_pos rfl,← hh]
  cases hq:rowS c b s g with
  | nil=>rw [hq] at hl;simp at hl
  | cons x r=>simp [gtd]
 unfold Jj
 simp only [hf]
 rw [if_pos (by rw [hok];rfl),show Int.toNat 0=0 from rfl,hrow]
 have hg:vG c b s g k1=vG c b s g 5:=by
  unfold vG
  by_cases h:s+1<nSt c
  ·rw [if_pos (.inl (h4.2 h)),if_pos (.inr ⟨rfl,h⟩)]
  ·rw [if_neg (by rintro (e | e);exact h (h4.1 e);exact h e.2),if_neg (by rintro (e | e);cases e;exact h e.2)]
 have hfu:Jp c b s g 5=rowS c b s g:=by unfold Jp;rw [if_pos rfl]
 simp only [Ys,setX,setY,setG,setD,st,sPc,QH,sOps,QA,QG,Qh,QL,sX,sY,sG,sD,QI,QJ,sSat]
 rw [hg,Qaq h1,Qab h2,Qad h6,hfu,Qaq (k1:=5) (by decide),Qab (k1:=5) (Jt (by decide)),Qad (k1:=5) (Jt (by decide))]
 rfl
theorem QzC {s k f g:Nat} {k1:Int} (hs:s<nSt c) (hk:k≤(YL c b s).length) (H:Nums b.length f g k1) (hf:f<b.length) (h0:0<s→k1=1) (h2:¬ (k1=2∧s+1<nSt c)) (h4:k1≠4) (h5:k1≠5) (h6:¬ (k1=6∧0<s)) :
  Ys (YP (st c b s k f g k1) (f:Int) (if s=0 then (prAt b f).1 else sX (st c b s k f g k1)) (prAt b f).2) ((k:Int)+1)=st c b s (k+1) (f+1) g 2:=by
 have hok:=QiD A hs hk H
 obtain ⟨hm,hi,ho⟩:=QeA A hs
 have hs':s≤(Qt c).length:=by simp only [nSt] at hs;omega
 have hp:=Qaf A hf
 have hx:(if s=0 then (prAt b f).1 else sX (st c b s k f g k1))=inS c b s f:=by
  by_cases h:s=0
  ·subst h;rw [if_pos rfl];exact (QNA A.cuts _).symm
  ·rw [if_neg h]
   show vX c b s f k1=_
   unfold vX;rw [if_pos (h0 (by omega))]
 rw [hx]
 have hlast:Zb c s=true→s=(Qt c).length:=by intro h;unfold Zb nSt at h;have h:=of_decide_eq_true h;omega
 have hfind:QU (Qh (st c b s k f g k1)) (f:Int) = -1:=QA1
 have hfw:QaB (st c b s k f g k1) (f:Int) (inS c b s f) (prAt b f).2=true:=by
  unfold QaB
  rw [hok,hfind]
  have h1:Qs (inS c b s f) (QZ (sOps (st c b s k f g k1)))=true:=by
   show Qs _ (QZ (opS c s))=true
   rw [hi];exact QaN A (by omega) hf
  have h3:(!QA (st c b s k f g k1)||Qs (prAt b f).2 (Q1 (sOps (st c b s k f g k1))))=true:=by
   show (!Zb c s||Qs (prAt b f).2 (Q1 (opS c s)))=true
   cases hl:Zb c s with
   | false=>rfl
   | true =>
    have e:=hlast hl
    rw [ho,e,Qvy A.cuts]
    simpa using (Qjm A.cuts hp).2
  rw [h1,h3];rfl
 have hy:gtd [] (Qz (opS c s) (inS c b s f)).1 (opS c s).length=inS c b (s+1) f:=Qqx A.cuts hp hs'
 have key:Ys (YP (st c b s k f g k1) (f:Int) (inS c b s f) (prAt b f).2) ((k:Int)+1) =
   ((k:Int)+1,YL c b s,opS c s,Zb c s,Z4 c s,Z7 c b s f g++[((f:Int),JC c s (rowS c b s f))],Jp c b s g k1,[],(if Zb c s=true then vY c b s f k1 else gtd [] (Qz (opS c s) (inS c b s f)).1 (opS c s).length),vG c b s g k1,vD c b s g k1,Qaa c b s g,
    (if Zb c s=true then (Ze (if Zb c s=true then Y2 c b f else 0) (YI (gtd [] (Qz (opS c s) (inS c b s f)).1 (opS c s).length) (prAt b f).2).1).1 else if Zb c s=true then Y2 c b f else 0),
    (satV c b s f g||(Qz (opS c s) (inS c b s f)).2||(Zb c s&&((YI (gtd [] (Qz (opS c s) (inS c b s f)).1 (opS c s).length) (prAt b f).2).2||(Ze (if Zb c s=true then Y2 c b f else 0) (YI (gtd [] (Qz (opS c s) (inS c b s f)).1 (opS c s).length) (prAt b f).2).1).2)))):=by
  unfold YP
  rw [if_pos hfw]
  rfl
 rw [key,hy]
 have e1:Z7 c b s f g++[((f:Int),JC c s (rowS c b s f))]=Z7 c b s (f+1) g:=(QEZ H.gf).symm
 have e2:(if Zb c s=true then vY c b s f k1 else inS c b (s+1) f)=vY c b s (f+1) 2:=by
  unfold vY
  cases hl:Zb c s with
  | false =>
   simp only [Zb,decide_eq_false_iff_not] at hl
   rw [if_neg (by simp),if_pos ⟨rfl,by omega⟩,Nat.add_sub_cancel]
  | true =>
   simp only [Zb,decide_eq_true_eq] at hl
   rw [if_pos rfl,if_neg h2,if_neg (by omega)]
 have e3:(if Zb c s=true then (Ze (if Zb c s=true then Y2 c b f else 0) (YI (inS c b (s+1) f) (prAt b f).2).1).1 else if Zb c s=true then Y2 c b f else 0)=(if Zb c s=true then Y2 c b (f+1) else 0):=by
  cases hl:Zb c s with
  | false=>simp
  | true =>
   simp only [if_true]
   rw [hlast hl]
   show (Ze _ (YI (inp _ _ _ _) _).1).1=_
   rw [QfX A.cuts]
   rfl
 have e4:(satV c b s f g||(Qz (opS c s) (inS c b s f)).2||(Zb c s&&((YI (inS c b (s+1) f) (prAt b f).2).2||(Ze (if Zb c s=true then Y2 c b f else 0) (YI (inS c b (s+1) f) (prAt b f).2).1).2)))=satV c b s (f+1) g:=by
  unfold satV
  rw [List.range_succ,List.any_append]
  have:Qek c b s f=((Qz (opS c s) (inS c b s f)).2||(Zb c s&&((YI (inS c b (s+1) f) (prAt b f).2).2||(Ze (if Zb c s=true then Y2 c b f else 0) (YI (inS c b (s+1) f) (prAt b f).2).1).2))):=by
   unfold Qek
   cases hl:Zb c s with
   | false=>rfl
   | true =>
    simp only [if_true,Bool.true_and]
    rw [hlast hl]
    have:inS c b ((Qt c).length+1) f=outA c b f:=QfX A.cuts _
    rw [this]
    rfl
  simp only [List.any_cons,List.any_nil,Bool.or_false]
  rw [this]
  cases (List.range f).any (Qek c b s) <;> cases (List.range g).any (QgJ c b s) <;> simp
 have e5:vX c b s (f+1) 2=[]:=rfl
 have e6:vG c b s g k1=vG c b s g 2:=by unfold vG;rw [if_neg (by rintro (e | e);exact h4 e;exact h5 e.1),if_neg (by rintro (e | e);cases e;exact absurd e.1 (by decide))]
 have e7:vD c b s g k1=vD c b s g 2:=by unfold vD;rw [if_neg h6,if_neg (by rintro ⟨e,_⟩;exact absurd e (by decide))]
 have e8:Jp c b s g k1=Jp c b s g 2:=by unfold Jp;rw [if_neg h5,if_neg (by decide)]
 rw [e1,e2,e3,e4,← e5,e6,e7,e8]
 rfl
theorem QI6 {s k f g:Nat} {k1:Int} (hs:s<nSt c) (hk:k≤(YL c b s).length) (H:Nums b.length f g k1) (hgf:g<f) (hr1:Z4 c s=true→k1=5) (hr2:Z4 c s=false→s+1<nSt c→k1=4) (h1:k1≠1) (h2:¬ (k1=2∧s+1<nSt c)) (h5:k1=5→Z4 c s=true) (h4:k1=4→s+1<nSt c) :
  Ys (if s=0 then setD (ZX (st c b s k f g k1) (g:Int) (prAt b g).2) [] else ZX (st c b s k f g k1) (g:Int) (prAt b g).2) ((k:Int)+1)=st c b s (k+1) f (g+1) 6:=by
 have hok:=QiD A hs hk H
 obtain ⟨hm,hi,ho⟩:=QeA A hs
 have hs':s≤(Qt c).length:=by simp only [nSt] at hs;omega
 have hg:g<b.length:=by have:=H.fM;omega
 have hp:=Qaf A hg
 have hlast:Zb c s=true→s=(Qt c).length:=by intro h;unfold Zb nSt at h;have h:=of_decide_eq_true h;omega
 have hfind:QU (Qh (st c b s k f g k1)) (g:Int)=0:=Qux hgf
 have hrl:(rowS c b s g).length=(opS c s).length+1:=Qhv A.cuts hp
 have hrows:YH (st c b s k f g k1) 0=rowS c b s g:=by
  unfold YH
  show (if Z4 c s=true then Jp c b s g k1 else (gtd Yc (Z7 c b s f g) (Int.toNat 0)).2)=_
  rw [Qia hgf,show Int.toNat 0=0 from rfl,QaJ]
  cases hr:Z4 c s with
  | true=>rw [if_pos rfl];unfold Jp;rw [if_pos (hr1 hr)]
  | false=>rw [if_neg (by simp)];show JC c s _=_;unfold JC;rw [hr,if_neg (by simp)]
 have hd:bwdD (st c b s k f g k1) 0 (prAt b g).2=(doS c b (s+1) g,Zb c s&&(ZH (outA c b g) (prAt b g).2).2):=by
  unfold bwdD
  rw [hrows]
  show (if Zb c s=true then ZH (gtd [] (rowS c b s g) (opS c s).length) (prAt b g).2 else (vG c b s g k1,false))=_
  cases hl:Zb c s with
  | true =>
   rw [if_pos rfl,Qqx A.cuts hp hs',hlast hl,QfX A.cuts]
   show _=(dOut _ _ _ _,_)
   rw [QEI A.cuts,Bool.true_and]
  | false =>
   simp only [Zb,decide_eq_false_iff_not] at hl
   rw [if_neg (by simp),Bool.false_and]
   unfold vG
   rw [if_pos]
   cases hr:Z4 c s with
   | true=>exact .inr ⟨hr1 hr,by omega⟩
   | false=>exact .inl (hr2 hr (by omega))
 have hbk:Qaw (st c b s k f g k1) 0 (prAt b g).2=true:=by
  unfold Qaw
  rw [hok,hrows,hd]
  simp only [Bool.and_eq_true,beq_iff_eq,decide_eq_true_eq]
  refine ⟨⟨⟨⟨trivial,by omega⟩,hrl⟩,?_⟩,?_⟩
  ·unfold YG
   exact QeT _ _ _ _ (Qur A.cuts hp hs')
  ·show Qs (doS c b (s+1) g) (Q1 (opS c s))=true
   rw [ho];exact Qcz A (by omega) hg
 have hback:QP (opS c s) (rowS c b s g) (doS c b (s+1) g)=bkS c b s g:=rfl
 have hbd:(bkS c b s g).2.1=doS c b s g:=(QCf A.cuts hs' _).symm
 have hadd:YQ (sSum (st c b s k f g k1)) ((bkS c b s g).1,0,(Zb c s&&(ZH (outA c b g) (prAt b g).2).2)||(bkS c b s g).2.2)=(Qaa c b s (g+1),(if Zb c s then Y2 c b f else 0),satV c b s f (g+1)):=by
  unfold YQ
  simp only
  have hl:Ze (sSum (st c b s k f g k1)).2.1 0=((if Zb c s then Y2 c b f else 0),false):=QAK (QKx A s f)
  rw [hl]
  refine Prod.ext rfl (Prod.ext rfl ?_)
  show (satV c b s f g||((Zb c s&&(ZH (outA c b g) (prAt b g).2).2)||(bkS c b s g).2.2)||(ZG (Qaa c b s g) (bkS c b s g).1).2||false)=satV c b s f (g+1)
  unfold satV
  rw [List.range_succ,List.any_append]
  simp only [List.any_cons,List.any_nil,Bool.or_false]
  unfold QgJ
  cases (List.range f).any (Qek c b s) <;> cases (List.range g).any (QgJ c b s) <;> cases (bkS c b s g).2.2 <;> cases (ZG (Qaa c b s g) (bkS c b s g).1).2 <;> simp
 have key:ZX (st c b s k f g k1) (g:Int) (prAt b g).2=((k:Int),YL c b s,opS c s,Zb c s,Z4 c s,Z7 c b s f (g+1),[],vX c b s f k1,vY c b s f k1,[],doS c b s g,Qaa c b s (g+1),(if Zb c s then Y2 c b f else 0),satV c b s f (g+1)):=by
  unfold ZX
  simp only [hfind]
  rw [if_pos hbk,hrows,hd]
  simp only
  have e:sOps (st c b s k f g k1)=opS c s:=rfl
  rw [e,hback,hadd,hbd]
  have e2:(Qh (st c b s k f g k1)).take (Int.toNat 0)++(Qh (st c b s k f g k1)).drop (Int.toNat 0+1)=Z7 c b s f (g+1):=by
   show (Z7 c b s f g).take 0++(Z7 c b s f g).drop 1=_
   rw [Qia hgf];rfl
  rw [e2]
  rfl
 rw [key]
 have f1:vX c b s f k1=vX c b s f 6:=by unfold vX;rw [if_neg h1,if_neg (by decide)]
 have f2:vY c b s f k1=vY c b s f 6:=by unfold vY;rw [if_neg h2,if_neg (by rintro ⟨e,_⟩;exact absurd e (by decide))]
 have f3:vG c b s (g+1) 6=[]:=by unfold vG;rw [if_neg];rintro (e | e);exact absurd e (by decide);exact absurd e.1 (by decide)
 rw [f1,f2]
 by_cases h:s=0
 ·rw [if_pos h]
  simp only [Ys,setX,setY,setG,setD,st,sPc,QH,sOps,QA,QG,Qh,QL,sX,sY,sG,sD,QI,QJ,sSat]
  have f4:vD c b s (g+1) 6=[]:=by unfold vD;rw [if_neg (by omega)]
  rw [f3,f4]
  rfl
 ·rw [if_neg h]
  simp only [Ys,setX,setY,setG,setD,st,sPc,QH,sOps,QA,QG,Qh,QL,sX,sY,sG,sD,QI,QJ,sSat]
  have f4:vD c b s (g+1) 6=doS c b s g:=by unfold vD;rw [if_pos ⟨rfl,by omega⟩,Nat.add_sub_cancel]
  rw [f3,f4]
  rfl
end
end Go.Proofs.YtjbdljkhbglnhaaGreat.Am
namespace Go.Proofs.YtjbdljkhbglnhaaGreat.Am
open Go Sz
structure Loc (ds n M s:Int) (rd:Bool) (f g:Nat) (k1:Int) (i:TIns) (last:Bool):Prop where
 c0:g≤f∧(f:Int)≤M∧1≤i.1∧i.1≤8∧0≤i.2∧i.2<M∧(i.1=8↔last=true)∧i≠(0,0)
 c1:i.1=1→0<s∧i.2=f∧k1≠1
 c2:i.1=2→i.2=f∧(0<s→k1=1)
 c3:i.1=3→s<n-1∧i.2=(f:Int)-1∧k1=2
 c4:i.1=4→s<n-1∧i.2=g
 c5:i.1=5→rd=true∧i.2=g∧g<f∧(s<n-1→k1=4)
 c6:i.1=6→i.2=g∧g<f∧(rd=true→k1=5)∧(rd=false→s<n-1→k1=4)
 c7:i.1=7→0<s∧i.2=(g:Int)-1∧k1=6
 c8:i.1=8→(f:Int)=M∧(g:Int)=M∧k1≠0
 c9:k1=1→i.1=2
 c10:k1=2→s<n-1→i.1=3
 c11:k1=4→i.1=5∨i.1=6
 c12:k1=5→i.1=6
 c13:k1=6→0<s→i.1=7
 c14:k1=5→rd=true
 c15:k1=6→1≤g
 c16:k1=2→1≤f
 c17:k1≠8
 c18:k1=4→s<n-1
 c19:k1=1→0<s
 c20:k1=4∨k1=5→g<f
 c21:k1=1→(f:Int)<M
 c22:s<n-1→(scOf f k1:Int)<M→tm ds n M s i≤tm ds n M s (3,(scOf f k1:Int))
 c23:0<s→(rcOf f k1:Int)<M→tm ds n M s i≤tm ds n M s (1,(rcOf f k1:Int))
 c24:s<n-1→(rgOf n s g k1:Int)<M→tm ds n M s i≤tm ds n M s (4,(rgOf n s g k1:Int))
 c25:0<s→(sgQ g k1:Int)<M→tm ds n M s i≤tm ds n M s (7,(sgQ g k1:Int))
 c26:ds=2→(f:Int)-g≤n-s
 c27:ds=2→i.1=2→(f:Int)-g<n-s
theorem QGp {ds n M s:Int} {rd:Bool} {f g:Nat} {k1:Int} {i:TIns} {last:Bool} (h:Qhz ds n M s rd f g k1 i last=true):Loc ds n M s rd f g k1 i last:=by
 simp only [Qhz,Bool.and_eq_true,decide_eq_true_eq] at h
 exact ⟨h.1.1.1.1.1.1.1.1.1.1.1.1.1.1.1.1.1.1.1.1.1.1.1.1.1.1.1,h.1.1.1.1.1.1.1.1.1.1.1.1.1.1.1.1.1.1.1.1.1.1.1.1.1.1.2,h.1.1.1.1.1.1.1.1.1.1.1.1.1.1.1.1.1.1.1.1.1.1.1.1.1.2,h.1.1.1.1.1.1.1.1.1.1.1.1.1.1.1.1.1.1.1.1.1.1.1.1.2,h.1.1.1.1.1.1.1.1.1.1.1.1.1.1.1.1.1.1.1.1.1.1.1.2,h.1.1.1.1.1.1.1.1.1.1.1.1.1.1.1.1.1.1.1.1.1.1.2,h.1.1.1.1.1.1.1.1.1.1.1.1.1.1.1.1.1.1.1.1.1.2,h.1.1.1.1.1.1.1.1.1.1.1.1.1.1.1.1.1.1.1.1.2,h.1.1.1.1.1.1.1.1.1.1.1.1.1.1.1.1.1.1.1.2,h.1.1.1.1.1.1.1.1.1.1.1.1.1.1.1.1.1.1.2,h.1.1.1.1.1.1.1.1.1.1.1.1.1.1.1.1.1.2,h.1.1.1.1.1.1.1.1.1.1.1.1.1.1.1.1.2,h.1.1.1.1.1.1.1.1.1.1.1.1.1.1.1.2,h.1.1.1.1.1.1.1.1.1.1.1.1.1.1.2,h.1.1.1.1.1.1.1.1.1.1.1.1.1.2,h.1.1.1.1.1.1.1.1.1.1.1.1.2,h.1.1.1.1.1.1.1.1.1.1.1.2,h.1.1.1.1.1.1.1.1.1.1.2,h.1.1.1.1.1.1.1.1.1.2,h.1.1.1.1.1.1.1.1.2,h.1.1.1.1.1.1.1.2,h.1.1.1.1.1.1.2,h.1.1.1.1.1.2,h.1.1.1.1.2,h.1.1.1.2,h.1.1.2,h.1.2,h.2⟩
section
variable (c:Ql) (b:List Qg)
def lenP (s:Nat):Nat:=(YL c b s).length
def insP (s k:Nat):TIns:=gtd dIns (YL c b s) k
def F (s k:Nat):Nat:=cf ((YL c b s).take k)
def G (s k:Nat):Nat:=cg ((YL c b s).take k)
def K1 (s k:Nat):Int:=Y5 (YL c b s) k
def sc (s k:Nat):Nat:=scOf (F c b s k) (K1 c b s k)
def rc (s k:Nat):Nat:=rcOf (F c b s k) (K1 c b s k)
def rg (s k:Nat):Nat:=rgOf (nSt c:Nat) (s:Int) (G c b s k) (K1 c b s k)
def sg (s k:Nat):Nat:=sgQ (G c b s k) (K1 c b s k)
def stAt (s k:Nat):Qc:=st c b s k (F c b s k) (G c b s k) (K1 c b s k)
abbrev J5 (s:Nat):Int:=gtd 0 (JN c) s
def aQ (ks:Nat→Nat) (s:Nat):Qd:=(J5 c s,(List.range' (rc c b (s+1) (ks (s+1))) (sc c b s (ks s)-rc c b (s+1) (ks (s+1)))).map fun j:Nat=>((j:Int),inS c b (s+1) j))
def bQ (ks:Nat→Nat) (s:Nat):Qd:=(J5 c s,(List.range' (rg c b s (ks s)) (sg c b (s+1) (ks (s+1))-rg c b s (ks s))).map fun j:Nat=>((j:Int),doS c b (s+1) j))
def Zd (ks:Nat→Nat):Qn :=
 (b,(List.range (nSt c)).map (fun s=>stAt c b s (ks s)),(List.range (nSt c-1)).map (aQ c b ks),(List.range (nSt c-1)).map (bQ c b ks))
end
section
variable {c:Ql} {b:List Qg} (A:Adm c b)
include A
theorem QdQ:1≤nSt c∧nSt c≤4:=by have:=A.stages;simp only [nSt];omega
theorem QsH {s:Nat} (hs:s<nSt c):Qci (cDs c) (nSt c:Nat) b.length s (Z4 c s) (YL c b s) 0 0 0=true:=by
 have h1:=QdQ A
 have h2:=Qbn A
 exact QHR (Z4 c s) A.ds.1 A.ds.2 (by omega) (by omega) (by omega) (by omega) (by omega)
theorem loc {s k:Nat} (hs:s<nSt c) (hk:k<lenP c b s):Loc (cDs c) (nSt c:Nat) b.length s (Z4 c s) (F c b s k) (G c b s k) (K1 c b s k) (insP c b s k) (decide (k+1=lenP c b s)):=by
 have h:=(Ql5 _ _ _ _ (QsH A hs) k (Nat.le_of_lt hk)).1 (insP c b s k) (Y6 hk dIns)
 have e:(if k=0 then (0:Int) else Y5 (YL c b s) k)=K1 c b s k:=by
  unfold K1 Y5;split <;> rfl
 rw [e,Nat.zero_add,Nat.zero_add] at h
 exact QGp h
theorem QeU {s:Nat} (hs:s<nSt c):F c b s (lenP c b s)=b.length∧G c b s (lenP c b s)=b.length∧K1 c b s (lenP c b s)=8:=by
 have h:=(Ql5 _ _ _ _ (QsH A hs) (lenP c b s) (Nat.le_refl _)).2 rfl
 have e:(if lenP c b s=0 then (0:Int) else Y5 (YL c b s) (lenP c b s))=K1 c b s (lenP c b s):=by
  unfold K1 Y5;split <;> rfl
 rw [e,Nat.zero_add,Nat.zero_add] at h
 simp only [QjA,decide_eq_true_eq] at h
 unfold F G
 exact ⟨by omega,by omega,h.2.2⟩
theorem nums {s k:Nat} (hs:s<nSt c) (hk:k≤lenP c b s):Nums b.length (F c b s k) (G c b s k) (K1 c b s k):=by
 by_cases h:k<lenP c b s
 ·have L:=loc A hs h
  exact ⟨L.c0.1,by have:=L.c0.2.1;omega,fun e=>by have:=L.c21 e;omega,L.c16,L.c20,L.c15⟩
 ·have:k=lenP c b s:=by omega
  subst this
  obtain ⟨h1,h2,h3⟩:=QeU A hs
  rw [h1,h2,h3]
  exact ⟨Nat.le_refl _,Nat.le_refl _,(fun e=>by simp at e),(fun e=>by simp at e),(fun e=>by simp at e),(fun e=>by simp at e)⟩
omit A in
theorem Qos {s k:Nat} (hk:k<lenP c b s):F c b s (k+1)=F c b s k+kf (insP c b s k)∧G c b s (k+1)=G c b s k+kg (insP c b s k)∧K1 c b s (k+1)=(insP c b s k).1:=by
 have h:(YL c b s)[k]? = some (insP c b s k):=Y6 hk dIns
 have ht:(YL c b s).take (k+1)=(YL c b s).take k++[insP c b s k]:=by rw [List.take_add_one,h];rfl
 refine ⟨?_,?_,?_⟩
 ·unfold F cf;rw [ht];simp
 ·unfold G cg;rw [ht];simp
 ·unfold K1 Y5;rw [if_neg (by omega)];rfl
theorem QoC {s k:Nat} (hs:s<nSt c) (hk:k<lenP c b s) :
  (s+1<nSt c→sc c b s (k+1)=sc c b s k+if (insP c b s k).1=3 then 1 else 0) ∧
  (0<s→rc c b s (k+1)=rc c b s k+if (insP c b s k).1=1 then 1 else 0) ∧
  (s+1<nSt c→rg c b s (k+1)=rg c b s k+if (insP c b s k).1=4 then 1 else 0) ∧
  (0<s→sg c b s (k+1)=sg c b s k+if (insP c b s k).1=7 then 1 else 0):=by
 have L:=loc A hs hk
 obtain ⟨e1,e2,e3⟩:=Qos (c:=c) (b:=b) hk
 unfold sc rc rg sg
 rw [e1,e2,e3]
 generalize F c b s k=f at *
 generalize G c b s k=g at *
 generalize K1 c b s k=k1 at *
 generalize insP c b s k=i at *
 have hi:=L.c0
 have h6:i.1=6→(s:Int)<(nSt c:Nat)-1→k1=4∨k1=5:=fun e hlt=>by
  have h:=L.c6 e
  cases hr:Z4 c s with
  | true=>exact .inr (h.2.2.1 hr)
  | false=>exact .inl (h.2.2.2 hr hlt)
 have h1:=L.c1;have h2:=L.c2;have h3:=L.c3;have h4:=L.c4;have h5:=L.c5;have h7:=L.c7;have h9:=L.c9;have h10:=L.c10;have h11:=L.c11;have h12:=L.c12;have h13:=L.c13;have h15:=L.c15;have h16:=L.c16;have h18:=L.c18
 obtain ⟨i1,i2⟩:=i
 simp only at hi h1 h2 h3 h4 h5 h6 h7 h9 h10 h11 h12 h13
 unfold scOf rcOf rgOf sgQ kf kg
 simp only
 have hcase:i1=1∨i1=2∨i1=3∨i1=4∨i1=5∨i1=6∨i1=7∨i1=8:=by omega
 rcases hcase with rfl | rfl | rfl | rfl | rfl | rfl | rfl | rfl <;> simp at h1 h2 h3 h4 h5 h6 h7 h9 h10 h11 h12 h13 ⊢ <;> (refine ⟨?_,?_,?_,?_⟩ <;> intro hh <;> (repeat' split) <;> omega)
structure Ok (c:Ql) (b:List Qg) (ks:Nat→Nat):Prop where
 le:∀ s,s<nSt c→ks s≤lenP c b s
 qa:∀ s,s+1<nSt c→rc c b (s+1) (ks (s+1))≤sc c b s (ks s)∧(sc c b s (ks s):Int)-rc c b (s+1) (ks (s+1))≤J5 c s
 qb:∀ s,s+1<nSt c→rg c b s (ks s)≤sg c b (s+1) (ks (s+1))∧(sg c b (s+1) (ks (s+1)):Int)-rg c b s (ks s)≤J5 c s
 fl:(∃ s,s<nSt c∧ks s=lenP c b s)→∀ s,s<nSt c→lenP c b s≤ks s+1
def En (c:Ql) (b:List Qg) (ks:Nat→Nat) (s:Nat):Prop :=
 ks s<lenP c b s ∧
 ((insP c b s (ks s)).1=1→rc c b s (ks s)<sc c b (s-1) (ks (s-1))) ∧
 ((insP c b s (ks s)).1=3→(sc c b s (ks s):Int)-rc c b (s+1) (ks (s+1))<J5 c s) ∧
 ((insP c b s (ks s)).1=4→rg c b s (ks s)<sg c b (s+1) (ks (s+1))) ∧
 ((insP c b s (ks s)).1=7→(sg c b s (ks s):Int)-rg c b (s-1) (ks (s-1))<J5 c (s-1)) ∧
 ((insP c b s (ks s)).1=8→∀ j,j<nSt c→lenP c b j≤ks j+1)
theorem Qit {s:Nat} (hs:s+1<nSt c):1≤J5 c s∧J5 c s≤5:=by
 have:=A.caps
 simp only [YA,Bool.and_eq_true,beq_iff_eq] at this
 have hl:s<(JN c).length:=by simp only [nSt] at hs;have:=this.1;simp only [JN,Qt] at *;omega
 have:=List.all_eq_true.1 this.2 _ (JH hl 0)
 exact QS.1 this
theorem Qiu:(JN c).length=nSt c-1:=by
 have:=A.caps
 simp only [YA,Bool.and_eq_true,beq_iff_eq] at this
 have:=this.1;simp only [nSt,JN,Qt] at *;omega
end
end Go.Proofs.YtjbdljkhbglnhaaGreat.Am

