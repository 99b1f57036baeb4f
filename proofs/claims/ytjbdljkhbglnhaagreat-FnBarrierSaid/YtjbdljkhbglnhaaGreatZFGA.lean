/- -/
import Derived.Test.YtjbdljkhbglnhaaGreatZFG8
set_option linter.all false
namespace Go.Proofs.YtjbdljkhbglnhaaGreat.Am
open Go Sz
def ZC (m:Zh) (cuts:List Int) (s:Nat):Nat:=if s=0 then 0 else if s≤cuts.length then (gtd 0 cuts (s-1)).toNat else m.length
def Yz (m:Zh) (cuts:List Int) (s:Nat):List TOp':=(m.drop (ZC m cuts s)).take (ZC m cuts (s+1)-ZC m cuts s)
section
variable {m:Zh} {cuts:List Int} (hc:Zj m cuts=true)
include hc
theorem Qki {s:Nat} (hs:s≤cuts.length):ZC m cuts s<ZC m cuts (s+1):=by
 have hl:=QaU hc
 have hg:Yf (m.length-1) none cuts=true:=by have:=hc;simp only [Zj,Bool.and_eq_true] at this;exact this.2
 have h1:∀ k:Nat,k<cuts.length→1≤gtd 0 cuts k∧gtd 0 cuts k≤(m.length:Int)-1:=fun k hk=>by
  have:=Qdt hg k _ (Y4 hk 0);omega
 have h2:∀ k:Nat,k+1<cuts.length→gtd 0 cuts k<gtd 0 cuts (k+1):=fun k hk=>Qq7 hg k _ _ (Y4 (by omega) 0) (Y4 hk 0)
 unfold ZC
 rw [if_neg (Nat.succ_ne_zero s)]
 by_cases h0:s=0
 ·subst h0
  rw [if_pos rfl]
  split
  ·have:=h1 0 (by omega);simp;omega
  ·omega
 ·rw [if_neg h0,if_pos hs]
  have h3:=h1 (s-1) (by omega)
  split
  ·have h4:=h2 (s-1) (by omega)
   rw [show s-1+1=s by omega] at h4
   rw [show s+1-1=s by omega]
   omega
  ·omega
theorem Qyx {s:Nat}:ZC m cuts s≤m.length:=by
 have hl:=QaU hc
 have hg:Yf (m.length-1) none cuts=true:=by have:=hc;simp only [Zj,Bool.and_eq_true] at this;exact this.2
 unfold ZC
 split
 ·omega
 ·split
  ·have:=Qdt hg (s-1) _ (Y4 (by omega) 0);omega
  ·omega
theorem QkL:ZC m cuts (cuts.length+1)=m.length:=by have _:=hc;unfold ZC;rw [if_neg (by omega),if_neg (by omega)]
theorem QOa {s:Nat} (hs:s≤cuts.length):QK m cuts (s:Int)=((ZC m cuts s:Int),(ZC m cuts (s+1):Int)):=by
 have hl:=QaU hc
 have hg:Yf (m.length-1) none cuts=true:=by have:=hc;simp only [Zj,Bool.and_eq_true] at this;exact this.2
 have h1:∀ k:Nat,k<cuts.length→1≤gtd 0 cuts k∧gtd 0 cuts k≤(m.length:Int)-1:=fun k hk=>by
  have:=Qdt hg k _ (Y4 hk 0);omega
 unfold QK
 rw [if_pos (by rw [hc,Bool.true_and,QV];omega)]
 unfold ZC
 refine Prod.ext ?_ ?_
 ·dsimp only
  by_cases h0:s=0
  ·subst h0;simp
  ·rw [if_pos (by omega),if_neg h0,if_pos hs,Int.toNat_natCast]
   have:=h1 (s-1) (by omega);omega
 ·dsimp only
  rw [if_neg (Nat.succ_ne_zero s)]
  by_cases h2:s<cuts.length
  ·rw [if_pos (by omega),if_pos (by omega),Int.toNat_natCast,show s+1-1=s by omega]
   have:=h1 s h2;omega
  ·rw [if_neg (by omega),if_neg (by omega)]
theorem QTE {s:Nat} (hs:s≤cuts.length):slice m (QK m cuts (s:Int)).1 (QK m cuts (s:Int)).2=Yz m cuts s:=by
 rw [QOa hc hs];simp [slice,Yz]
theorem Q2T {s:Nat} (hs:s≤cuts.length):(Yz m cuts s).length=ZC m cuts (s+1)-ZC m cuts s:=by
 have:=Qyx hc (s:=s+1)
 have:=Qki hc hs
 unfold Yz;simp;omega
theorem QjP {s:Nat} (hs:s≤cuts.length):1≤(Yz m cuts s).length∧(Yz m cuts s).length≤8:=by
 rw [Q2T hc hs]
 have:=Qyx hc (s:=s+1)
 have:=Qki hc hs
 have:=(QaU hc).2.1
 omega
theorem QYe {s:Nat} (hs:s≤cuts.length):m.take (ZC m cuts (s+1))=m.take (ZC m cuts s)++Yz m cuts s:=by
 have:=Qki hc hs
 unfold Yz
 rw [← List.take_add,show ZC m cuts s+(ZC m cuts (s+1)-ZC m cuts s)=ZC m cuts (s+1) by omega]
theorem QkS {s:Nat} (hs:s≤cuts.length):m.drop (ZC m cuts s)=Yz m cuts s++m.drop (ZC m cuts (s+1)):=by
 have:=Qki hc hs
 unfold Yz
 have h:=List.take_append_drop (ZC m cuts (s+1)-ZC m cuts s) (m.drop (ZC m cuts s))
 rw [List.drop_drop,show ZC m cuts s+(ZC m cuts (s+1)-ZC m cuts s)=ZC m cuts (s+1) by omega] at h
 exact h.symm
end
def inp (m:Zh) (cuts:List Int) (x:List Int) (s:Nat):List Int:=Yg (m.take (ZC m cuts s)) x
def Qcs (m:Zh) (cuts:List Int) (x:List Int) (s:Nat):List (List Int):=(QI (Yz m cuts s) (inp m cuts x s)).1
def fsat (m:Zh) (cuts:List Int) (x:List Int) (s:Nat):Bool:=(QI (Yz m cuts s) (inp m cuts x s)).2
def QdQ (m:Zh) (cuts:List Int) (p:Qp) (s:Nat):List (List Int) × List Int × Bool :=
 QS (m.drop (ZC m cuts s)) (QI (m.drop (ZC m cuts s)) (inp m cuts p.1 s)).1 (Zi (Yg m p.1) p.2).1
def dOut (m:Zh) (cuts:List Int) (p:Qp) (s:Nat):List Int:=(QdQ m cuts p s).2.1
def QbT (m:Zh) (cuts:List Int) (p:Qp) (s:Nat):List (List Int) × List Int × Bool:=QS (Yz m cuts s) (Qcs m cuts p.1 s) (dOut m cuts p (s+1))
section
variable {m:Zh} {cuts:List Int} (hc:Zj m cuts=true)
include hc
theorem QXp (x:List Int):inp m cuts x 0=x:=by have _:=hc;unfold inp ZC;simp [Qky]
theorem Qkf (x:List Int):inp m cuts x (cuts.length+1)=Yg m x:=by unfold inp;rw [QkL hc,List.take_length]
theorem Qzu {s:Nat} (hs:s≤cuts.length) (x:List Int):inp m cuts x (s+1)=Yg (Yz m cuts s) (inp m cuts x s):=by
 unfold inp;rw [QYe hc hs,QOG]
theorem QVM {s:Nat} (hs:s≤cuts.length) (p:Qp) :
  QdQ m cuts p s=((QbT m cuts p s).1++(QdQ m cuts p (s+1)).1,(QbT m cuts p s).2.1,(QbT m cuts p s).2.2||(QdQ m cuts p (s+1)).2.2):=by
 unfold QbT Qcs dOut
 have e:=Qzu hc hs p.1
 conv=>lhs;unfold QdQ
 rw [QkS hc hs,QU7]
 unfold QdQ
 rw [e]
theorem QOf {s:Nat} (hs:s≤cuts.length) (p:Qp):dOut m cuts p s=(QbT m cuts p s).2.1:=by unfold dOut;rw [QVM hc hs]
theorem QQY (p:Qp):dOut m cuts p (cuts.length+1)=(Zi (Yg m p.1) p.2).1:=by
 unfold dOut QdQ
 rw [QkL hc,List.drop_length]
 simp [QS]
end
end Go.Proofs.YtjbdljkhbglnhaaGreat.Am
namespace Go.Proofs.YtjbdljkhbglnhaaGreat.Am
open Go Sz
structure Adm (c:QC) (b:List Qp):Prop where
 model:QT (Yk c)=true
 batch:Yj (Yk c) b=true
 cuts:Zj (Yk c) (ZF c)=true
 stages:(ZF c).length+1≤4
 ds:1≤cDs c∧cDs c≤2
 redo:(QaM c).length=(ZF c).length+1
 caps:YS c=true
 limits:Jb c b.length=true
theorem Qln {c:QC} {b:List Qp} (h:ZB c b=0):Adm c b:=by
 unfold ZB at h
 have hs:=QcW (c:=c)
 split at h
 ·simp at h
 split at h
 ·simp at h
 split at h
 ·simp at h
 split at h
 ·simp at h
 split at h
 ·simp at h
 split at h
 ·simp at h
 split at h
 ·simp at h
 rename_i h1 h2 h3 h4 h5 h6 h7
 have hc:=hs.2.2.1.1 (by omega)
 have e:=hs.2.2.2 hc
 have h4':m_in (cDs c) 1 2=true:=by simpa using h4
 exact ⟨by simpa using h1,by simpa using h2,hc,by have:=e;simp only [ZF];omega,QV.1 h4',by have:=e;simp only [ZF,QaM];omega,by simpa using h6,by simpa using h7⟩
theorem QW3 {c:QC} {b:List Qp} (A:Adm c b):ZB c b=0:=by
 have hs:=QcW (c:=c)
 have e:=hs.2.2.2 A.cuts
 have h4:=A.stages
 have hr:=A.redo
 simp only [ZF,QaM] at h4 hr
 unfold ZB
 rw [if_neg (by simp [A.model]),if_neg (by simp [A.batch]),if_neg (by omega),if_neg (by have:=QV.2 A.ds;simp [this]),if_neg (by simp;omega),if_neg (by simp [A.caps]),if_neg (by simp [A.limits])]
def nSt (c:QC):Nat:=(ZF c).length+1
abbrev prAt (b:List Qp) (k:Nat):Qp:=gtd QY b k
def dimI (m:Zh) (cuts:List Int) (s:Nat):Int:=if s≤cuts.length then Za (Yz m cuts s) else Q8 m
section
variable {m:Zh} {cuts:List Int} (hc:Zj m cuts=true)
include hc
theorem QYU:QT m=true:=by have:=hc;simp only [Zj,Bool.and_eq_true] at this;exact this.1
theorem Qib {s:Nat} (hs:s≤cuts.length+1):Yl (Za m) (m.take (ZC m cuts s)) (dimI m cuts s)∧Yl (dimI m cuts s) (m.drop (ZC m cuts s)) (Q8 m):=by
 obtain ⟨_,_,h⟩:=QQm (QYU hc)
 have h':=h
 rw [← List.take_append_drop (ZC m cuts s) m] at h'
 have h'':Yl (Za m) (m.take (ZC m cuts s)++m.drop (ZC m cuts s)) (Q8 m):=by rw [List.take_append_drop];exact h
 obtain ⟨k,h1,h2⟩:=Yl.append.1 h''
 have hk:k=dimI m cuts s:=by
  unfold dimI
  by_cases h3:s≤cuts.length
  ·rw [if_pos h3]
   rw [QkS hc h3] at h2
   obtain ⟨k2,h4,h5⟩:=Yl.append.1 h2
   have hp:=QjP hc h3
   exact (Qho h4 hp.1 hp.2).2.1.symm
  ·have es:s=cuts.length+1:=by omega
   subst es
   rw [QkL hc,List.drop_length] at h2
   rw [if_neg h3]
   exact h2
 rw [← hk]
 exact ⟨h1,h2⟩
theorem Ql0 {s:Nat} (hs:s≤cuts.length):Yl (dimI m cuts s) (Yz m cuts s) (dimI m cuts (s+1)):=by
 obtain ⟨_,h2⟩:=Qib hc (s:=s) (by omega)
 rw [QkS hc hs] at h2
 obtain ⟨k2,h4,h5⟩:=Yl.append.1 h2
 have:k2=dimI m cuts (s+1):=by
  obtain ⟨h6,h7⟩:=Qib hc (s:=s+1) (by omega)
  by_cases h8:s+1≤cuts.length
  ·have hp:=QjP hc h8
   rw [QkS hc h8] at h5
   obtain ⟨k3,h9,_⟩:=Yl.append.1 h5
   unfold dimI
   rw [if_pos h8]
   exact (Qho h9 hp.1 hp.2).2.1.symm
  ·rw [show s+1=cuts.length+1 by omega,QkL hc,List.drop_length] at h5
   unfold dimI
   rw [if_neg h8]
   exact h5
 rw [← this]
 exact h4
theorem QW0 {s:Nat} (hs:s≤cuts.length):QT (Yz m cuts s)=true∧Za (Yz m cuts s)=dimI m cuts s∧Q8 (Yz m cuts s)=dimI m cuts (s+1):=by
 have hp:=QjP hc hs
 exact Qho (Ql0 hc hs) hp.1 hp.2
theorem QBr:dimI m cuts (cuts.length+1)=Q8 m:=by have _:=hc;unfold dimI;rw [if_neg (by omega)]
variable {p:Qp} (hp:Jp m p=true)
include hp
theorem QmA:Qt p.1 (Za m)=true∧Qt p.2 (Q8 m)=true:=by
 have _:=hc
 simp only [Jp,Bool.and_eq_true] at hp;exact ⟨hp.1.2,hp.2⟩
theorem Qf8 {s:Nat} (hs:s≤cuts.length+1):Qt (inp m cuts p.1 s) (dimI m cuts s)=true:=QBL (Qib hc hs).1 (QmA hc hp).1
theorem QTo:Qt (Yg m p.1) (Q8 m)=true:=by
 have:=Qf8 hc hp (s:=cuts.length+1) (by omega)
 rwa [Qkf hc,QBr hc] at this
theorem Q0W:Qt (Zi (Yg m p.1) p.2).1 (Q8 m)=true:=by
 have h1:=QTo hc hp
 have h2:=(QmA hc hp).2
 have:=QLF (Ql3 h1 h2)
 rwa [(Y0.1 h1).2] at this
theorem Qyl {s:Nat} (hs:s≤cuts.length+1):Qt (dOut m cuts p s) (dimI m cuts s)=true:=(Qoa (Qib hc hs).2 (Qf8 hc hp hs) (Q0W hc hp)).1
theorem QTl {s:Nat} (hs:s≤cuts.length):Z7 (Yz m cuts s) (QbT m cuts p s).1=true∧(QbT m cuts p s).1.length=(Yz m cuts s).length :=
 ⟨(Qoa (Ql0 hc hs) (Qf8 hc hp (by omega)) (Qyl hc hp (by omega))).2,Qlb _ _ _ (by unfold Qcs;rw [Qdp];omega)⟩
theorem QwE {s:Nat} (hs:s≤cuts.length):Yu (Yz m cuts s) 0 (Qcs m cuts p.1 s)=true :=
 QXK (Ql0 hc hs) (by have:=QjP hc hs;intro e;rw [e] at this;simp at this) (Qf8 hc hp (by omega))
theorem Qok {s:Nat}:(Qcs m cuts p.1 s).length=(Yz m cuts s).length+1:=by have _:=hc;have _:=hp;exact Qdp _ _
theorem QLe {s:Nat}:gtd [] (Qcs m cuts p.1 s) 0=inp m cuts p.1 s:=by have _:=hc;have _:=hp;exact QUc _ _
theorem QFI {s:Nat} (hs:s≤cuts.length):gtd [] (Qcs m cuts p.1 s) (Yz m cuts s).length=inp m cuts p.1 (s+1):=by have _:=hp;rw [Qzu hc hs];rfl
end
end Go.Proofs.YtjbdljkhbglnhaaGreat.Am
namespace Go.Proofs.YtjbdljkhbglnhaaGreat.Am
open Go Sz
section
variable (c:QC) (b:List Qp)
def YZ (s:Nat):Bool:=gtd false (QaM c) s
def Y6 (s:Nat):List TIns:=ZL (cDs c) (nSt c:Nat) s b.length (YZ c s)
abbrev opS (s:Nat):List TOp':=Yz (Yk c) (ZF c) s
abbrev inS (s j:Nat):List Int:=inp (Yk c) (ZF c) (prAt b j).1 s
abbrev rowS (s j:Nat):List (List Int):=Qcs (Yk c) (ZF c) (prAt b j).1 s
abbrev doS (s j:Nat):List Int:=dOut (Yk c) (ZF c) (prAt b j) s
abbrev bkS (s j:Nat):=QbT (Yk c) (ZF c) (prAt b j) s
abbrev outA (j:Nat):List Int:=Yg (Yk c) (prAt b j).1
def Zs (s:Nat):Bool:=decide (s+1=nSt c)
def Qa4 (s:Nat) (r:List (List Int)):List (List Int):=if YZ c s then r.take 1 else r
def QaC (s:Nat):Nat→List (List Int)
 | 0=>(ZO (opS c s)).1
 | g+1=>(ZG (QaC s g) (bkS c b s g).1).1
def Jj:Nat→Int
 | 0=>0
 | f+1=>(Q9 (Jj f) (Yb (outA c b f) (prAt b f).2).1).1
def lsat (f:Nat):Bool:=(Yb (outA c b f) (prAt b f).2).2||(Q9 (Jj c b f) (Yb (outA c b f) (prAt b f).2).1).2
def Qfi (s j:Nat):Bool:=fsat (Yk c) (ZF c) (prAt b j).1 s||(Zs c s&&lsat c b j)
def Qg3 (s j:Nat):Bool:=(bkS c b s j).2.2||(ZG (QaC c b s j) (bkS c b s j).1).2||(Zs c s&&(Zi (outA c b j) (prAt b j).2).2)
def satV (s f g:Nat):Bool:=(List.range f).any (Qfi c b s)||(List.range g).any (Qg3 c b s)
def YL (s f g:Nat):List ZI:=(List.range' g (f-g)).map fun j:Nat=>((j:Int),Qa4 c s (rowS c b s j))
def Qac (s g:Nat) (k1:Int):List (List Int):=if k1=5 then rowS c b s g else []
def vX (s f:Nat) (k1:Int):List Int:=if k1=1 then inS c b s f else []
def vY (s f:Nat) (k1:Int):List Int:=if k1=2∧s+1<nSt c then inS c b (s+1) (f-1) else []
def vG (s g:Nat) (k1:Int):List Int:=if k1=4∨(k1=5∧s+1<nSt c) then doS c b (s+1) g else []
def vD (s g:Nat) (k1:Int):List Int:=if k1=6∧0<s then doS c b s (g-1) else []
def st (s:Nat) (k f g:Nat) (k1:Int):Qc :=
 ((k:Int),Y6 c b s,opS c s,Zs c s,YZ c s,YL c b s f g,Qac c b s g k1,vX c b s f k1,vY c b s f k1,vG c b s g k1,vD c b s g k1,QaC c b s g,(if Zs c s then Jj c b f else 0),satV c b s f g)
end
structure Nums (M f g:Nat) (kk:Int):Prop where
 gf:g≤f
 fM:f≤M
 k1:kk=1→f<M
 k2:kk=2→1≤f
 k45:kk=4∨kk=5→g<f
 k6:kk=6→1≤g
theorem Qta:∀ {l:List ZI} {m k:Int},(∀ x,x∈l→x.1≠m)→JC l m k = -1
 | [],m,k,h=>rfl
 | x::r,m,k,h=>by rw [JC,if_neg (h x List.mem_cons_self)];exact Qta (fun y hy=>h y (List.mem_cons_of_mem _ hy))
theorem QQw {c:QC} {b:List Qp} {s f g:Nat}:QO (YL c b s f g) (f:Int) = -1:=by
 refine Qta (fun x hx=>?_)
 unfold YL at hx
 obtain ⟨j,hj,rfl⟩:=List.mem_map.1 hx
 rw [List.mem_range'_1] at hj
 simp only [ne_eq];omega
theorem Qk3 {c:QC} {b:List Qp} {s f g:Nat} (h:g<f):YL c b s f g=((g:Int),Qa4 c s (rowS c b s g))::YL c b s f (g+1):=by
 unfold YL
 rw [show f-g=(f-(g+1))+1 by omega,List.range'_succ,List.map_cons]
theorem QXJ {c:QC} {b:List Qp} {s f g:Nat} (h:g≤f):YL c b s (f+1) g=YL c b s f g++[((f:Int),Qa4 c s (rowS c b s f))]:=by
 unfold YL
 rw [show f+1-g=(f-g)+1 by omega,List.range'_concat,List.map_append]
 simp only [List.map_cons,List.map_nil,Nat.one_mul]
 rw [show g+(f-g)=f by omega]
theorem QEo {c:QC} {b:List Qp} {s f g:Nat} (h:g<f):QO (YL c b s f g) (g:Int)=0:=by
 rw [Qk3 h];unfold QO;rw [JC,if_pos rfl]
theorem QaW {c:QC} {b:List Qp} {s g:Nat} {k1:Int} (h:k1≠5):Qac c b s g k1=[]:=by unfold Qac;rw [if_neg h]
theorem Qbd {c:QC} {b:List Qp} {s f:Nat} {k1:Int} (h:k1≠1):vX c b s f k1=[]:=by unfold vX;rw [if_neg h]
theorem Qaz {c:QC} {b:List Qp} {s f:Nat} {k1:Int} (h:¬ (k1=2∧s+1<nSt c)):vY c b s f k1=[]:=by unfold vY;rw [if_neg h]
theorem Qcl {c:QC} {b:List Qp} {s g:Nat} {k1:Int} (h4:k1≠4) (h5:k1≠5):vG c b s g k1=[]:=by
 unfold vG;rw [if_neg];rintro (e | e)
 ·exact h4 e
 ·exact h5 e.1
theorem QaE {c:QC} {b:List Qp} {s g:Nat} {k1:Int} (h:¬ (k1=6∧0<s)):vD c b s g k1=[]:=by unfold vD;rw [if_neg h]
theorem JO {p:Prop} {x y:Int} (h:x≠y):¬ (x=y∧p):=fun e=>h e.1
theorem QMe {c:QC} {b:List Qp} {s f:Nat}:vX c b s f 1=inS c b s f:=by unfold vX;rw [if_pos rfl]
theorem Q2L {c:QC} {b:List Qp} {s g:Nat}:vG c b s g 4=doS c b (s+1) g:=by unfold vG;rw [if_pos (.inl rfl)]
section
variable {c:QC} {b:List Qp} (A:Adm c b)
include A
theorem QcH:1≤b.length∧b.length≤5:=by
 have:=A.batch;simp only [Yj,Bool.and_eq_true,QV] at this;omega
theorem Qbk {j:Nat} (hj:j<b.length):Jp (Yk c) (prAt b j)=true:=by
 have:=A.batch;simp only [Yj,Bool.and_eq_true] at this
 exact List.all_eq_true.1 this.2 _ (Jh hj QY)
theorem QWF (f:Nat):Zc (Jj c b f)=true:=by
 have _:=A
 cases f with
 | zero=>rfl
 | succ f=>exact Qn3 _ _
theorem QJK (s f:Nat):Zc (if Zs c s then Jj c b f else 0)=true:=by
 split
 ·exact QWF A f
 ·rfl
theorem Qfu {s:Nat} (hs:s<nSt c):QT (opS c s)=true∧Za (opS c s)=dimI (Yk c) (ZF c) s∧Q8 (opS c s)=dimI (Yk c) (ZF c) (s+1):=QW0 A.cuts (by simp only [nSt] at hs;omega)
theorem Q2g {s:Nat} (hs:s<nSt c):(ZO (opS c s)).1.length=(opS c s).length∧Z7 (opS c s) (ZO (opS c s)).1=true:=by
 unfold ZO
 rw [if_pos (Qfu A hs).1]
 simp only [List.length_map,true_and]
 generalize opS c s=l
 induction l with
 | nil=>rfl
 | cons o l ih=>simp [Z7,ih]
theorem QJX {s j:Nat} (hs:s<nSt c) (hj:j<b.length):(bkS c b s j).1.length=(opS c s).length∧Z7 (opS c s) (bkS c b s j).1=true:=by
 have:=QTl A.cuts (Qbk A hj) (s:=s) (by simp only [nSt] at hs;omega)
 exact ⟨this.2,this.1⟩
theorem QFv {s:Nat} (hs:s<nSt c):∀ {g:Nat},g≤b.length→(QaC c b s g).length=(opS c s).length∧Z7 (opS c s) (QaC c b s g)=true
 | 0,_=>Q2g A hs
 | g+1,hg=>by
  obtain ⟨h1,h2⟩:=QFv hs (g:=g) (by omega)
  obtain ⟨h3,h4⟩:=QJX A hs (j:=g) (by omega)
  refine ⟨?_,QvY h1 h3 h2 h4⟩
  show (ZG _ _).1.length=_
  rw [QF0];omega
theorem Qfs {s j:Nat} (hs:s≤nSt c) (hj:j<b.length):Qt (inS c b s j) (dimI (Yk c) (ZF c) s)=true:=Qf8 A.cuts (Qbk A hj) hs
theorem QfL {s j:Nat} (hs:s≤nSt c) (hj:j<b.length):Qt (doS c b s j) (dimI (Yk c) (ZF c) s)=true:=Qyl A.cuts (Qbk A hj) hs
theorem Qha {s k f g:Nat} {k1:Int} (hs:s<nSt c) (hk:k≤(Y6 c b s).length) (H:Nums b.length f g k1):QU (st c b s k f g k1)=true:=by
 obtain ⟨hm,hi,ho⟩:=Qfu A hs
 have hs':s≤(ZF c).length:=by simp only [nSt] at hs;omega
 have hsr:=QFv A hs (g:=g) (by have:=H.gf;have:=H.fM;omega)
 have hX:Yy (vX c b s f k1) (Za (opS c s))=true:=by
  unfold vX Yy;split
  ·rename_i h;rw [hi,Qfs A (by omega) (H.k1 h)];simp
  ·simp
 have hY:Yy (vY c b s f k1) (Q8 (opS c s))=true:=by
  unfold vY Yy;split
  ·rename_i h;rw [ho,Qfs A (by omega) (by have:=H.k2 h.1;have:=H.fM;omega)];simp
  ·simp
 have hG:Yy (vG c b s g k1) (Q8 (opS c s))=true:=by
  unfold vG Yy;split
  ·rename_i h
   have:g<f:=H.k45 (h.imp id (fun h=>h.1))
   rw [ho,QfL A (by omega) (by have:=H.fM;omega)];simp
  ·simp
 have hD:Yy (vD c b s g k1) (Za (opS c s))=true:=by
  unfold vD Yy;split
  ·rename_i h;rw [hi,QfL A (by omega) (by have:=H.k6 h.1;have:=H.gf;have:=H.fM;omega)];simp
  ·simp
 have hst:(YL c b s f g).all (YV (st c b s k f g k1))=true:=by
  rw [List.all_eq_true]
  intro x hx
  unfold YL at hx
  obtain ⟨j,hj,rfl⟩:=List.mem_map.1 hx
  rw [List.mem_range'_1] at hj
  have hjb:j<b.length:=by have:=H.fM;omega
  have hg:=QwE A.cuts (Qbk A hjb) hs'
  have hl:(rowS c b s j).length=(opS c s).length+1:=Qok A.cuts (Qbk A hjb)
  have ek:Yc (st c b s k f g k1)=if YZ c s=true then 1 else ((opS c s).length:Int)+1:=rfl
  have eo:(st c b s k f g k1).2.2.1=opS c s:=rfl
  unfold YV Yw
  rw [ek,eo]
  simp only [Bool.and_eq_true,beq_iff_eq]
  unfold Qa4
  by_cases hr:YZ c s=true
  ·simp only [if_pos hr]
   refine ⟨by rw [List.length_take,hl,Nat.min_eq_left (by omega)];rfl,?_⟩
   exact Qgm _ _ _ _ (Qgm _ _ _ _ hg)
  ·simp only [if_neg hr]
   exact ⟨congrArg Int.ofNat hl,Qgm _ _ _ _ hg⟩
 simp only [QU,Bool.and_eq_true]
 refine ⟨⟨⟨⟨hm,?_⟩,?_⟩,hst⟩,⟨⟨hX,hD⟩,hY⟩,hG⟩
 ·simp only [st,QV];omega
 ·simp only [st,Jk,Bool.and_eq_true,beq_iff_eq];exact hsr
theorem Q25 {s k f g:Nat} {k1:Int} (h2:¬ (k1=2∧s+1<nSt c)) (h4:k1≠4) (h5:k1≠5) (h6:¬ (k1=6∧0<s)) :
  YK (setX (st c b s k f g k1) (inS c b s f)) ((k:Int)+1)=st c b s (k+1) f g 1:=by
 have _:=A
 simp only [YK,setX,setY,setG,setD,st,sPc,QD,sOps,Qu,Qz,Ql,QH,sX,sY,sG,sD,QG,QF,sSat]
 rw [QaW h5,Qaz h2,Qcl h4 h5,QaE h6,QaW (k1:=1) (by decide),QMe,Qaz (k1:=1) (JO (by decide)),Qcl (k1:=1) (by decide) (by decide),QaE (k1:=1) (JO (by decide))]
 rfl
theorem QMr {s k f g:Nat} {k1:Int} (h1:k1=2):YK (setY (st c b s k f g k1) []) ((k:Int)+1)=st c b s (k+1) f g 3:=by
 have _:=A
 subst h1
 simp only [YK,setX,setY,setG,setD,st,sPc,QD,sOps,Qu,Qz,Ql,QH,sX,sY,sG,sD,QG,QF,sSat]
 rw [QaW (k1:=2) (by decide),Qbd (k1:=2) (by decide),Qcl (k1:=2) (by decide) (by decide),QaE (k1:=2) (JO (by decide)),QaW (k1:=3) (by decide),Qbd (k1:=3) (by decide),Qaz (k1:=3) (JO (by decide)),Qcl (k1:=3) (by decide) (by decide),QaE (k1:=3) (JO (by decide))]
 rfl
theorem QQL {s k f g:Nat} {k1:Int} (h1:k1≠1) (h2:¬ (k1=2∧s+1<nSt c)) (h5:k1≠5) (h6:¬ (k1=6∧0<s)) :
  YK (setG (st c b s k f g k1) (doS c b (s+1) g)) ((k:Int)+1)=st c b s (k+1) f g 4:=by
 have _:=A
 simp only [YK,setX,setY,setG,setD,st,sPc,QD,sOps,Qu,Qz,Ql,QH,sX,sY,sG,sD,QG,QF,sSat]
 rw [QaW h5,Qbd h1,Qaz h2,QaE h6,QaW (k1:=4) (by decide),Qbd (k1:=4) (by decide),Qaz (k1:=4) (JO (by decide)),Q2L,QaE (k1:=4) (JO (by decide))]
 rfl
theorem QO0 {s k f g:Nat} {k1:Int} (h1:k1=6):YK (setD (st c b s k f g k1) []) ((k:Int)+1)=st c b s (k+1) f g 7:=by
 have _:=A
 subst h1
 simp only [YK,setX,setY,setG,setD,st,sPc,QD,sOps,Qu,Qz,Ql,QH,sX,sY,sG,sD,QG,QF,sSat]
 rw [QaW (k1:=6) (by decide),Qbd (k1:=6) (by decide),Qaz (k1:=6) (JO (by decide)),Qcl (k1:=6) (by decide) (by decide),QaW (k1:=7) (by decide),Qbd (k1:=7) (by decide),Qaz (k1:=7) (JO (by decide)),Qcl (k1:=7) (by decide) (by decide),QaE (k1:=7) (JO (by decide))]
 rfl
theorem QZ3 {s k f g:Nat} {k1:Int} (h1:k1≠1) (h2:¬ (k1=2∧s+1<nSt c)) (h4:k1≠4) (h5:k1≠5) (h6:¬ (k1=6∧0<s)):YK (st c b s k f g k1) ((k:Int)+1)=st c b s (k+1) f g 8:=by
 have _:=A
 simp only [YK,setX,setY,setG,setD,st,sPc,QD,sOps,Qu,Qz,Ql,QH,sX,sY,sG,sD,QG,QF,sSat]
 rw [QaW h5,Qbd h1,Qaz h2,Qcl h4 h5,QaE h6,QaW (k1:=8) (by decide),Qbd (k1:=8) (by decide),Qaz (k1:=8) (JO (by decide)),Qcl (k1:=8) (by decide) (by decide),QaE (k1:=8) (JO (by decide))]
 rfl
theorem QMF {s k f g:Nat} {k1:Int} (hs:s<nSt c) (hk:k≤(Y6 c b s).length) (H:Nums b.length f g k1) (hr:YZ c s=true) (hgf:g<f) (h1:k1≠1) (h2:¬ (k1=2∧s+1<nSt c)) (h4:k1=4↔s+1<nSt c) (h5:k1≠5) (h6:¬ (k1=6∧0<s)) :
  YK (Y5 (st c b s k f g k1) (g:Int)) ((k:Int)+1)=st c b s (k+1) f g 5:=by
 have hok:=Qha A hs hk H
 have hjb:g<b.length:=by have:=H.fM;omega
 have hf:QO (Ql (st c b s k f g k1)) (g:Int)=0:=QEo hgf
 have hrow:gtd [] (gtd Zu (Ql (st c b s k f g k1)) 0).2 0=inS c b s g:=by
  show gtd [] (gtd Zu (YL c b s f g) 0).2 0=_
  rw [Qk3 hgf,QbZ]
  have hh:gtd [] (rowS c b s g) 0=inS c b s g:=QLe A.cuts (Qbk A hjb) (s:=s)
  have hl:(rowS c b s g).length=(opS c s).length+1:=Qok A.cuts (Qbk A hjb) (s:=s)
  show gtd [] (Qa4 c s (rowS c b s g)) 0=_
  unfold Qa4
  rw [hr,if_pos rfl,← hh]
  cases hq:rowS c b s g with
  | nil=>rw [hq] at hl;simp at hl
  | cons x r=>simp [gtd]
 unfold Y5
 simp only [hf]
 rw [if_pos (by rw [hok];rfl),show Int.toNat 0=0 from rfl,hrow]
 have hg:vG c b s g k1=vG c b s g 5:=by
  unfold vG
  by_cases h:s+1<nSt c
  ·rw [if_pos (.inl (h4.2 h)),if_pos (.inr ⟨rfl,h⟩)]
  ·rw [if_neg (by rintro (e | e);exact h (h4.1 e);exact h e.2),if_neg (by rintro (e | e);cases e;exact h e.2)]
 have hfu:Qac c b s g 5=rowS c b s g:=by unfold Qac;rw [if_pos rfl]
 simp only [YK,setX,setY,setG,setD,st,sPc,QD,sOps,Qu,Qz,Ql,QH,sX,sY,sG,sD,QG,QF,sSat]
 rw [hg,Qbd h1,Qaz h2,QaE h6,hfu,Qbd (k1:=5) (by decide),Qaz (k1:=5) (JO (by decide)),QaE (k1:=5) (JO (by decide))]
 rfl
theorem QXS {s k f g:Nat} {k1:Int} (hs:s<nSt c) (hk:k≤(Y6 c b s).length) (H:Nums b.length f g k1) (hf:f<b.length) (h0:0<s→k1=1) (h2:¬ (k1=2∧s+1<nSt c)) (h4:k1≠4) (h5:k1≠5) (h6:¬ (k1=6∧0<s)) :
  YK (Yn (st c b s k f g k1) (f:Int) (if s=0 then (prAt b f).1 else sX (st c b s k f g k1)) (prAt b f).2) ((k:Int)+1)=st c b s (k+1) (f+1) g 2:=by
 have hok:=Qha A hs hk H
 obtain ⟨hm,hi,ho⟩:=Qfu A hs
 have hs':s≤(ZF c).length:=by simp only [nSt] at hs;omega
 have hp:=Qbk A hf
 have hx:(if s=0 then (prAt b f).1 else sX (st c b s k f g k1))=inS c b s f:=by
  by_cases h:s=0
  ·subst h;rw [if_pos rfl];exact (QXp A.cuts _).symm
  ·rw [if_neg h]
   show vX c b s f k1=_
   unfold vX;rw [if_pos (h0 (by omega))]
 rw [hx]
 have hlast:Zs c s=true→s=(ZF c).length:=by intro h;unfold Zs nSt at h;have h:=of_decide_eq_true h;omega
 have hfind:QO (Ql (st c b s k f g k1)) (f:Int) = -1:=QQw
 have hfw:JG (st c b s k f g k1) (f:Int) (inS c b s f) (prAt b f).2=true:=by
  unfold JG
  rw [hok,hfind]
  have h1:Qt (inS c b s f) (Za (sOps (st c b s k f g k1)))=true:=by
   show Qt _ (Za (opS c s))=true
   rw [hi];exact Qfs A (by omega) hf
  have h3:(!Qu (st c b s k f g k1)||Qt (prAt b f).2 (Q8 (sOps (st c b s k f g k1))))=true:=by
   show (!Zs c s||Qt (prAt b f).2 (Q8 (opS c s)))=true
   cases hl:Zs c s with
   | false=>rfl
   | true =>
    have e:=hlast hl
    rw [ho,e,QBr A.cuts]
    simpa using (QmA A.cuts hp).2
  rw [h1,h3];rfl
 have hy:gtd [] (QI (opS c s) (inS c b s f)).1 (opS c s).length=inS c b (s+1) f:=QFI A.cuts hp hs'
 have key:YK (Yn (st c b s k f g k1) (f:Int) (inS c b s f) (prAt b f).2) ((k:Int)+1) =
   ((k:Int)+1,Y6 c b s,opS c s,Zs c s,YZ c s,YL c b s f g++[((f:Int),Qa4 c s (rowS c b s f))],Qac c b s g k1,[],(if Zs c s=true then vY c b s f k1 else gtd [] (QI (opS c s) (inS c b s f)).1 (opS c s).length),vG c b s g k1,vD c b s g k1,QaC c b s g,
    (if Zs c s=true then (Q9 (if Zs c s=true then Jj c b f else 0) (Yb (gtd [] (QI (opS c s) (inS c b s f)).1 (opS c s).length) (prAt b f).2).1).1 else if Zs c s=true then Jj c b f else 0),
    (satV c b s f g||(QI (opS c s) (inS c b s f)).2||(Zs c s&&((Yb (gtd [] (QI (opS c s) (inS c b s f)).1 (opS c s).length) (prAt b f).2).2||(Q9 (if Zs c s=true then Jj c b f else 0) (Yb (gtd [] (QI (opS c s) (inS c b s f)).1 (opS c s).length) (prAt b f).2).1).2)))):=by
  unfold Yn
  rw [if_pos hfw]
  rfl
 rw [key,hy]
 have e1:YL c b s f g++[((f:Int),Qa4 c s (rowS c b s f))]=YL c b s (f+1) g:=(QXJ H.gf).symm
 have e2:(if Zs c s=true then vY c b s f k1 else inS c b (s+1) f)=vY c b s (f+1) 2:=by
  unfold vY
  cases hl:Zs c s with
  | false =>
   simp only [Zs,decide_eq_false_iff_not] at hl
   rw [if_neg (by simp),if_pos ⟨rfl,by omega⟩,Nat.add_sub_cancel]
  | true =>
   simp only [Zs,decide_eq_true_eq] at hl
   rw [if_pos rfl,if_neg h2,if_neg (by omega)]
 have e3:(if Zs c s=true then (Q9 (if Zs c s=true then Jj c b f else 0) (Yb (inS c b (s+1) f) (prAt b f).2).1).1 else if Zs c s=true then Jj c b f else 0)=(if Zs c s=true then Jj c b (f+1) else 0):=by
  cases hl:Zs c s with
  | false=>simp
  | true =>
   simp only [if_true]
   rw [hlast hl]
   show (Q9 _ (Yb (inp _ _ _ _) _).1).1=_
   rw [Qkf A.cuts]
   rfl
 have e4:(satV c b s f g||(QI (opS c s) (inS c b s f)).2||(Zs c s&&((Yb (inS c b (s+1) f) (prAt b f).2).2||(Q9 (if Zs c s=true then Jj c b f else 0) (Yb (inS c b (s+1) f) (prAt b f).2).1).2)))=satV c b s (f+1) g:=by
  unfold satV
  rw [List.range_succ,List.any_append]
  have:Qfi c b s f=((QI (opS c s) (inS c b s f)).2||(Zs c s&&((Yb (inS c b (s+1) f) (prAt b f).2).2||(Q9 (if Zs c s=true then Jj c b f else 0) (Yb (inS c b (s+1) f) (prAt b f).2).1).2))):=by
   unfold Qfi
   cases hl:Zs c s with
   | false=>rfl
   | true =>
    simp only [if_true,Bool.true_and]
    rw [hlast hl]
    have:inS c b ((ZF c).length+1) f=outA c b f:=Qkf A.cuts _
    rw [this]
    rfl
  simp only [List.any_cons,List.any_nil,Bool.or_false]
  rw [this]
  cases (List.range f).any (Qfi c b s) <;> cases (List.range g).any (Qg3 c b s) <;> simp
 have e5:vX c b s (f+1) 2=[]:=rfl
 have e6:vG c b s g k1=vG c b s g 2:=by unfold vG;rw [if_neg (by rintro (e | e);exact h4 e;exact h5 e.1),if_neg (by rintro (e | e);cases e;exact absurd e.1 (by decide))]
 have e7:vD c b s g k1=vD c b s g 2:=by unfold vD;rw [if_neg h6,if_neg (by rintro ⟨e,_⟩;exact absurd e (by decide))]
 have e8:Qac c b s g k1=Qac c b s g 2:=by unfold Qac;rw [if_neg h5,if_neg (by decide)]
 rw [e1,e2,e3,e4,← e5,e6,e7,e8]
 rfl
theorem QJD {s k f g:Nat} {k1:Int} (hs:s<nSt c) (hk:k≤(Y6 c b s).length) (H:Nums b.length f g k1) (hgf:g<f) (hr1:YZ c s=true→k1=5) (hr2:YZ c s=false→s+1<nSt c→k1=4) (h1:k1≠1) (h2:¬ (k1=2∧s+1<nSt c)) (h5:k1=5→YZ c s=true) (h4:k1=4→s+1<nSt c) :
  YK (if s=0 then setD (Zz (st c b s k f g k1) (g:Int) (prAt b g).2) [] else Zz (st c b s k f g k1) (g:Int) (prAt b g).2) ((k:Int)+1)=st c b s (k+1) f (g+1) 6:=by
 have hok:=Qha A hs hk H
 obtain ⟨hm,hi,ho⟩:=Qfu A hs
 have hs':s≤(ZF c).length:=by simp only [nSt] at hs;omega
 have hg:g<b.length:=by have:=H.fM;omega
 have hp:=Qbk A hg
 have hlast:Zs c s=true→s=(ZF c).length:=by intro h;unfold Zs nSt at h;have h:=of_decide_eq_true h;omega
 have hfind:QO (Ql (st c b s k f g k1)) (g:Int)=0:=QEo hgf
 have hrl:(rowS c b s g).length=(opS c s).length+1:=Qok A.cuts hp
 have hrows:Z6 (st c b s k f g k1) 0=rowS c b s g:=by
  unfold Z6
  show (if YZ c s=true then Qac c b s g k1 else (gtd Zu (YL c b s f g) (Int.toNat 0)).2)=_
  rw [Qk3 hgf,show Int.toNat 0=0 from rfl,QbZ]
  cases hr:YZ c s with
  | true=>rw [if_pos rfl];unfold Qac;rw [if_pos (hr1 hr)]
  | false=>rw [if_neg (by simp)];show Qa4 c s _=_;unfold Qa4;rw [hr,if_neg (by simp)]
 have hd:bwdD (st c b s k f g k1) 0 (prAt b g).2=(doS c b (s+1) g,Zs c s&&(Zi (outA c b g) (prAt b g).2).2):=by
  unfold bwdD
  rw [hrows]
  show (if Zs c s=true then Zi (gtd [] (rowS c b s g) (opS c s).length) (prAt b g).2 else (vG c b s g k1,false))=_
  cases hl:Zs c s with
  | true =>
   rw [if_pos rfl,QFI A.cuts hp hs',hlast hl,Qkf A.cuts]
   show _=(dOut _ _ _ _,_)
   rw [QQY A.cuts,Bool.true_and]
  | false =>
   simp only [Zs,decide_eq_false_iff_not] at hl
   rw [if_neg (by simp),Bool.false_and]
   unfold vG
   rw [if_pos]
   cases hr:YZ c s with
   | true=>exact .inr ⟨hr1 hr,by omega⟩
   | false=>exact .inl (hr2 hr (by omega))
 have hbk:J0 (st c b s k f g k1) 0 (prAt b g).2=true:=by
  unfold J0
  rw [hok,hrows,hd]
  simp only [Bool.and_eq_true,beq_iff_eq,decide_eq_true_eq]
  refine ⟨⟨⟨⟨trivial,by omega⟩,hrl⟩,?_⟩,?_⟩
  ·unfold Yw
   exact Qgm _ _ _ _ (QwE A.cuts hp hs')
  ·show Qt (doS c b (s+1) g) (Q8 (opS c s))=true
   rw [ho];exact QfL A (by omega) hg
 have hback:QS (opS c s) (rowS c b s g) (doS c b (s+1) g)=bkS c b s g:=rfl
 have hbd:(bkS c b s g).2.1=doS c b s g:=(QOf A.cuts hs' _).symm
 have hadd:Ya (sSum (st c b s k f g k1)) ((bkS c b s g).1,0,(Zs c s&&(Zi (outA c b g) (prAt b g).2).2)||(bkS c b s g).2.2)=(QaC c b s (g+1),(if Zs c s then Jj c b f else 0),satV c b s f (g+1)):=by
  unfold Ya
  simp only
  have hl:Q9 (sSum (st c b s k f g k1)).2.1 0=((if Zs c s then Jj c b f else 0),false):=QJ1 (QJK A s f)
  rw [hl]
  refine Prod.ext rfl (Prod.ext rfl ?_)
  show (satV c b s f g||((Zs c s&&(Zi (outA c b g) (prAt b g).2).2)||(bkS c b s g).2.2)||(ZG (QaC c b s g) (bkS c b s g).1).2||false)=satV c b s f (g+1)
  unfold satV
  rw [List.range_succ,List.any_append]
  simp only [List.any_cons,List.any_nil,Bool.or_false]
  unfold Qg3
  cases (List.range f).any (Qfi c b s) <;> cases (List.range g).any (Qg3 c b s) <;> cases (bkS c b s g).2.2 <;> cases (ZG (QaC c b s g) (bkS c b s g).1).2 <;> simp
 have key:Zz (st c b s k f g k1) (g:Int) (prAt b g).2=((k:Int),Y6 c b s,opS c s,Zs c s,YZ c s,YL c b s f (g+1),[],vX c b s f k1,vY c b s f k1,[],doS c b s g,QaC c b s (g+1),(if Zs c s then Jj c b f else 0),satV c b s f (g+1)):=by
  unfold Zz
  simp only [hfind]
  rw [if_pos hbk,hrows,hd]
  simp only
  have e:sOps (st c b s k f g k1)=opS c s:=rfl
  rw [e,hback,hadd,hbd]
  have e2:(Ql (st c b s k f g k1)).take (Int.toNat 0)++(Ql (st c b s k f g k1)).drop (Int.toNat 0+1)=YL c b s f (g+1):=by
   show (YL c b s f g).take 0++(YL c b s f g).drop 1=_
   rw [Qk3 hgf];rfl
  rw [e2]
  rfl
 rw [key]
 have f1:vX c b s f k1=vX c b s f 6:=by unfold vX;rw [if_neg h1,if_neg (by decide)]
 have f2:vY c b s f k1=vY c b s f 6:=by unfold vY;rw [if_neg h2,if_neg (by rintro ⟨e,_⟩;exact absurd e (by decide))]
 have f3:vG c b s (g+1) 6=[]:=by unfold vG;rw [if_neg];rintro (e | e);exact absurd e (by decide);exact absurd e.1 (by decide)
 rw [f1,f2]
 by_cases h:s=0
 ·rw [if_pos h]
  simp only [YK,setX,setY,setG,setD,st,sPc,QD,sOps,Qu,Qz,Ql,QH,sX,sY,sG,sD,QG,QF,sSat]
  have f4:vD c b s (g+1) 6=[]:=by unfold vD;rw [if_neg (by omega)]
  rw [f3,f4]
  rfl
 ·rw [if_neg h]
  simp only [YK,setX,setY,setG,setD,st,sPc,QD,sOps,Qu,Qz,Ql,QH,sX,sY,sG,sD,QG,QF,sSat]
  have f4:vD c b s (g+1) 6=doS c b s g:=by unfold vD;rw [if_pos ⟨rfl,by omega⟩,Nat.add_sub_cancel]
  rw [f3,f4]
  rfl
end
end Go.Proofs.YtjbdljkhbglnhaaGreat.Am
namespace Go.Proofs.YtjbdljkhbglnhaaGreat.Am
open Go Sz
structure Loc (ds n M s:Int) (rd:Bool) (f g:Nat) (k1:Int) (i:TIns) (last:Bool):Prop where
 c0:g≤f∧(f:Int)≤M∧1≤i.1∧i.1≤8∧0≤i.2∧i.2<M∧(i.1=8↔last=true)∧i≠(0,0)
 c1:i.1=1→0<s∧i.2=f∧k1≠1
 c2:i.1=2→i.2=f∧(0<s→k1=1)
 c3:i.1=3→s<n-1∧i.2=(f:Int)-1∧k1=2
 c4:i.1=4→s<n-1∧i.2=g
 c5:i.1=5→rd=true∧i.2=g∧g<f∧(s<n-1→k1=4)
 c6:i.1=6→i.2=g∧g<f∧(rd=true→k1=5)∧(rd=false→s<n-1→k1=4)
 c7:i.1=7→0<s∧i.2=(g:Int)-1∧k1=6
 c8:i.1=8→(f:Int)=M∧(g:Int)=M∧k1≠0
 c9:k1=1→i.1=2
 c10:k1=2→s<n-1→i.1=3
 c11:k1=4→i.1=5∨i.1=6
 c12:k1=5→i.1=6
 c13:k1=6→0<s→i.1=7
 c14:k1=5→rd=true
 c15:k1=6→1≤g
 c16:k1=2→1≤f
 c17:k1≠8
 c18:k1=4→s<n-1
 c19:k1=1→0<s
 c20:k1=4∨k1=5→g<f
 c21:k1=1→(f:Int)<M
 c22:s<n-1→(scOf f k1:Int)<M→tm ds n M s i≤tm ds n M s (3,(scOf f k1:Int))
 c23:0<s→(rcOf f k1:Int)<M→tm ds n M s i≤tm ds n M s (1,(rcOf f k1:Int))
 c24:s<n-1→(rgOf n s g k1:Int)<M→tm ds n M s i≤tm ds n M s (4,(rgOf n s g k1:Int))
 c25:0<s→(sgQ g k1:Int)<M→tm ds n M s i≤tm ds n M s (7,(sgQ g k1:Int))
 c26:ds=2→(f:Int)-g≤n-s
 c27:ds=2→i.1=2→(f:Int)-g<n-s
theorem QZM {ds n M s:Int} {rd:Bool} {f g:Nat} {k1:Int} {i:TIns} {last:Bool} (h:QiY ds n M s rd f g k1 i last=true):Loc ds n M s rd f g k1 i last:=by
 simp only [QiY,Bool.and_eq_true,decide_eq_true_eq] at h
 exact ⟨h.1.1.1.1.1.1.1.1.1.1.1.1.1.1.1.1.1.1.1.1.1.1.1.1.1.1.1,h.1.1.1.1.1.1.1.1.1.1.1.1.1.1.1.1.1.1.1.1.1.1.1.1.1.1.2,h.1.1.1.1.1.1.1.1.1.1.1.1.1.1.1.1.1.1.1.1.1.1.1.1.1.2,h.1.1.1.1.1.1.1.1.1.1.1.1.1.1.1.1.1.1.1.1.1.1.1.1.2,h.1.1.1.1.1.1.1.1.1.1.1.1.1.1.1.1.1.1.1.1.1.1.1.2,h.1.1.1.1.1.1.1.1.1.1.1.1.1.1.1.1.1.1.1.1.1.1.2,h.1.1.1.1.1.1.1.1.1.1.1.1.1.1.1.1.1.1.1.1.1.2,h.1.1.1.1.1.1.1.1.1.1.1.1.1.1.1.1.1.1.1.1.2,h.1.1.1.1.1.1.1.1.1.1.1.1.1.1.1.1.1.1.1.2,h.1.1.1.1.1.1.1.1.1.1.1.1.1.1.1.1.1.1.2,h.1.1.1.1.1.1.1.1.1.1.1.1.1.1.1.1.1.2,h.1.1.1.1.1.1.1.1.1.1.1.1.1.1.1.1.2,h.1.1.1.1.1.1.1.1.1.1.1.1.1.1.1.2,h.1.1.1.1.1.1.1.1.1.1.1.1.1.1.2,h.1.1.1.1.1.1.1.1.1.1.1.1.1.2,h.1.1.1.1.1.1.1.1.1.1.1.1.2,h.1.1.1.1.1.1.1.1.1.1.1.2,h.1.1.1.1.1.1.1.1.1.1.2,h.1.1.1.1.1.1.1.1.1.2,h.1.1.1.1.1.1.1.1.2,h.1.1.1.1.1.1.1.2,h.1.1.1.1.1.1.2,h.1.1.1.1.1.2,h.1.1.1.1.2,h.1.1.1.2,h.1.1.2,h.1.2,h.2⟩
section
variable (c:QC) (b:List Qp)
def lenP (s:Nat):Nat:=(Y6 c b s).length
def insP (s k:Nat):TIns:=gtd dIns (Y6 c b s) k
def F (s k:Nat):Nat:=cf ((Y6 c b s).take k)
def G (s k:Nat):Nat:=cg ((Y6 c b s).take k)
def K1 (s k:Nat):Int:=Jl (Y6 c b s) k
def sc (s k:Nat):Nat:=scOf (F c b s k) (K1 c b s k)
def rc (s k:Nat):Nat:=rcOf (F c b s k) (K1 c b s k)
def rg (s k:Nat):Nat:=rgOf (nSt c:Nat) (s:Int) (G c b s k) (K1 c b s k)
def sg (s k:Nat):Nat:=sgQ (G c b s k) (K1 c b s k)
def stAt (s k:Nat):Qc:=st c b s k (F c b s k) (G c b s k) (K1 c b s k)
abbrev Qaw (s:Nat):Int:=gtd 0 (JU c) s
def aQ (ks:Nat→Nat) (s:Nat):Qd:=(Qaw c s,(List.range' (rc c b (s+1) (ks (s+1))) (sc c b s (ks s)-rc c b (s+1) (ks (s+1)))).map fun j:Nat=>((j:Int),inS c b (s+1) j))
def bQ (ks:Nat→Nat) (s:Nat):Qd:=(Qaw c s,(List.range' (rg c b s (ks s)) (sg c b (s+1) (ks (s+1))-rg c b s (ks s))).map fun j:Nat=>((j:Int),doS c b (s+1) j))
def Zv (ks:Nat→Nat):Qe :=
 (b,(List.range (nSt c)).map (fun s=>stAt c b s (ks s)),(List.range (nSt c-1)).map (aQ c b ks),(List.range (nSt c-1)).map (bQ c b ks))
end
section
variable {c:QC} {b:List Qp} (A:Adm c b)
include A
theorem Qdg:1≤nSt c∧nSt c≤4:=by have:=A.stages;simp only [nSt];omega
theorem Qwk {s:Nat} (hs:s<nSt c):Qdb (cDs c) (nSt c:Nat) b.length s (YZ c s) (Y6 c b s) 0 0 0=true:=by
 have h1:=Qdg A
 have h2:=QcH A
 exact QUW (YZ c s) A.ds.1 A.ds.2 (by omega) (by omega) (by omega) (by omega) (by omega)
theorem loc {s k:Nat} (hs:s<nSt c) (hk:k<lenP c b s):Loc (cDs c) (nSt c:Nat) b.length s (YZ c s) (F c b s k) (G c b s k) (K1 c b s k) (insP c b s k) (decide (k+1=lenP c b s)):=by
 have h:=(Qm7 _ _ _ _ (Qwk A hs) k (Nat.le_of_lt hk)).1 (insP c b s k) (Y4 hk dIns)
 have e:(if k=0 then (0:Int) else Jl (Y6 c b s) k)=K1 c b s k:=by
  unfold K1 Jl;split <;> rfl
 rw [e,Nat.zero_add,Nat.zero_add] at h
 exact QZM h
theorem QvG {s:Nat} (hs:s<nSt c):F c b s (lenP c b s)=b.length∧G c b s (lenP c b s)=b.length∧K1 c b s (lenP c b s)=8:=by
 have h:=(Qm7 _ _ _ _ (Qwk A hs) (lenP c b s) (Nat.le_refl _)).2 rfl
 have e:(if lenP c b s=0 then (0:Int) else Jl (Y6 c b s) (lenP c b s))=K1 c b s (lenP c b s):=by
  unfold K1 Jl;split <;> rfl
 rw [e,Nat.zero_add,Nat.zero_add] at h
 simp only [Qql,decide_eq_true_eq] at h
 unfold F G
 exact ⟨by omega,by omega,h.2.2⟩
theorem nums {s k:Nat} (hs:s<nSt c) (hk:k≤lenP c b s):Nums b.length (F c b s k) (G c b s k) (K1 c b s k):=by
 by_cases h:k<lenP c b s
 ·have L:=loc A hs h
  exact ⟨L.c0.1,by have:=L.c0.2.1;omega,fun e=>by have:=L.c21 e;omega,L.c16,L.c20,L.c15⟩
 ·have:k=lenP c b s:=by omega
  subst this
  obtain ⟨h1,h2,h3⟩:=QvG A hs
  rw [h1,h2,h3]
  exact ⟨Nat.le_refl _,Nat.le_refl _,(fun e=>by simp at e),(fun e=>by simp at e),(fun e=>by simp at e),(fun e=>by simp at e)⟩
omit A in
theorem QCY {s k:Nat} (hk:k<lenP c b s):F c b s (k+1)=F c b s k+kf (insP c b s k)∧G c b s (k+1)=G c b s k+kg (insP c b s k)∧K1 c b s (k+1)=(insP c b s k).1:=by
 have h:(Y6 c b s)[k]? = some (insP c b s k):=Y4 hk dIns
 have ht:(Y6 c b s).take (k+1)=(Y6 c b s).take k++[insP c b s k]:=by rw [List.take_add_one,h];rfl
 refine ⟨?_,?_,?_⟩
 ·unfold F cf;rw [ht];simp
 ·unfold G cg;rw [ht];simp
 ·unfold K1 Jl;rw [if_neg (by omega)];rfl
theorem QGb {s k:Nat} (hs:s<nSt c) (hk:k<lenP c b s) :
  (s+1<nSt c→sc c b s (k+1)=sc c b s k+if (insP c b s k).1=3 then 1 else 0) ∧
  (0<s→rc c b s (k+1)=rc c b s k+if (insP c b s k).1=1 then 1 else 0) ∧
  (s+1<nSt c→rg c b s (k+1)=rg c b s k+if (insP c b s k).1=4 then 1 else 0) ∧
  (0<s→sg c b s (k+1)=sg c b s k+if (insP c b s k).1=7 then 1 else 0):=by
 have L:=loc A hs hk
 obtain ⟨e1,e2,e3⟩:=QCY (c:=c) (b:=b) hk
 unfold sc rc rg sg
 rw [e1,e2,e3]
 generalize F c b s k=f at *
 generalize G c b s k=g at *
 generalize K1 c b s k=k1 at *
 generalize insP c b s k=i at *
 have hi:=L.c0
 have h6:i.1=6→(s:Int)<(nSt c:Nat)-1→k1=4∨k1=5:=fun e hlt=>by
  have h:=L.c6 e
  cases hr:YZ c s with
  | true=>exact .inr (h.2.2.1 hr)
  | false=>exact .inl (h.2.2.2 hr hlt)
 have h1:=L.c1;have h2:=L.c2;have h3:=L.c3;have h4:=L.c4;have h5:=L.c5;have h7:=L.c7;have h9:=L.c9;have h10:=L.c10;have h11:=L.c11;have h12:=L.c12;have h13:=L.c13;have h15:=L.c15;have h16:=L.c16;have h18:=L.c18
 obtain ⟨i1,i2⟩:=i
 simp only at hi h1 h2 h3 h4 h5 h6 h7 h9 h10 h11 h12 h13
 unfold scOf rcOf rgOf sgQ kf kg
 simp only
 have hcase:i1=1∨i1=2∨i1=3∨i1=4∨i1=5∨i1=6∨i1=7∨i1=8:=by omega
 rcases hcase with rfl | rfl | rfl | rfl | rfl | rfl | rfl | rfl <;> simp at h1 h2 h3 h4 h5 h6 h7 h9 h10 h11 h12 h13 ⊢ <;> (refine ⟨?_,?_,?_,?_⟩ <;> intro hh <;> (repeat' split) <;> omega)
structure Ok (c:QC) (b:List Qp) (ks:Nat→Nat):Prop where
 le:∀ s,s<nSt c→ks s≤lenP c b s
 qa:∀ s,s+1<nSt c→rc c b (s+1) (ks (s+1))≤sc c b s (ks s)∧(sc c b s (ks s):Int)-rc c b (s+1) (ks (s+1))≤Qaw c s
 qb:∀ s,s+1<nSt c→rg c b s (ks s)≤sg c b (s+1) (ks (s+1))∧(sg c b (s+1) (ks (s+1)):Int)-rg c b s (ks s)≤Qaw c s
 fl:(∃ s,s<nSt c∧ks s=lenP c b s)→∀ s,s<nSt c→lenP c b s≤ks s+1
def En (c:QC) (b:List Qp) (ks:Nat→Nat) (s:Nat):Prop :=
 ks s<lenP c b s ∧
 ((insP c b s (ks s)).1=1→rc c b s (ks s)<sc c b (s-1) (ks (s-1))) ∧
 ((insP c b s (ks s)).1=3→(sc c b s (ks s):Int)-rc c b (s+1) (ks (s+1))<Qaw c s) ∧
 ((insP c b s (ks s)).1=4→rg c b s (ks s)<sg c b (s+1) (ks (s+1))) ∧
 ((insP c b s (ks s)).1=7→(sg c b s (ks s):Int)-rg c b (s-1) (ks (s-1))<Qaw c (s-1)) ∧
 ((insP c b s (ks s)).1=8→∀ j,j<nSt c→lenP c b j≤ks j+1)
theorem Qkh {s:Nat} (hs:s+1<nSt c):1≤Qaw c s∧Qaw c s≤5:=by
 have:=A.caps
 simp only [YS,Bool.and_eq_true,beq_iff_eq] at this
 have hl:s<(JU c).length:=by simp only [nSt] at hs;have:=this.1;simp only [JU,ZF] at *;omega
 have:=List.all_eq_true.1 this.2 _ (Jh hl 0)
 exact QV.1 this
theorem Qgt:(JU c).length=nSt c-1:=by
 have:=A.caps
 simp only [YS,Bool.and_eq_true,beq_iff_eq] at this
 have:=this.1;simp only [nSt,JU,ZF] at *;omega
end
end Go.Proofs.YtjbdljkhbglnhaaGreat.Am

