/- -/
import Derived.Test.YtjbdljkhbglnhaaGreatZIG8
set_option linter.all false
namespace Go.Proofs.YtjbdljkhbglnhaaGreat.Am
open Go Sz
def ZA (m:Zf) (cuts:List Int) (s:Nat):Nat:=if s=0 then 0 else if s≤cuts.length then (gtd 0 cuts (s-1)).toNat else m.length
def Ys (m:Zf) (cuts:List Int) (s:Nat):List TOp':=(m.drop (ZA m cuts s)).take (ZA m cuts (s+1)-ZA m cuts s)
section
variable {m:Zf} {cuts:List Int} (hc:Zy m cuts=true)
include hc
theorem QiT {s:Nat} (hs:s≤cuts.length):ZA m cuts s<ZA m cuts (s+1):=by
 have hl:=Qa9 hc
 have hg:YC (m.length-1) none cuts=true:=by have:=hc;simp only [Zy,Bool.and_eq_true] at this;exact this.2
 have h1:∀ k:Nat,k<cuts.length→1≤gtd 0 cuts k∧gtd 0 cuts k≤(m.length:Int)-1:=fun k hk=>by
  have:=QcD hg k _ (YZ hk 0);omega
 have h2:∀ k:Nat,k+1<cuts.length→gtd 0 cuts k<gtd 0 cuts (k+1):=fun k hk=>Qlz hg k _ _ (YZ (by omega) 0) (YZ hk 0)
 unfold ZA
 rw [if_neg (Nat.succ_ne_zero s)]
 by_cases h0:s=0
 ·subst h0
  rw [if_pos rfl]
  split
  ·have:=h1 0 (by omega);simp;omega
  ·omega
 ·rw [if_neg h0,if_pos hs]
  have h3:=h1 (s-1) (by omega)
  split
  ·have h4:=h2 (s-1) (by omega)
   rw [show s-1+1=s by omega] at h4
   rw [show s+1-1=s by omega]
   omega
  ·omega
theorem Qr8 {s:Nat}:ZA m cuts s≤m.length:=by
 have hl:=Qa9 hc
 have hg:YC (m.length-1) none cuts=true:=by have:=hc;simp only [Zy,Bool.and_eq_true] at this;exact this.2
 unfold ZA
 split
 ·omega
 ·split
  ·have:=QcD hg (s-1) _ (YZ (by omega) 0);omega
  ·omega
theorem QjJ:ZA m cuts (cuts.length+1)=m.length:=by have _:=hc;unfold ZA;rw [if_neg (by omega),if_neg (by omega)]
theorem QRK {s:Nat} (hs:s≤cuts.length):QV m cuts (s:Int)=((ZA m cuts s:Int),(ZA m cuts (s+1):Int)):=by
 have hl:=Qa9 hc
 have hg:YC (m.length-1) none cuts=true:=by have:=hc;simp only [Zy,Bool.and_eq_true] at this;exact this.2
 have h1:∀ k:Nat,k<cuts.length→1≤gtd 0 cuts k∧gtd 0 cuts k≤(m.length:Int)-1:=fun k hk=>by
  have:=QcD hg k _ (YZ hk 0);omega
 unfold QV
 rw [if_pos (by rw [hc,Bool.true_and,QP];omega)]
 unfold ZA
 refine Prod.ext ?_ ?_
 ·dsimp only
  by_cases h0:s=0
  ·subst h0;simp
  ·rw [if_pos (by omega),if_neg h0,if_pos hs,Int.toNat_natCast]
   have:=h1 (s-1) (by omega);omega
 ·dsimp only
  rw [if_neg (Nat.succ_ne_zero s)]
  by_cases h2:s<cuts.length
  ·rw [if_pos (by omega),if_pos (by omega),Int.toNat_natCast,show s+1-1=s by omega]
   have:=h1 s h2;omega
  ·rw [if_neg (by omega),if_neg (by omega)]
theorem QQa {s:Nat} (hs:s≤cuts.length):slice m (QV m cuts (s:Int)).1 (QV m cuts (s:Int)).2=Ys m cuts s:=by
 rw [QRK hc hs];simp [slice,Ys]
theorem QI4 {s:Nat} (hs:s≤cuts.length):(Ys m cuts s).length=ZA m cuts (s+1)-ZA m cuts s:=by
 have:=Qr8 hc (s:=s+1)
 have:=QiT hc hs
 unfold Ys;simp;omega
theorem Qim {s:Nat} (hs:s≤cuts.length):1≤(Ys m cuts s).length∧(Ys m cuts s).length≤8:=by
 rw [QI4 hc hs]
 have:=Qr8 hc (s:=s+1)
 have:=QiT hc hs
 have:=(Qa9 hc).2.1
 omega
theorem QSf {s:Nat} (hs:s≤cuts.length):m.take (ZA m cuts (s+1))=m.take (ZA m cuts s)++Ys m cuts s:=by
 have:=QiT hc hs
 unfold Ys
 rw [← List.take_add,show ZA m cuts s+(ZA m cuts (s+1)-ZA m cuts s)=ZA m cuts (s+1) by omega]
theorem QgS {s:Nat} (hs:s≤cuts.length):m.drop (ZA m cuts s)=Ys m cuts s++m.drop (ZA m cuts (s+1)):=by
 have:=QiT hc hs
 unfold Ys
 have h:=List.take_append_drop (ZA m cuts (s+1)-ZA m cuts s) (m.drop (ZA m cuts s))
 rw [List.drop_drop,show ZA m cuts s+(ZA m cuts (s+1)-ZA m cuts s)=ZA m cuts (s+1) by omega] at h
 exact h.symm
end
def inp (m:Zf) (cuts:List Int) (x:List Int) (s:Nat):List Int:=Z9 (m.take (ZA m cuts s)) x
def QbY (m:Zf) (cuts:List Int) (x:List Int) (s:Nat):List (List Int):=(QG (Ys m cuts s) (inp m cuts x s)).1
def fsat (m:Zf) (cuts:List Int) (x:List Int) (s:Nat):Bool:=(QG (Ys m cuts s) (inp m cuts x s)).2
def Qdp (m:Zf) (cuts:List Int) (p:Qy) (s:Nat):List (List Int) × List Int × Bool :=
 QO (m.drop (ZA m cuts s)) (QG (m.drop (ZA m cuts s)) (inp m cuts p.1 s)).1 (Ze (Z9 m p.1) p.2).1
def dOut (m:Zf) (cuts:List Int) (p:Qy) (s:Nat):List Int:=(Qdp m cuts p s).2.1
def QbI (m:Zf) (cuts:List Int) (p:Qy) (s:Nat):List (List Int) × List Int × Bool:=QO (Ys m cuts s) (QbY m cuts p.1 s) (dOut m cuts p (s+1))
section
variable {m:Zf} {cuts:List Int} (hc:Zy m cuts=true)
include hc
theorem QGJ (x:List Int):inp m cuts x 0=x:=by have _:=hc;unfold inp ZA;simp [QjU]
theorem QgL (x:List Int):inp m cuts x (cuts.length+1)=Z9 m x:=by unfold inp;rw [QjJ hc,List.take_length]
theorem Qtu {s:Nat} (hs:s≤cuts.length) (x:List Int):inp m cuts x (s+1)=Z9 (Ys m cuts s) (inp m cuts x s):=by
 unfold inp;rw [QSf hc hs,QMy]
theorem QEe {s:Nat} (hs:s≤cuts.length) (p:Qy) :
  Qdp m cuts p s=((QbI m cuts p s).1++(Qdp m cuts p (s+1)).1,(QbI m cuts p s).2.1,(QbI m cuts p s).2.2||(Qdp m cuts p (s+1)).2.2):=by
 unfold QbI QbY dOut
 have e:=Qtu hc hs p.1
 conv=>lhs;unfold Qdp
 rw [QgS hc hs,QFh]
 unfold Qdp
 rw [e]
theorem QUP {s:Nat} (hs:s≤cuts.length) (p:Qy):dOut m cuts p s=(QbI m cuts p s).2.1:=by unfold dOut;rw [QEe hc hs]
theorem QJm (p:Qy):dOut m cuts p (cuts.length+1)=(Ze (Z9 m p.1) p.2).1:=by
 unfold dOut Qdp
 rw [QjJ hc,List.drop_length]
 simp [QO]
end
end Go.Proofs.YtjbdljkhbglnhaaGreat.Am
namespace Go.Proofs.YtjbdljkhbglnhaaGreat.Am
open Go Sz
structure Adm (c:QM) (b:List Qy):Prop where
 model:QT (ZU c)=true
 batch:YL (ZU c) b=true
 cuts:Zy (ZU c) (Zv c)=true
 stages:(Zv c).length+1≤4
 ds:1≤cDs c∧cDs c≤2
 redo:(J5 c).length=(Zv c).length+1
 caps:Qaj c=true
 limits:Qbn c b.length=true
theorem QnU {c:QM} {b:List Qy} (h:Yd c b=0):Adm c b:=by
 unfold Yd at h
 have hs:=QdP (c:=c)
 split at h
 ·simp at h
 split at h
 ·simp at h
 split at h
 ·simp at h
 split at h
 ·simp at h
 split at h
 ·simp at h
 split at h
 ·simp at h
 split at h
 ·simp at h
 rename_i h1 h2 h3 h4 h5 h6 h7
 have hc:=hs.2.2.1.1 (by omega)
 have e:=hs.2.2.2 hc
 have h4':m_in (cDs c) 1 2=true:=by simpa using h4
 exact ⟨by simpa using h1,by simpa using h2,hc,by have:=e;simp only [Zv];omega,QP.1 h4',by have:=e;simp only [Zv,J5];omega,by simpa using h6,by simpa using h7⟩
theorem QC8 {c:QM} {b:List Qy} (A:Adm c b):Yd c b=0:=by
 have hs:=QdP (c:=c)
 have e:=hs.2.2.2 A.cuts
 have h4:=A.stages
 have hr:=A.redo
 simp only [Zv,J5] at h4 hr
 unfold Yd
 rw [if_neg (by simp [A.model]),if_neg (by simp [A.batch]),if_neg (by omega),if_neg (by have:=QP.2 A.ds;simp [this]),if_neg (by simp;omega),if_neg (by simp [A.caps]),if_neg (by simp [A.limits])]
def nSt (c:QM):Nat:=(Zv c).length+1
abbrev prAt (b:List Qy) (k:Nat):Qy:=gtd QX b k
def dimI (m:Zf) (cuts:List Int) (s:Nat):Int:=if s≤cuts.length then Q6 (Ys m cuts s) else Q5 m
section
variable {m:Zf} {cuts:List Int} (hc:Zy m cuts=true)
include hc
theorem QMQ:QT m=true:=by have:=hc;simp only [Zy,Bool.and_eq_true] at this;exact this.1
theorem Qik {s:Nat} (hs:s≤cuts.length+1):Yf (Q6 m) (m.take (ZA m cuts s)) (dimI m cuts s)∧Yf (dimI m cuts s) (m.drop (ZA m cuts s)) (Q5 m):=by
 obtain ⟨_,_,h⟩:=QJB (QMQ hc)
 have h':=h
 rw [← List.take_append_drop (ZA m cuts s) m] at h'
 have h'':Yf (Q6 m) (m.take (ZA m cuts s)++m.drop (ZA m cuts s)) (Q5 m):=by rw [List.take_append_drop];exact h
 obtain ⟨k,h1,h2⟩:=Yf.append.1 h''
 have hk:k=dimI m cuts s:=by
  unfold dimI
  by_cases h3:s≤cuts.length
  ·rw [if_pos h3]
   rw [QgS hc h3] at h2
   obtain ⟨k2,h4,h5⟩:=Yf.append.1 h2
   have hp:=Qim hc h3
   exact (Qhr h4 hp.1 hp.2).2.1.symm
  ·have es:s=cuts.length+1:=by omega
   subst es
   rw [QjJ hc,List.drop_length] at h2
   rw [if_neg h3]
   exact h2
 rw [← hk]
 exact ⟨h1,h2⟩
theorem QnX {s:Nat} (hs:s≤cuts.length):Yf (dimI m cuts s) (Ys m cuts s) (dimI m cuts (s+1)):=by
 obtain ⟨_,h2⟩:=Qik hc (s:=s) (by omega)
 rw [QgS hc hs] at h2
 obtain ⟨k2,h4,h5⟩:=Yf.append.1 h2
 have:k2=dimI m cuts (s+1):=by
  obtain ⟨h6,h7⟩:=Qik hc (s:=s+1) (by omega)
  by_cases h8:s+1≤cuts.length
  ·have hp:=Qim hc h8
   rw [QgS hc h8] at h5
   obtain ⟨k3,h9,_⟩:=Yf.append.1 h5
   unfold dimI
   rw [if_pos h8]
   exact (Qhr h9 hp.1 hp.2).2.1.symm
  ·rw [show s+1=cuts.length+1 by omega,QjJ hc,List.drop_length] at h5
   unfold dimI
   rw [if_neg h8]
   exact h5
 rw [← this]
 exact h4
theorem QQR {s:Nat} (hs:s≤cuts.length):QT (Ys m cuts s)=true∧Q6 (Ys m cuts s)=dimI m cuts s∧Q5 (Ys m cuts s)=dimI m cuts (s+1):=by
 have hp:=Qim hc hs
 exact Qhr (QnX hc hs) hp.1 hp.2
theorem QBt:dimI m cuts (cuts.length+1)=Q5 m:=by have _:=hc;unfold dimI;rw [if_neg (by omega)]
variable {p:Qy} (hp:JS m p=true)
include hp
theorem Qo9:Qr p.1 (Q6 m)=true∧Qr p.2 (Q5 m)=true:=by
 have _:=hc
 simp only [JS,Bool.and_eq_true] at hp;exact ⟨hp.1.2,hp.2⟩
theorem Qfj {s:Nat} (hs:s≤cuts.length+1):Qr (inp m cuts p.1 s) (dimI m cuts s)=true:=Qyl (Qik hc hs).1 (Qo9 hc hp).1
theorem QSm:Qr (Z9 m p.1) (Q5 m)=true:=by
 have:=Qfj hc hp (s:=cuts.length+1) (by omega)
 rwa [QgL hc,QBt hc] at this
theorem QLb:Qr (Ze (Z9 m p.1) p.2).1 (Q5 m)=true:=by
 have h1:=QSm hc hp
 have h2:=(Qo9 hc hp).2
 have:=QH6 (Qm8 h1 h2)
 rwa [(YQ.1 h1).2] at this
theorem Qr6 {s:Nat} (hs:s≤cuts.length+1):Qr (dOut m cuts p s) (dimI m cuts s)=true:=(Qnh (Qik hc hs).2 (Qfj hc hp hs) (QLb hc hp)).1
theorem QGa {s:Nat} (hs:s≤cuts.length):Z1 (Ys m cuts s) (QbI m cuts p s).1=true∧(QbI m cuts p s).1.length=(Ys m cuts s).length :=
 ⟨(Qnh (QnX hc hs) (Qfj hc hp (by omega)) (Qr6 hc hp (by omega))).2,Qja _ _ _ (by unfold QbY;rw [Qc3];omega)⟩
theorem QwW {s:Nat} (hs:s≤cuts.length):Yh (Ys m cuts s) 0 (QbY m cuts p.1 s)=true :=
 QPw (QnX hc hs) (by have:=Qim hc hs;intro e;rw [e] at this;simp at this) (Qfj hc hp (by omega))
theorem QoO {s:Nat}:(QbY m cuts p.1 s).length=(Ys m cuts s).length+1:=by have _:=hc;have _:=hp;exact Qc3 _ _
theorem QMl {s:Nat}:gtd [] (QbY m cuts p.1 s) 0=inp m cuts p.1 s:=by have _:=hc;have _:=hp;exact QOT _ _
theorem QvN {s:Nat} (hs:s≤cuts.length):gtd [] (QbY m cuts p.1 s) (Ys m cuts s).length=inp m cuts p.1 (s+1):=by have _:=hp;rw [Qtu hc hs];rfl
end
end Go.Proofs.YtjbdljkhbglnhaaGreat.Am
namespace Go.Proofs.YtjbdljkhbglnhaaGreat.Am
open Go Sz
section
variable (c:QM) (b:List Qy)
def Y3 (s:Nat):Bool:=gtd false (J5 c) s
def Y4 (s:Nat):List TIns:=YA (cDs c) (nSt c:Nat) s b.length (Y3 c s)
abbrev opS (s:Nat):List TOp':=Ys (ZU c) (Zv c) s
abbrev inS (s j:Nat):List Int:=inp (ZU c) (Zv c) (prAt b j).1 s
abbrev rowS (s j:Nat):List (List Int):=QbY (ZU c) (Zv c) (prAt b j).1 s
abbrev doS (s j:Nat):List Int:=dOut (ZU c) (Zv c) (prAt b j) s
abbrev bkS (s j:Nat):=QbI (ZU c) (Zv c) (prAt b j) s
abbrev outA (j:Nat):List Int:=Z9 (ZU c) (prAt b j).1
def Zn (s:Nat):Bool:=decide (s+1=nSt c)
def QaP (s:Nat) (r:List (List Int)):List (List Int):=if Y3 c s then r.take 1 else r
def Qaw (s:Nat):Nat→List (List Int)
 | 0=>(Yx (opS c s)).1
 | g+1=>(ZC (Qaw s g) (bkS c b s g).1).1
def Jj:Nat→Int
 | 0=>0
 | f+1=>(Q7 (Jj f) (Z8 (outA c b f) (prAt b f).2).1).1
def lsat (f:Nat):Bool:=(Z8 (outA c b f) (prAt b f).2).2||(Q7 (Jj c b f) (Z8 (outA c b f) (prAt b f).2).1).2
def Qgm (s j:Nat):Bool:=fsat (ZU c) (Zv c) (prAt b j).1 s||(Zn c s&&lsat c b j)
def Qgz (s j:Nat):Bool:=(bkS c b s j).2.2||(ZC (Qaw c b s j) (bkS c b s j).1).2||(Zn c s&&(Ze (outA c b j) (prAt b j).2).2)
def satV (s f g:Nat):Bool:=(List.range f).any (Qgm c b s)||(List.range g).any (Qgz c b s)
def YF (s f g:Nat):List ZD:=(List.range' g (f-g)).map fun j:Nat=>((j:Int),QaP c s (rowS c b s j))
def J3 (s g:Nat) (k1:Int):List (List Int):=if k1=5 then rowS c b s g else []
def vX (s f:Nat) (k1:Int):List Int:=if k1=1 then inS c b s f else []
def vY (s f:Nat) (k1:Int):List Int:=if k1=2∧s+1<nSt c then inS c b (s+1) (f-1) else []
def vG (s g:Nat) (k1:Int):List Int:=if k1=4∨(k1=5∧s+1<nSt c) then doS c b (s+1) g else []
def vD (s g:Nat) (k1:Int):List Int:=if k1=6∧0<s then doS c b s (g-1) else []
def st (s:Nat) (k f g:Nat) (k1:Int):Qc :=
 ((k:Int),Y4 c b s,opS c s,Zn c s,Y3 c s,YF c b s f g,J3 c b s g k1,vX c b s f k1,vY c b s f k1,vG c b s g k1,vD c b s g k1,Qaw c b s g,(if Zn c s then Jj c b f else 0),satV c b s f g)
end
structure Nums (M f g:Nat) (kk:Int):Prop where
 gf:g≤f
 fM:f≤M
 k1:kk=1→f<M
 k2:kk=2→1≤f
 k45:kk=4∨kk=5→g<f
 k6:kk=6→1≤g
theorem QCN:∀ {l:List ZD} {m k:Int},(∀ x,x∈l→x.1≠m)→Jz l m k = -1
 | [],m,k,h=>rfl
 | x::r,m,k,h=>by rw [Jz,if_neg (h x List.mem_cons_self)];exact QCN (fun y hy=>h y (List.mem_cons_of_mem _ hy))
theorem QIP {c:QM} {b:List Qy} {s f g:Nat}:QL (YF c b s f g) (f:Int) = -1:=by
 refine QCN (fun x hx=>?_)
 unfold YF at hx
 obtain ⟨j,hj,rfl⟩:=List.mem_map.1 hx
 rw [List.mem_range'_1] at hj
 simp only [ne_eq];omega
theorem QhH {c:QM} {b:List Qy} {s f g:Nat} (h:g<f):YF c b s f g=((g:Int),QaP c s (rowS c b s g))::YF c b s f (g+1):=by
 unfold YF
 rw [show f-g=(f-(g+1))+1 by omega,List.range'_succ,List.map_cons]
theorem QGB {c:QM} {b:List Qy} {s f g:Nat} (h:g≤f):YF c b s (f+1) g=YF c b s f g++[((f:Int),QaP c s (rowS c b s f))]:=by
 unfold YF
 rw [show f+1-g=(f-g)+1 by omega,List.range'_concat,List.map_append]
 simp only [List.map_cons,List.map_nil,Nat.one_mul]
 rw [show g+(f-g)=f by omega]
theorem Qr0 {c:QM} {b:List Qy} {s f g:Nat} (h:g<f):QL (YF c b s f g) (g:Int)=0:=by
 rw [QhH h];unfold QL;rw [Jz,if_pos rfl]
theorem QaJ {c:QM} {b:List Qy} {s g:Nat} {k1:Int} (h:k1≠5):J3 c b s g k1=[]:=by unfold J3;rw [if_neg h]
theorem QaY {c:QM} {b:List Qy} {s f:Nat} {k1:Int} (h:k1≠1):vX c b s f k1=[]:=by unfold vX;rw [if_neg h]
theorem Qay {c:QM} {b:List Qy} {s f:Nat} {k1:Int} (h:¬ (k1=2∧s+1<nSt c)):vY c b s f k1=[]:=by unfold vY;rw [if_neg h]
theorem QbN {c:QM} {b:List Qy} {s g:Nat} {k1:Int} (h4:k1≠4) (h5:k1≠5):vG c b s g k1=[]:=by
 unfold vG;rw [if_neg];rintro (e | e)
 ·exact h4 e
 ·exact h5 e.1
theorem Qas {c:QM} {b:List Qy} {s g:Nat} {k1:Int} (h:¬ (k1=6∧0<s)):vD c b s g k1=[]:=by unfold vD;rw [if_neg h]
theorem JJ {p:Prop} {x y:Int} (h:x≠y):¬ (x=y∧p):=fun e=>h e.1
theorem QO2 {c:QM} {b:List Qy} {s f:Nat}:vX c b s f 1=inS c b s f:=by unfold vX;rw [if_pos rfl]
theorem QH4 {c:QM} {b:List Qy} {s g:Nat}:vG c b s g 4=doS c b (s+1) g:=by unfold vG;rw [if_pos (.inl rfl)]
section
variable {c:QM} {b:List Qy} (A:Adm c b)
include A
theorem Qdf:1≤b.length∧b.length≤5:=by
 have:=A.batch;simp only [YL,Bool.and_eq_true,QP] at this;omega
theorem Qa2 {j:Nat} (hj:j<b.length):JS (ZU c) (prAt b j)=true:=by
 have:=A.batch;simp only [YL,Bool.and_eq_true] at this
 exact List.all_eq_true.1 this.2 _ (Jb hj QX)
theorem QXd (f:Nat):Zb (Jj c b f)=true:=by
 have _:=A
 cases f with
 | zero=>rfl
 | succ f=>exact QoQ _ _
theorem QH8 (s f:Nat):Zb (if Zn c s then Jj c b f else 0)=true:=by
 split
 ·exact QXd A f
 ·rfl
theorem QfK {s:Nat} (hs:s<nSt c):QT (opS c s)=true∧Q6 (opS c s)=dimI (ZU c) (Zv c) s∧Q5 (opS c s)=dimI (ZU c) (Zv c) (s+1):=QQR A.cuts (by simp only [nSt] at hs;omega)
theorem QQj {s:Nat} (hs:s<nSt c):(Yx (opS c s)).1.length=(opS c s).length∧Z1 (opS c s) (Yx (opS c s)).1=true:=by
 unfold Yx
 rw [if_pos (QfK A hs).1]
 simp only [List.length_map,true_and]
 generalize opS c s=l
 induction l with
 | nil=>rfl
 | cons o l ih=>simp [Z1,ih]
theorem QTP {s j:Nat} (hs:s<nSt c) (hj:j<b.length):(bkS c b s j).1.length=(opS c s).length∧Z1 (opS c s) (bkS c b s j).1=true:=by
 have:=QGa A.cuts (Qa2 A hj) (s:=s) (by simp only [nSt] at hs;omega)
 exact ⟨this.2,this.1⟩
theorem Qxx {s:Nat} (hs:s<nSt c):∀ {g:Nat},g≤b.length→(Qaw c b s g).length=(opS c s).length∧Z1 (opS c s) (Qaw c b s g)=true
 | 0,_=>QQj A hs
 | g+1,hg=>by
  obtain ⟨h1,h2⟩:=Qxx hs (g:=g) (by omega)
  obtain ⟨h3,h4⟩:=QTP A hs (j:=g) (by omega)
  refine ⟨?_,QrV h1 h3 h2 h4⟩
  show (ZC _ _).1.length=_
  rw [QxX];omega
theorem Qgh {s j:Nat} (hs:s≤nSt c) (hj:j<b.length):Qr (inS c b s j) (dimI (ZU c) (Zv c) s)=true:=Qfj A.cuts (Qa2 A hj) hs
theorem Qf2 {s j:Nat} (hs:s≤nSt c) (hj:j<b.length):Qr (doS c b s j) (dimI (ZU c) (Zv c) s)=true:=Qr6 A.cuts (Qa2 A hj) hs
theorem QgY {s k f g:Nat} {k1:Int} (hs:s<nSt c) (hk:k≤(Y4 c b s).length) (H:Nums b.length f g k1):QS (st c b s k f g k1)=true:=by
 obtain ⟨hm,hi,ho⟩:=QfK A hs
 have hs':s≤(Zv c).length:=by simp only [nSt] at hs;omega
 have hsr:=Qxx A hs (g:=g) (by have:=H.gf;have:=H.fM;omega)
 have hX:Yn (vX c b s f k1) (Q6 (opS c s))=true:=by
  unfold vX Yn;split
  ·rename_i h;rw [hi,Qgh A (by omega) (H.k1 h)];simp
  ·simp
 have hY:Yn (vY c b s f k1) (Q5 (opS c s))=true:=by
  unfold vY Yn;split
  ·rename_i h;rw [ho,Qgh A (by omega) (by have:=H.k2 h.1;have:=H.fM;omega)];simp
  ·simp
 have hG:Yn (vG c b s g k1) (Q5 (opS c s))=true:=by
  unfold vG Yn;split
  ·rename_i h
   have:g<f:=H.k45 (h.imp id (fun h=>h.1))
   rw [ho,Qf2 A (by omega) (by have:=H.fM;omega)];simp
  ·simp
 have hD:Yn (vD c b s g k1) (Q6 (opS c s))=true:=by
  unfold vD Yn;split
  ·rename_i h;rw [hi,Qf2 A (by omega) (by have:=H.k6 h.1;have:=H.gf;have:=H.fM;omega)];simp
  ·simp
 have hst:(YF c b s f g).all (YO (st c b s k f g k1))=true:=by
  rw [List.all_eq_true]
  intro x hx
  unfold YF at hx
  obtain ⟨j,hj,rfl⟩:=List.mem_map.1 hx
  rw [List.mem_range'_1] at hj
  have hjb:j<b.length:=by have:=H.fM;omega
  have hg:=QwW A.cuts (Qa2 A hjb) hs'
  have hl:(rowS c b s j).length=(opS c s).length+1:=QoO A.cuts (Qa2 A hjb)
  have ek:Z4 (st c b s k f g k1)=if Y3 c s=true then 1 else ((opS c s).length:Int)+1:=rfl
  have eo:(st c b s k f g k1).2.2.1=opS c s:=rfl
  unfold YO Yg
  rw [ek,eo]
  simp only [Bool.and_eq_true,beq_iff_eq]
  unfold QaP
  by_cases hr:Y3 c s=true
  ·simp only [if_pos hr]
   refine ⟨by rw [List.length_take,hl,Nat.min_eq_left (by omega)];rfl,?_⟩
   exact QeR _ _ _ _ (QeR _ _ _ _ hg)
  ·simp only [if_neg hr]
   exact ⟨congrArg Int.ofNat hl,QeR _ _ _ _ hg⟩
 simp only [QS,Bool.and_eq_true]
 refine ⟨⟨⟨⟨hm,?_⟩,?_⟩,hst⟩,⟨⟨hX,hD⟩,hY⟩,hG⟩
 ·simp only [st,QP];omega
 ·simp only [st,Jg,Bool.and_eq_true,beq_iff_eq];exact hsr
theorem QIH {s k f g:Nat} {k1:Int} (h2:¬ (k1=2∧s+1<nSt c)) (h4:k1≠4) (h5:k1≠5) (h6:¬ (k1=6∧0<s)) :
  YH (setX (st c b s k f g k1) (inS c b s f)) ((k:Int)+1)=st c b s (k+1) f g 1:=by
 have _:=A
 simp only [YH,setX,setY,setG,setD,st,sPc,Qz,sOps,Qq,Qv,Qf,QD,sX,sY,sG,sD,QC,QB,sSat]
 rw [QaJ h5,Qay h2,QbN h4 h5,Qas h6,QaJ (k1:=1) (by decide),QO2,Qay (k1:=1) (JJ (by decide)),QbN (k1:=1) (by decide) (by decide),Qas (k1:=1) (JJ (by decide))]
 rfl
theorem QRo {s k f g:Nat} {k1:Int} (h1:k1=2):YH (setY (st c b s k f g k1) []) ((k:Int)+1)=st c b s (k+1) f g 3:=by
 have _:=A
 subst h1
 simp only [YH,setX,setY,setG,setD,st,sPc,Qz,sOps,Qq,Qv,Qf,QD,sX,sY,sG,sD,QC,QB,sSat]
 rw [QaJ (k1:=2) (by decide),QaY (k1:=2) (by decide),QbN (k1:=2) (by decide) (by decide),Qas (k1:=2) (JJ (by decide)),QaJ (k1:=3) (by decide),QaY (k1:=3) (by decide),Qay (k1:=3) (JJ (by decide)),QbN (k1:=3) (by decide) (by decide),Qas (k1:=3) (JJ (by decide))]
 rfl
theorem QGS {s k f g:Nat} {k1:Int} (h1:k1≠1) (h2:¬ (k1=2∧s+1<nSt c)) (h5:k1≠5) (h6:¬ (k1=6∧0<s)) :
  YH (setG (st c b s k f g k1) (doS c b (s+1) g)) ((k:Int)+1)=st c b s (k+1) f g 4:=by
 have _:=A
 simp only [YH,setX,setY,setG,setD,st,sPc,Qz,sOps,Qq,Qv,Qf,QD,sX,sY,sG,sD,QC,QB,sSat]
 rw [QaJ h5,QaY h1,Qay h2,Qas h6,QaJ (k1:=4) (by decide),QaY (k1:=4) (by decide),Qay (k1:=4) (JJ (by decide)),QH4,Qas (k1:=4) (JJ (by decide))]
 rfl
theorem QXA {s k f g:Nat} {k1:Int} (h1:k1=6):YH (setD (st c b s k f g k1) []) ((k:Int)+1)=st c b s (k+1) f g 7:=by
 have _:=A
 subst h1
 simp only [YH,setX,setY,setG,setD,st,sPc,Qz,sOps,Qq,Qv,Qf,QD,sX,sY,sG,sD,QC,QB,sSat]
 rw [QaJ (k1:=6) (by decide),QaY (k1:=6) (by decide),Qay (k1:=6) (JJ (by decide)),QbN (k1:=6) (by decide) (by decide),QaJ (k1:=7) (by decide),QaY (k1:=7) (by decide),Qay (k1:=7) (JJ (by decide)),QbN (k1:=7) (by decide) (by decide),Qas (k1:=7) (JJ (by decide))]
 rfl
theorem QSj {s k f g:Nat} {k1:Int} (h1:k1≠1) (h2:¬ (k1=2∧s+1<nSt c)) (h4:k1≠4) (h5:k1≠5) (h6:¬ (k1=6∧0<s)):YH (st c b s k f g k1) ((k:Int)+1)=st c b s (k+1) f g 8:=by
 have _:=A
 simp only [YH,setX,setY,setG,setD,st,sPc,Qz,sOps,Qq,Qv,Qf,QD,sX,sY,sG,sD,QC,QB,sSat]
 rw [QaJ h5,QaY h1,Qay h2,QbN h4 h5,Qas h6,QaJ (k1:=8) (by decide),QaY (k1:=8) (by decide),Qay (k1:=8) (JJ (by decide)),QbN (k1:=8) (by decide) (by decide),Qas (k1:=8) (JJ (by decide))]
 rfl
theorem QUt {s k f g:Nat} {k1:Int} (hs:s<nSt c) (hk:k≤(Y4 c b s).length) (H:Nums b.length f g k1) (hr:Y3 c s=true) (hgf:g<f) (h1:k1≠1) (h2:¬ (k1=2∧s+1<nSt c)) (h4:k1=4↔s+1<nSt c) (h5:k1≠5) (h6:¬ (k1=6∧0<s)) :
  YH (YX (st c b s k f g k1) (g:Int)) ((k:Int)+1)=st c b s (k+1) f g 5:=by
 have hok:=QgY A hs hk H
 have hjb:g<b.length:=by have:=H.fM;omega
 have hf:QL (Qf (st c b s k f g k1)) (g:Int)=0:=Qr0 hgf
 have hrow:gtd [] (gtd Zp (Qf (st c b s k f g k1)) 0).2 0=inS c b s g:=by
  show gtd [] (gtd Zp (YF c b s f g) 0).2 0=_
  rw [QhH hgf,QbA]
  have hh:gtd [] (rowS c b s g) 0=inS c b s g:=QMl A.cuts (Qa2 A hjb) (s:=s)
  have hl:(rowS c b s g).length=(opS c s).length+1:=QoO A.cuts (Qa2 A hjb) (s:=s)
  show gtd [] (QaP c s (rowS c b s g)) 0=_
  unfold QaP
  rw [hr,if_pos rfl,← hh]
  cases hq:rowS c b s g with
  | nil=>rw [hq] at hl;simp at hl
  | cons x r=>simp [gtd]
 unfold YX
 simp only [hf]
 rw [if_pos (by rw [hok];rfl),show Int.toNat 0=0 from rfl,hrow]
 have hg:vG c b s g k1=vG c b s g 5:=by
  unfold vG
  by_cases h:s+1<nSt c
  ·rw [if_pos (.inl (h4.2 h)),if_pos (.inr ⟨rfl,h⟩)]
  ·rw [if_neg (by rintro (e | e);exact h (h4.1 e);exact h e.2),if_neg (by rintro (e | e);cases e;exact h e.2)]
 have hfu:J3 c b s g 5=rowS c b s g:=by unfold J3;rw [if_pos rfl]
 simp only [YH,setX,setY,setG,setD,st,sPc,Qz,sOps,Qq,Qv,Qf,QD,sX,sY,sG,sD,QC,QB,sSat]
 rw [hg,QaY h1,Qay h2,Qas h6,hfu,QaY (k1:=5) (by decide),Qay (k1:=5) (JJ (by decide)),Qas (k1:=5) (JJ (by decide))]
 rfl
theorem QGn {s k f g:Nat} {k1:Int} (hs:s<nSt c) (hk:k≤(Y4 c b s).length) (H:Nums b.length f g k1) (hf:f<b.length) (h0:0<s→k1=1) (h2:¬ (k1=2∧s+1<nSt c)) (h4:k1≠4) (h5:k1≠5) (h6:¬ (k1=6∧0<s)) :
  YH (Ye (st c b s k f g k1) (f:Int) (if s=0 then (prAt b f).1 else sX (st c b s k f g k1)) (prAt b f).2) ((k:Int)+1)=st c b s (k+1) (f+1) g 2:=by
 have hok:=QgY A hs hk H
 obtain ⟨hm,hi,ho⟩:=QfK A hs
 have hs':s≤(Zv c).length:=by simp only [nSt] at hs;omega
 have hp:=Qa2 A hf
 have hx:(if s=0 then (prAt b f).1 else sX (st c b s k f g k1))=inS c b s f:=by
  by_cases h:s=0
  ·subst h;rw [if_pos rfl];exact (QGJ A.cuts _).symm
  ·rw [if_neg h]
   show vX c b s f k1=_
   unfold vX;rw [if_pos (h0 (by omega))]
 rw [hx]
 have hlast:Zn c s=true→s=(Zv c).length:=by intro h;unfold Zn nSt at h;have h:=of_decide_eq_true h;omega
 have hfind:QL (Qf (st c b s k f g k1)) (f:Int) = -1:=QIP
 have hfw:Jv (st c b s k f g k1) (f:Int) (inS c b s f) (prAt b f).2=true:=by
  unfold Jv
  rw [hok,hfind]
  have h1:Qr (inS c b s f) (Q6 (sOps (st c b s k f g k1)))=true:=by
   show Qr _ (Q6 (opS c s))=true
   rw [hi];exact Qgh A (by omega) hf
  have h3:(!Qq (st c b s k f g k1)||Qr (prAt b f).2 (Q5 (sOps (st c b s k f g k1))))=true:=by
   show (!Zn c s||Qr (prAt b f).2 (Q5 (opS c s)))=true
   cases hl:Zn c s with
   | false=>rfl
   | true =>
    have e:=hlast hl
    rw [ho,e,QBt A.cuts]
    simpa using (Qo9 A.cuts hp).2
  rw [h1,h3];rfl
 have hy:gtd [] (QG (opS c s) (inS c b s f)).1 (opS c s).length=inS c b (s+1) f:=QvN A.cuts hp hs'
 have key:YH (Ye (st c b s k f g k1) (f:Int) (inS c b s f) (prAt b f).2) ((k:Int)+1) =
   ((k:Int)+1,Y4 c b s,opS c s,Zn c s,Y3 c s,YF c b s f g++[((f:Int),QaP c s (rowS c b s f))],J3 c b s g k1,[],(if Zn c s=true then vY c b s f k1 else gtd [] (QG (opS c s) (inS c b s f)).1 (opS c s).length),vG c b s g k1,vD c b s g k1,Qaw c b s g,
    (if Zn c s=true then (Q7 (if Zn c s=true then Jj c b f else 0) (Z8 (gtd [] (QG (opS c s) (inS c b s f)).1 (opS c s).length) (prAt b f).2).1).1 else if Zn c s=true then Jj c b f else 0),
    (satV c b s f g||(QG (opS c s) (inS c b s f)).2||(Zn c s&&((Z8 (gtd [] (QG (opS c s) (inS c b s f)).1 (opS c s).length) (prAt b f).2).2||(Q7 (if Zn c s=true then Jj c b f else 0) (Z8 (gtd [] (QG (opS c s) (inS c b s f)).1 (opS c s).length) (prAt b f).2).1).2)))):=by
  unfold Ye
  rw [if_pos hfw]
  rfl
 rw [key,hy]
 have e1:YF c b s f g++[((f:Int),QaP c s (rowS c b s f))]=YF c b s (f+1) g:=(QGB H.gf).symm
 have e2:(if Zn c s=true then vY c b s f k1 else inS c b (s+1) f)=vY c b s (f+1) 2:=by
  unfold vY
  cases hl:Zn c s with
  | false =>
   simp only [Zn,decide_eq_false_iff_not] at hl
   rw [if_neg (by simp),if_pos ⟨rfl,by omega⟩,Nat.add_sub_cancel]
  | true =>
   simp only [Zn,decide_eq_true_eq] at hl
   rw [if_pos rfl,if_neg h2,if_neg (by omega)]
 have e3:(if Zn c s=true then (Q7 (if Zn c s=true then Jj c b f else 0) (Z8 (inS c b (s+1) f) (prAt b f).2).1).1 else if Zn c s=true then Jj c b f else 0)=(if Zn c s=true then Jj c b (f+1) else 0):=by
  cases hl:Zn c s with
  | false=>simp
  | true =>
   simp only [if_true]
   rw [hlast hl]
   show (Q7 _ (Z8 (inp _ _ _ _) _).1).1=_
   rw [QgL A.cuts]
   rfl
 have e4:(satV c b s f g||(QG (opS c s) (inS c b s f)).2||(Zn c s&&((Z8 (inS c b (s+1) f) (prAt b f).2).2||(Q7 (if Zn c s=true then Jj c b f else 0) (Z8 (inS c b (s+1) f) (prAt b f).2).1).2)))=satV c b s (f+1) g:=by
  unfold satV
  rw [List.range_succ,List.any_append]
  have:Qgm c b s f=((QG (opS c s) (inS c b s f)).2||(Zn c s&&((Z8 (inS c b (s+1) f) (prAt b f).2).2||(Q7 (if Zn c s=true then Jj c b f else 0) (Z8 (inS c b (s+1) f) (prAt b f).2).1).2))):=by
   unfold Qgm
   cases hl:Zn c s with
   | false=>rfl
   | true =>
    simp only [if_true,Bool.true_and]
    rw [hlast hl]
    have:inS c b ((Zv c).length+1) f=outA c b f:=QgL A.cuts _
    rw [this]
    rfl
  simp only [List.any_cons,List.any_nil,Bool.or_false]
  rw [this]
  cases (List.range f).any (Qgm c b s) <;> cases (List.range g).any (Qgz c b s) <;> simp
 have e5:vX c b s (f+1) 2=[]:=rfl
 have e6:vG c b s g k1=vG c b s g 2:=by unfold vG;rw [if_neg (by rintro (e | e);exact h4 e;exact h5 e.1),if_neg (by rintro (e | e);cases e;exact absurd e.1 (by decide))]
 have e7:vD c b s g k1=vD c b s g 2:=by unfold vD;rw [if_neg h6,if_neg (by rintro ⟨e,_⟩;exact absurd e (by decide))]
 have e8:J3 c b s g k1=J3 c b s g 2:=by unfold J3;rw [if_neg h5,if_neg (by decide)]
 rw [e1,e2,e3,e4,← e5,e6,e7,e8]
 rfl
theorem QJw {s k f g:Nat} {k1:Int} (hs:s<nSt c) (hk:k≤(Y4 c b s).length) (H:Nums b.length f g k1) (hgf:g<f) (hr1:Y3 c s=true→k1=5) (hr2:Y3 c s=false→s+1<nSt c→k1=4) (h1:k1≠1) (h2:¬ (k1=2∧s+1<nSt c)) (h5:k1=5→Y3 c s=true) (h4:k1=4→s+1<nSt c) :
  YH (if s=0 then setD (Zx (st c b s k f g k1) (g:Int) (prAt b g).2) [] else Zx (st c b s k f g k1) (g:Int) (prAt b g).2) ((k:Int)+1)=st c b s (k+1) f (g+1) 6:=by
 have hok:=QgY A hs hk H
 obtain ⟨hm,hi,ho⟩:=QfK A hs
 have hs':s≤(Zv c).length:=by simp only [nSt] at hs;omega
 have hg:g<b.length:=by have:=H.fM;omega
 have hp:=Qa2 A hg
 have hlast:Zn c s=true→s=(Zv c).length:=by intro h;unfold Zn nSt at h;have h:=of_decide_eq_true h;omega
 have hfind:QL (Qf (st c b s k f g k1)) (g:Int)=0:=Qr0 hgf
 have hrl:(rowS c b s g).length=(opS c s).length+1:=QoO A.cuts hp
 have hrows:Z0 (st c b s k f g k1) 0=rowS c b s g:=by
  unfold Z0
  show (if Y3 c s=true then J3 c b s g k1 else (gtd Zp (YF c b s f g) (Int.toNat 0)).2)=_
  rw [QhH hgf,show Int.toNat 0=0 from rfl,QbA]
  cases hr:Y3 c s with
  | true=>rw [if_pos rfl];unfold J3;rw [if_pos (hr1 hr)]
  | false=>rw [if_neg (by simp)];show QaP c s _=_;unfold QaP;rw [hr,if_neg (by simp)]
 have hd:bwdD (st c b s k f g k1) 0 (prAt b g).2=(doS c b (s+1) g,Zn c s&&(Ze (outA c b g) (prAt b g).2).2):=by
  unfold bwdD
  rw [hrows]
  show (if Zn c s=true then Ze (gtd [] (rowS c b s g) (opS c s).length) (prAt b g).2 else (vG c b s g k1,false))=_
  cases hl:Zn c s with
  | true =>
   rw [if_pos rfl,QvN A.cuts hp hs',hlast hl,QgL A.cuts]
   show _=(dOut _ _ _ _,_)
   rw [QJm A.cuts,Bool.true_and]
  | false =>
   simp only [Zn,decide_eq_false_iff_not] at hl
   rw [if_neg (by simp),Bool.false_and]
   unfold vG
   rw [if_pos]
   cases hr:Y3 c s with
   | true=>exact .inr ⟨hr1 hr,by omega⟩
   | false=>exact .inl (hr2 hr (by omega))
 have hbk:J1 (st c b s k f g k1) 0 (prAt b g).2=true:=by
  unfold J1
  rw [hok,hrows,hd]
  simp only [Bool.and_eq_true,beq_iff_eq,decide_eq_true_eq]
  refine ⟨⟨⟨⟨trivial,by omega⟩,hrl⟩,?_⟩,?_⟩
  ·unfold Yg
   exact QeR _ _ _ _ (QwW A.cuts hp hs')
  ·show Qr (doS c b (s+1) g) (Q5 (opS c s))=true
   rw [ho];exact Qf2 A (by omega) hg
 have hback:QO (opS c s) (rowS c b s g) (doS c b (s+1) g)=bkS c b s g:=rfl
 have hbd:(bkS c b s g).2.1=doS c b s g:=(QUP A.cuts hs' _).symm
 have hadd:Z5 (sSum (st c b s k f g k1)) ((bkS c b s g).1,0,(Zn c s&&(Ze (outA c b g) (prAt b g).2).2)||(bkS c b s g).2.2)=(Qaw c b s (g+1),(if Zn c s then Jj c b f else 0),satV c b s f (g+1)):=by
  unfold Z5
  simp only
  have hl:Q7 (sSum (st c b s k f g k1)).2.1 0=((if Zn c s then Jj c b f else 0),false):=QWc (QH8 A s f)
  rw [hl]
  refine Prod.ext rfl (Prod.ext rfl ?_)
  show (satV c b s f g||((Zn c s&&(Ze (outA c b g) (prAt b g).2).2)||(bkS c b s g).2.2)||(ZC (Qaw c b s g) (bkS c b s g).1).2||false)=satV c b s f (g+1)
  unfold satV
  rw [List.range_succ,List.any_append]
  simp only [List.any_cons,List.any_nil,Bool.or_false]
  unfold Qgz
  cases (List.range f).any (Qgm c b s) <;> cases (List.range g).any (Qgz c b s) <;> cases (bkS c b s g).2.2 <;> cases (ZC (Qaw c b s g) (bkS c b s g).1).2 <;> simp
 have key:Zx (st c b s k f g k1) (g:Int) (prAt b g).2=((k:Int),Y4 c b s,opS c s,Zn c s,Y3 c s,YF c b s f (g+1),[],vX c b s f k1,vY c b s f k1,[],doS c b s g,Qaw c b s (g+1),(if Zn c s then Jj c b f else 0),satV c b s f (g+1)):=by
  unfold Zx
  simp only [hfind]
  rw [if_pos hbk,hrows,hd]
  simp only
  have e:sOps (st c b s k f g k1)=opS c s:=rfl
  rw [e,hback,hadd,hbd]
  have e2:(Qf (st c b s k f g k1)).take (Int.toNat 0)++(Qf (st c b s k f g k1)).drop (Int.toNat 0+1)=YF c b s f (g+1):=by
   show (YF c b s f g).take 0++(YF c b s f g).drop 1=_
   rw [QhH hgf];rfl
  rw [e2]
  rfl
 rw [key]
 have f1:vX c b s f k1=vX c b s f 6:=by unfold vX;rw [if_neg h1,if_neg (by decide)]
 have f2:vY c b s f k1=vY c b s f 6:=by unfold vY;rw [if_neg h2,if_neg (by rintro ⟨e,_⟩;exact absurd e (by decide))]
 have f3:vG c b s (g+1) 6=[]:=by unfold vG;rw [if_neg];rintro (e | e);exact absurd e (by decide);exact absurd e.1 (by decide)
 rw [f1,f2]
 by_cases h:s=0
 ·rw [if_pos h]
  simp only [YH,setX,setY,setG,setD,st,sPc,Qz,sOps,Qq,Qv,Qf,QD,sX,sY,sG,sD,QC,QB,sSat]
  have f4:vD c b s (g+1) 6=[]:=by unfold vD;rw [if_neg (by omega)]
  rw [f3,f4]
  rfl
 ·rw [if_neg h]
  simp only [YH,setX,setY,setG,setD,st,sPc,Qz,sOps,Qq,Qv,Qf,QD,sX,sY,sG,sD,QC,QB,sSat]
  have f4:vD c b s (g+1) 6=doS c b s g:=by unfold vD;rw [if_pos ⟨rfl,by omega⟩,Nat.add_sub_cancel]
  rw [f3,f4]
  rfl
end
end Go.Proofs.YtjbdljkhbglnhaaGreat.Am
namespace Go.Proofs.YtjbdljkhbglnhaaGreat.Am
open Go Sz
structure Loc (ds n M s:Int) (rd:Bool) (f g:Nat) (k1:Int) (i:TIns) (last:Bool):Prop where
 c0:g≤f∧(f:Int)≤M∧1≤i.1∧i.1≤8∧0≤i.2∧i.2<M∧(i.1=8↔last=true)∧i≠(0,0)
 c1:i.1=1→0<s∧i.2=f∧k1≠1
 c2:i.1=2→i.2=f∧(0<s→k1=1)
 c3:i.1=3→s<n-1∧i.2=(f:Int)-1∧k1=2
 c4:i.1=4→s<n-1∧i.2=g
 c5:i.1=5→rd=true∧i.2=g∧g<f∧(s<n-1→k1=4)
 c6:i.1=6→i.2=g∧g<f∧(rd=true→k1=5)∧(rd=false→s<n-1→k1=4)
 c7:i.1=7→0<s∧i.2=(g:Int)-1∧k1=6
 c8:i.1=8→(f:Int)=M∧(g:Int)=M∧k1≠0
 c9:k1=1→i.1=2
 c10:k1=2→s<n-1→i.1=3
 c11:k1=4→i.1=5∨i.1=6
 c12:k1=5→i.1=6
 c13:k1=6→0<s→i.1=7
 c14:k1=5→rd=true
 c15:k1=6→1≤g
 c16:k1=2→1≤f
 c17:k1≠8
 c18:k1=4→s<n-1
 c19:k1=1→0<s
 c20:k1=4∨k1=5→g<f
 c21:k1=1→(f:Int)<M
 c22:s<n-1→(scOf f k1:Int)<M→tm ds n M s i≤tm ds n M s (3,(scOf f k1:Int))
 c23:0<s→(rcOf f k1:Int)<M→tm ds n M s i≤tm ds n M s (1,(rcOf f k1:Int))
 c24:s<n-1→(rgOf n s g k1:Int)<M→tm ds n M s i≤tm ds n M s (4,(rgOf n s g k1:Int))
 c25:0<s→(sgQ g k1:Int)<M→tm ds n M s i≤tm ds n M s (7,(sgQ g k1:Int))
 c26:ds=2→(f:Int)-g≤n-s
 c27:ds=2→i.1=2→(f:Int)-g<n-s
theorem QKm {ds n M s:Int} {rd:Bool} {f g:Nat} {k1:Int} {i:TIns} {last:Bool} (h:Qh1 ds n M s rd f g k1 i last=true):Loc ds n M s rd f g k1 i last:=by
 simp only [Qh1,Bool.and_eq_true,decide_eq_true_eq] at h
 exact ⟨h.1.1.1.1.1.1.1.1.1.1.1.1.1.1.1.1.1.1.1.1.1.1.1.1.1.1.1,h.1.1.1.1.1.1.1.1.1.1.1.1.1.1.1.1.1.1.1.1.1.1.1.1.1.1.2,h.1.1.1.1.1.1.1.1.1.1.1.1.1.1.1.1.1.1.1.1.1.1.1.1.1.2,h.1.1.1.1.1.1.1.1.1.1.1.1.1.1.1.1.1.1.1.1.1.1.1.1.2,h.1.1.1.1.1.1.1.1.1.1.1.1.1.1.1.1.1.1.1.1.1.1.1.2,h.1.1.1.1.1.1.1.1.1.1.1.1.1.1.1.1.1.1.1.1.1.1.2,h.1.1.1.1.1.1.1.1.1.1.1.1.1.1.1.1.1.1.1.1.1.2,h.1.1.1.1.1.1.1.1.1.1.1.1.1.1.1.1.1.1.1.1.2,h.1.1.1.1.1.1.1.1.1.1.1.1.1.1.1.1.1.1.1.2,h.1.1.1.1.1.1.1.1.1.1.1.1.1.1.1.1.1.1.2,h.1.1.1.1.1.1.1.1.1.1.1.1.1.1.1.1.1.2,h.1.1.1.1.1.1.1.1.1.1.1.1.1.1.1.1.2,h.1.1.1.1.1.1.1.1.1.1.1.1.1.1.1.2,h.1.1.1.1.1.1.1.1.1.1.1.1.1.1.2,h.1.1.1.1.1.1.1.1.1.1.1.1.1.2,h.1.1.1.1.1.1.1.1.1.1.1.1.2,h.1.1.1.1.1.1.1.1.1.1.1.2,h.1.1.1.1.1.1.1.1.1.1.2,h.1.1.1.1.1.1.1.1.1.2,h.1.1.1.1.1.1.1.1.2,h.1.1.1.1.1.1.1.2,h.1.1.1.1.1.1.2,h.1.1.1.1.1.2,h.1.1.1.1.2,h.1.1.1.2,h.1.1.2,h.1.2,h.2⟩
section
variable (c:QM) (b:List Qy)
def lenP (s:Nat):Nat:=(Y4 c b s).length
def insP (s k:Nat):TIns:=gtd dIns (Y4 c b s) k
def F (s k:Nat):Nat:=cf ((Y4 c b s).take k)
def G (s k:Nat):Nat:=cg ((Y4 c b s).take k)
def K1 (s k:Nat):Int:=Jf (Y4 c b s) k
def sc (s k:Nat):Nat:=scOf (F c b s k) (K1 c b s k)
def rc (s k:Nat):Nat:=rcOf (F c b s k) (K1 c b s k)
def rg (s k:Nat):Nat:=rgOf (nSt c:Nat) (s:Int) (G c b s k) (K1 c b s k)
def sg (s k:Nat):Nat:=sgQ (G c b s k) (K1 c b s k)
def stAt (s k:Nat):Qc:=st c b s k (F c b s k) (G c b s k) (K1 c b s k)
abbrev J9 (s:Nat):Int:=gtd 0 (JK c) s
def aQ (ks:Nat→Nat) (s:Nat):Qd:=(J9 c s,(List.range' (rc c b (s+1) (ks (s+1))) (sc c b s (ks s)-rc c b (s+1) (ks (s+1)))).map fun j:Nat=>((j:Int),inS c b (s+1) j))
def bQ (ks:Nat→Nat) (s:Nat):Qd:=(J9 c s,(List.range' (rg c b s (ks s)) (sg c b (s+1) (ks (s+1))-rg c b s (ks s))).map fun j:Nat=>((j:Int),doS c b (s+1) j))
def Zo (ks:Nat→Nat):Qe :=
 (b,(List.range (nSt c)).map (fun s=>stAt c b s (ks s)),(List.range (nSt c-1)).map (aQ c b ks),(List.range (nSt c-1)).map (bQ c b ks))
end
section
variable {c:QM} {b:List Qy} (A:Adm c b)
include A
theorem Qhi:1≤nSt c∧nSt c≤4:=by have:=A.stages;simp only [nSt];omega
theorem QqX {s:Nat} (hs:s<nSt c):Qdo (cDs c) (nSt c:Nat) b.length s (Y3 c s) (Y4 c b s) 0 0 0=true:=by
 have h1:=Qhi A
 have h2:=Qdf A
 exact QVN (Y3 c s) A.ds.1 A.ds.2 (by omega) (by omega) (by omega) (by omega) (by omega)
theorem loc {s k:Nat} (hs:s<nSt c) (hk:k<lenP c b s):Loc (cDs c) (nSt c:Nat) b.length s (Y3 c s) (F c b s k) (G c b s k) (K1 c b s k) (insP c b s k) (decide (k+1=lenP c b s)):=by
 have h:=(Qn2 _ _ _ _ (QqX A hs) k (Nat.le_of_lt hk)).1 (insP c b s k) (YZ hk dIns)
 have e:(if k=0 then (0:Int) else Jf (Y4 c b s) k)=K1 c b s k:=by
  unfold K1 Jf;split <;> rfl
 rw [e,Nat.zero_add,Nat.zero_add] at h
 exact QKm h
theorem QyU {s:Nat} (hs:s<nSt c):F c b s (lenP c b s)=b.length∧G c b s (lenP c b s)=b.length∧K1 c b s (lenP c b s)=8:=by
 have h:=(Qn2 _ _ _ _ (QqX A hs) (lenP c b s) (Nat.le_refl _)).2 rfl
 have e:(if lenP c b s=0 then (0:Int) else Jf (Y4 c b s) (lenP c b s))=K1 c b s (lenP c b s):=by
  unfold K1 Jf;split <;> rfl
 rw [e,Nat.zero_add,Nat.zero_add] at h
 simp only [QnL,decide_eq_true_eq] at h
 unfold F G
 exact ⟨by omega,by omega,h.2.2⟩
theorem nums {s k:Nat} (hs:s<nSt c) (hk:k≤lenP c b s):Nums b.length (F c b s k) (G c b s k) (K1 c b s k):=by
 by_cases h:k<lenP c b s
 ·have L:=loc A hs h
  exact ⟨L.c0.1,by have:=L.c0.2.1;omega,fun e=>by have:=L.c21 e;omega,L.c16,L.c20,L.c15⟩
 ·have:k=lenP c b s:=by omega
  subst this
  obtain ⟨h1,h2,h3⟩:=QyU A hs
  rw [h1,h2,h3]
  exact ⟨Nat.le_refl _,Nat.le_refl _,(fun e=>by simp at e),(fun e=>by simp at e),(fun e=>by simp at e),(fun e=>by simp at e)⟩
omit A in
theorem Qtz {s k:Nat} (hk:k<lenP c b s):F c b s (k+1)=F c b s k+kf (insP c b s k)∧G c b s (k+1)=G c b s k+kg (insP c b s k)∧K1 c b s (k+1)=(insP c b s k).1:=by
 have h:(Y4 c b s)[k]? = some (insP c b s k):=YZ hk dIns
 have ht:(Y4 c b s).take (k+1)=(Y4 c b s).take k++[insP c b s k]:=by rw [List.take_add_one,h];rfl
 refine ⟨?_,?_,?_⟩
 ·unfold F cf;rw [ht];simp
 ·unfold G cg;rw [ht];simp
 ·unfold K1 Jf;rw [if_neg (by omega)];rfl
theorem Qqz {s k:Nat} (hs:s<nSt c) (hk:k<lenP c b s) :
  (s+1<nSt c→sc c b s (k+1)=sc c b s k+if (insP c b s k).1=3 then 1 else 0) ∧
  (0<s→rc c b s (k+1)=rc c b s k+if (insP c b s k).1=1 then 1 else 0) ∧
  (s+1<nSt c→rg c b s (k+1)=rg c b s k+if (insP c b s k).1=4 then 1 else 0) ∧
  (0<s→sg c b s (k+1)=sg c b s k+if (insP c b s k).1=7 then 1 else 0):=by
 have L:=loc A hs hk
 obtain ⟨e1,e2,e3⟩:=Qtz (c:=c) (b:=b) hk
 unfold sc rc rg sg
 rw [e1,e2,e3]
 generalize F c b s k=f at *
 generalize G c b s k=g at *
 generalize K1 c b s k=k1 at *
 generalize insP c b s k=i at *
 have hi:=L.c0
 have h6:i.1=6→(s:Int)<(nSt c:Nat)-1→k1=4∨k1=5:=fun e hlt=>by
  have h:=L.c6 e
  cases hr:Y3 c s with
  | true=>exact .inr (h.2.2.1 hr)
  | false=>exact .inl (h.2.2.2 hr hlt)
 have h1:=L.c1;have h2:=L.c2;have h3:=L.c3;have h4:=L.c4;have h5:=L.c5;have h7:=L.c7;have h9:=L.c9;have h10:=L.c10;have h11:=L.c11;have h12:=L.c12;have h13:=L.c13;have h15:=L.c15;have h16:=L.c16;have h18:=L.c18
 obtain ⟨i1,i2⟩:=i
 simp only at hi h1 h2 h3 h4 h5 h6 h7 h9 h10 h11 h12 h13
 unfold scOf rcOf rgOf sgQ kf kg
 simp only
 have hcase:i1=1∨i1=2∨i1=3∨i1=4∨i1=5∨i1=6∨i1=7∨i1=8:=by omega
 rcases hcase with rfl | rfl | rfl | rfl | rfl | rfl | rfl | rfl <;> simp at h1 h2 h3 h4 h5 h6 h7 h9 h10 h11 h12 h13 ⊢ <;> (refine ⟨?_,?_,?_,?_⟩ <;> intro hh <;> (repeat' split) <;> omega)
structure Ok (c:QM) (b:List Qy) (ks:Nat→Nat):Prop where
 le:∀ s,s<nSt c→ks s≤lenP c b s
 qa:∀ s,s+1<nSt c→rc c b (s+1) (ks (s+1))≤sc c b s (ks s)∧(sc c b s (ks s):Int)-rc c b (s+1) (ks (s+1))≤J9 c s
 qb:∀ s,s+1<nSt c→rg c b s (ks s)≤sg c b (s+1) (ks (s+1))∧(sg c b (s+1) (ks (s+1)):Int)-rg c b s (ks s)≤J9 c s
 fl:(∃ s,s<nSt c∧ks s=lenP c b s)→∀ s,s<nSt c→lenP c b s≤ks s+1
def En (c:QM) (b:List Qy) (ks:Nat→Nat) (s:Nat):Prop :=
 ks s<lenP c b s ∧
 ((insP c b s (ks s)).1=1→rc c b s (ks s)<sc c b (s-1) (ks (s-1))) ∧
 ((insP c b s (ks s)).1=3→(sc c b s (ks s):Int)-rc c b (s+1) (ks (s+1))<J9 c s) ∧
 ((insP c b s (ks s)).1=4→rg c b s (ks s)<sg c b (s+1) (ks (s+1))) ∧
 ((insP c b s (ks s)).1=7→(sg c b s (ks s):Int)-rg c b (s-1) (ks (s-1))<J9 c (s-1)) ∧
 ((insP c b s (ks s)).1=8→∀ j,j<nSt c→lenP c b j≤ks j+1)
theorem Qgv {s:Nat} (hs:s+1<nSt c):1≤J9 c s∧J9 c s≤5:=by
 have:=A.caps
 simp only [Qaj,Bool.and_eq_true,beq_iff_eq] at this
 have hl:s<(JK c).length:=by simp only [nSt] at hs;have:=this.1;simp only [JK,Zv] at *;omega
 have:=List.all_eq_true.1 this.2 _ (Jb hl 0)
 exact QP.1 this
theorem QhO:(JK c).length=nSt c-1:=by
 have:=A.caps
 simp only [Qaj,Bool.and_eq_true,beq_iff_eq] at this
 have:=this.1;simp only [nSt,JK,Zv] at *;omega
end
end Go.Proofs.YtjbdljkhbglnhaaGreat.Am

