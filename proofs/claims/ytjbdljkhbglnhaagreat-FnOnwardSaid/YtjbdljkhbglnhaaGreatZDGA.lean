/- -/
import Derived.Test.YtjbdljkhbglnhaaGreatZDG8
set_option linter.all false
namespace Go.Proofs.YtjbdljkhbglnhaaGreat.Am
open Go Sz
def Zz (m:Zf) (cuts:List Int) (s:Nat):Nat:=if s=0 then 0 else if s≤cuts.length then (gtd 0 cuts (s-1)).toNat else m.length
def Yt (m:Zf) (cuts:List Int) (s:Nat):List TOp':=(m.drop (Zz m cuts s)).take (Zz m cuts (s+1)-Zz m cuts s)
section
variable {m:Zf} {cuts:List Int} (hc:ZJ m cuts=true)
include hc
theorem Qi8 {s:Nat} (hs:s≤cuts.length):Zz m cuts s<Zz m cuts (s+1):=by
 have hl:=Qa8 hc
 have hg:YB (m.length-1) none cuts=true:=by have:=hc;simp only [ZJ,Bool.and_eq_true] at this;exact this.2
 have h1:∀ k:Nat,k<cuts.length→1≤gtd 0 cuts k∧gtd 0 cuts k≤(m.length:Int)-1:=fun k hk=>by
  have:=QdA hg k _ (Y3 hk 0);omega
 have h2:∀ k:Nat,k+1<cuts.length→gtd 0 cuts k<gtd 0 cuts (k+1):=fun k hk=>QkQ hg k _ _ (Y3 (by omega) 0) (Y3 hk 0)
 unfold Zz
 rw [if_neg (Nat.succ_ne_zero s)]
 by_cases h0:s=0
 ·subst h0
  rw [if_pos rfl]
  split
  ·have:=h1 0 (by omega);simp;omega
  ·omega
 ·rw [if_neg h0,if_pos hs]
  have h3:=h1 (s-1) (by omega)
  split
  ·have h4:=h2 (s-1) (by omega)
   rw [show s-1+1=s by omega] at h4
   rw [show s+1-1=s by omega]
   omega
  ·omega
theorem Qrx {s:Nat}:Zz m cuts s≤m.length:=by
 have hl:=Qa8 hc
 have hg:YB (m.length-1) none cuts=true:=by have:=hc;simp only [ZJ,Bool.and_eq_true] at this;exact this.2
 unfold Zz
 split
 ·omega
 ·split
  ·have:=QdA hg (s-1) _ (Y3 (by omega) 0);omega
  ·omega
theorem QkE:Zz m cuts (cuts.length+1)=m.length:=by have _:=hc;unfold Zz;rw [if_neg (by omega),if_neg (by omega)]
theorem QOR {s:Nat} (hs:s≤cuts.length):QW m cuts (s:Int)=((Zz m cuts s:Int),(Zz m cuts (s+1):Int)):=by
 have hl:=Qa8 hc
 have hg:YB (m.length-1) none cuts=true:=by have:=hc;simp only [ZJ,Bool.and_eq_true] at this;exact this.2
 have h1:∀ k:Nat,k<cuts.length→1≤gtd 0 cuts k∧gtd 0 cuts k≤(m.length:Int)-1:=fun k hk=>by
  have:=QdA hg k _ (Y3 hk 0);omega
 unfold QW
 rw [if_pos (by rw [hc,Bool.true_and,QS];omega)]
 unfold Zz
 refine Prod.ext ?_ ?_
 ·dsimp only
  by_cases h0:s=0
  ·subst h0;simp
  ·rw [if_pos (by omega),if_neg h0,if_pos hs,Int.toNat_natCast]
   have:=h1 (s-1) (by omega);omega
 ·dsimp only
  rw [if_neg (Nat.succ_ne_zero s)]
  by_cases h2:s<cuts.length
  ·rw [if_pos (by omega),if_pos (by omega),Int.toNat_natCast,show s+1-1=s by omega]
   have:=h1 s h2;omega
  ·rw [if_neg (by omega),if_neg (by omega)]
theorem QQk {s:Nat} (hs:s≤cuts.length):slice m (QW m cuts (s:Int)).1 (QW m cuts (s:Int)).2=Yt m cuts s:=by
 rw [QOR hc hs];simp [slice,Yt]
theorem QMV {s:Nat} (hs:s≤cuts.length):(Yt m cuts s).length=Zz m cuts (s+1)-Zz m cuts s:=by
 have:=Qrx hc (s:=s+1)
 have:=Qi8 hc hs
 unfold Yt;simp;omega
theorem QiQ {s:Nat} (hs:s≤cuts.length):1≤(Yt m cuts s).length∧(Yt m cuts s).length≤8:=by
 rw [QMV hc hs]
 have:=Qrx hc (s:=s+1)
 have:=Qi8 hc hs
 have:=(Qa8 hc).2.1
 omega
theorem QNk {s:Nat} (hs:s≤cuts.length):m.take (Zz m cuts (s+1))=m.take (Zz m cuts s)++Yt m cuts s:=by
 have:=Qi8 hc hs
 unfold Yt
 rw [← List.take_add,show Zz m cuts s+(Zz m cuts (s+1)-Zz m cuts s)=Zz m cuts (s+1) by omega]
theorem Qhq {s:Nat} (hs:s≤cuts.length):m.drop (Zz m cuts s)=Yt m cuts s++m.drop (Zz m cuts (s+1)):=by
 have:=Qi8 hc hs
 unfold Yt
 have h:=List.take_append_drop (Zz m cuts (s+1)-Zz m cuts s) (m.drop (Zz m cuts s))
 rw [List.drop_drop,show Zz m cuts s+(Zz m cuts (s+1)-Zz m cuts s)=Zz m cuts (s+1) by omega] at h
 exact h.symm
end
def inp (m:Zf) (cuts:List Int) (x:List Int) (s:Nat):List Int:=Z8 (m.take (Zz m cuts s)) x
def QbY (m:Zf) (cuts:List Int) (x:List Int) (s:Nat):List (List Int):=(QG (Yt m cuts s) (inp m cuts x s)).1
def fsat (m:Zf) (cuts:List Int) (x:List Int) (s:Nat):Bool:=(QG (Yt m cuts s) (inp m cuts x s)).2
def Qdq (m:Zf) (cuts:List Int) (p:Qr) (s:Nat):List (List Int) × List Int × Bool :=
 QP (m.drop (Zz m cuts s)) (QG (m.drop (Zz m cuts s)) (inp m cuts p.1 s)).1 (Zg (Z8 m p.1) p.2).1
def dOut (m:Zf) (cuts:List Int) (p:Qr) (s:Nat):List Int:=(Qdq m cuts p s).2.1
def Qce (m:Zf) (cuts:List Int) (p:Qr) (s:Nat):List (List Int) × List Int × Bool:=QP (Yt m cuts s) (QbY m cuts p.1 s) (dOut m cuts p (s+1))
section
variable {m:Zf} {cuts:List Int} (hc:ZJ m cuts=true)
include hc
theorem QMC (x:List Int):inp m cuts x 0=x:=by have _:=hc;unfold inp Zz;simp [Qhy]
theorem Qkn (x:List Int):inp m cuts x (cuts.length+1)=Z8 m x:=by unfold inp;rw [QkE hc,List.take_length]
theorem QCH {s:Nat} (hs:s≤cuts.length) (x:List Int):inp m cuts x (s+1)=Z8 (Yt m cuts s) (inp m cuts x s):=by
 unfold inp;rw [QNk hc hs,QUg]
theorem QF9 {s:Nat} (hs:s≤cuts.length) (p:Qr) :
  Qdq m cuts p s=((Qce m cuts p s).1++(Qdq m cuts p (s+1)).1,(Qce m cuts p s).2.1,(Qce m cuts p s).2.2||(Qdq m cuts p (s+1)).2.2):=by
 unfold Qce QbY dOut
 have e:=QCH hc hs p.1
 conv=>lhs;unfold Qdq
 rw [Qhq hc hs,QJC]
 unfold Qdq
 rw [e]
theorem QWJ {s:Nat} (hs:s≤cuts.length) (p:Qr):dOut m cuts p s=(Qce m cuts p s).2.1:=by unfold dOut;rw [QF9 hc hs]
theorem QWf (p:Qr):dOut m cuts p (cuts.length+1)=(Zg (Z8 m p.1) p.2).1:=by
 unfold dOut Qdq
 rw [QkE hc,List.drop_length]
 simp [QP]
end
end Go.Proofs.YtjbdljkhbglnhaaGreat.Am
namespace Go.Proofs.YtjbdljkhbglnhaaGreat.Am
open Go Sz
structure Adm (c:QM) (b:List Qr):Prop where
 model:QU (Yc c)=true
 batch:YY (Yc c) b=true
 cuts:ZJ (Yc c) (ZH c)=true
 stages:(ZH c).length+1≤4
 ds:1≤cDs c∧cDs c≤2
 redo:(Qau c).length=(ZH c).length+1
 caps:Qap c=true
 limits:Qck c b.length=true
theorem Qo1 {c:QM} {b:List Qr} (h:Z5 c b=0):Adm c b:=by
 unfold Z5 at h
 have hs:=Qfe (c:=c)
 split at h
 ·simp at h
 split at h
 ·simp at h
 split at h
 ·simp at h
 split at h
 ·simp at h
 split at h
 ·simp at h
 split at h
 ·simp at h
 split at h
 ·simp at h
 rename_i h1 h2 h3 h4 h5 h6 h7
 have hc:=hs.2.2.1.1 (by omega)
 have e:=hs.2.2.2 hc
 have h4':m_in (cDs c) 1 2=true:=by simpa using h4
 exact ⟨by simpa using h1,by simpa using h2,hc,by have:=e;simp only [ZH];omega,QS.1 h4',by have:=e;simp only [ZH,Qau];omega,by simpa using h6,by simpa using h7⟩
theorem QGu {c:QM} {b:List Qr} (A:Adm c b):Z5 c b=0:=by
 have hs:=Qfe (c:=c)
 have e:=hs.2.2.2 A.cuts
 have h4:=A.stages
 have hr:=A.redo
 simp only [ZH,Qau] at h4 hr
 unfold Z5
 rw [if_neg (by simp [A.model]),if_neg (by simp [A.batch]),if_neg (by omega),if_neg (by have:=QS.2 A.ds;simp [this]),if_neg (by simp;omega),if_neg (by simp [A.caps]),if_neg (by simp [A.limits])]
def nSt (c:QM):Nat:=(ZH c).length+1
abbrev prAt (b:List Qr) (k:Nat):Qr:=gtd QY b k
def dimI (m:Zf) (cuts:List Int) (s:Nat):Int:=if s≤cuts.length then Q6 (Yt m cuts s) else Q5 m
section
variable {m:Zf} {cuts:List Int} (hc:ZJ m cuts=true)
include hc
theorem QJO:QU m=true:=by have:=hc;simp only [ZJ,Bool.and_eq_true] at this;exact this.1
theorem QjI {s:Nat} (hs:s≤cuts.length+1):Yd (Q6 m) (m.take (Zz m cuts s)) (dimI m cuts s)∧Yd (dimI m cuts s) (m.drop (Zz m cuts s)) (Q5 m):=by
 obtain ⟨_,_,h⟩:=QXq (QJO hc)
 have h':=h
 rw [← List.take_append_drop (Zz m cuts s) m] at h'
 have h'':Yd (Q6 m) (m.take (Zz m cuts s)++m.drop (Zz m cuts s)) (Q5 m):=by rw [List.take_append_drop];exact h
 obtain ⟨k,h1,h2⟩:=Yd.append.1 h''
 have hk:k=dimI m cuts s:=by
  unfold dimI
  by_cases h3:s≤cuts.length
  ·rw [if_pos h3]
   rw [Qhq hc h3] at h2
   obtain ⟨k2,h4,h5⟩:=Yd.append.1 h2
   have hp:=QiQ hc h3
   exact (QjT h4 hp.1 hp.2).2.1.symm
  ·have es:s=cuts.length+1:=by omega
   subst es
   rw [QkE hc,List.drop_length] at h2
   rw [if_neg h3]
   exact h2
 rw [← hk]
 exact ⟨h1,h2⟩
theorem QmB {s:Nat} (hs:s≤cuts.length):Yd (dimI m cuts s) (Yt m cuts s) (dimI m cuts (s+1)):=by
 obtain ⟨_,h2⟩:=QjI hc (s:=s) (by omega)
 rw [Qhq hc hs] at h2
 obtain ⟨k2,h4,h5⟩:=Yd.append.1 h2
 have:k2=dimI m cuts (s+1):=by
  obtain ⟨h6,h7⟩:=QjI hc (s:=s+1) (by omega)
  by_cases h8:s+1≤cuts.length
  ·have hp:=QiQ hc h8
   rw [Qhq hc h8] at h5
   obtain ⟨k3,h9,_⟩:=Yd.append.1 h5
   unfold dimI
   rw [if_pos h8]
   exact (QjT h9 hp.1 hp.2).2.1.symm
  ·rw [show s+1=cuts.length+1 by omega,QkE hc,List.drop_length] at h5
   unfold dimI
   rw [if_neg h8]
   exact h5
 rw [← this]
 exact h4
theorem QXh {s:Nat} (hs:s≤cuts.length):QU (Yt m cuts s)=true∧Q6 (Yt m cuts s)=dimI m cuts s∧Q5 (Yt m cuts s)=dimI m cuts (s+1):=by
 have hp:=QiQ hc hs
 exact QjT (QmB hc hs) hp.1 hp.2
theorem QCF:dimI m cuts (cuts.length+1)=Q5 m:=by have _:=hc;unfold dimI;rw [if_neg (by omega)]
variable {p:Qr} (hp:Qan m p=true)
include hp
theorem Qpn:Qq p.1 (Q6 m)=true∧Qq p.2 (Q5 m)=true:=by
 have _:=hc
 simp only [Qan,Bool.and_eq_true] at hp;exact ⟨hp.1.2,hp.2⟩
theorem Qf7 {s:Nat} (hs:s≤cuts.length+1):Qq (inp m cuts p.1 s) (dimI m cuts s)=true:=QDP (QjI hc hs).1 (Qpn hc hp).1
theorem QVR:Qq (Z8 m p.1) (Q5 m)=true:=by
 have:=Qf7 hc hp (s:=cuts.length+1) (by omega)
 rwa [Qkn hc,QCF hc] at this
theorem QMd:Qq (Zg (Z8 m p.1) p.2).1 (Q5 m)=true:=by
 have h1:=QVR hc hp
 have h2:=(Qpn hc hp).2
 have:=QSC (Qpi h1 h2)
 rwa [(YW.1 h1).2] at this
theorem QzF {s:Nat} (hs:s≤cuts.length+1):Qq (dOut m cuts p s) (dimI m cuts s)=true:=(QoK (QjI hc hs).2 (Qf7 hc hp hs) (QMd hc hp)).1
theorem QR4 {s:Nat} (hs:s≤cuts.length):Z1 (Yt m cuts s) (Qce m cuts p s).1=true∧(Qce m cuts p s).1.length=(Yt m cuts s).length :=
 ⟨(QoK (QmB hc hs) (Qf7 hc hp (by omega)) (QzF hc hp (by omega))).2,Qi9 _ _ _ (by unfold QbY;rw [Qda];omega)⟩
theorem QDR {s:Nat} (hs:s≤cuts.length):Yi (Yt m cuts s) 0 (QbY m cuts p.1 s)=true :=
 QNJ (QmB hc hs) (by have:=QiQ hc hs;intro e;rw [e] at this;simp at this) (Qf7 hc hp (by omega))
theorem Qqb {s:Nat}:(QbY m cuts p.1 s).length=(Yt m cuts s).length+1:=by have _:=hc;have _:=hp;exact Qda _ _
theorem QUk {s:Nat}:gtd [] (QbY m cuts p.1 s) 0=inp m cuts p.1 s:=by have _:=hc;have _:=hp;exact QYV _ _
theorem QvO {s:Nat} (hs:s≤cuts.length):gtd [] (QbY m cuts p.1 s) (Yt m cuts s).length=inp m cuts p.1 (s+1):=by have _:=hp;rw [QCH hc hs];rfl
end
end Go.Proofs.YtjbdljkhbglnhaaGreat.Am
namespace Go.Proofs.YtjbdljkhbglnhaaGreat.Am
open Go Sz
section
variable (c:QM) (b:List Qr)
def YU (s:Nat):Bool:=gtd false (Qau c) s
def YS (s:Nat):List TIns:=Yr (cDs c) (nSt c:Nat) s b.length (YU c s)
abbrev opS (s:Nat):List TOp':=Yt (Yc c) (ZH c) s
abbrev inS (s j:Nat):List Int:=inp (Yc c) (ZH c) (prAt b j).1 s
abbrev rowS (s j:Nat):List (List Int):=QbY (Yc c) (ZH c) (prAt b j).1 s
abbrev doS (s j:Nat):List Int:=dOut (Yc c) (ZH c) (prAt b j) s
abbrev bkS (s j:Nat):=Qce (Yc c) (ZH c) (prAt b j) s
abbrev outA (j:Nat):List Int:=Z8 (Yc c) (prAt b j).1
def Zq (s:Nat):Bool:=decide (s+1=nSt c)
def QaC (s:Nat) (r:List (List Int)):List (List Int):=if YU c s then r.take 1 else r
def Qal (s:Nat):Nat→List (List Int)
 | 0=>(Yy (opS c s)).1
 | g+1=>(ZB (Qal s g) (bkS c b s g).1).1
def Jh:Nat→Int
 | 0=>0
 | f+1=>(Q4 (Jh f) (Z4 (outA c b f) (prAt b f).2).1).1
def lsat (f:Nat):Bool:=(Z4 (outA c b f) (prAt b f).2).2||(Q4 (Jh c b f) (Z4 (outA c b f) (prAt b f).2).1).2
def Qfh (s j:Nat):Bool:=fsat (Yc c) (ZH c) (prAt b j).1 s||(Zq c s&&lsat c b j)
def Qjg (s j:Nat):Bool:=(bkS c b s j).2.2||(ZB (Qal c b s j) (bkS c b s j).1).2||(Zq c s&&(Zg (outA c b j) (prAt b j).2).2)
def satV (s f g:Nat):Bool:=(List.range f).any (Qfh c b s)||(List.range g).any (Qjg c b s)
def YF (s f g:Nat):List ZF:=(List.range' g (f-g)).map fun j:Nat=>((j:Int),QaC c s (rowS c b s j))
def J1 (s g:Nat) (k1:Int):List (List Int):=if k1=5 then rowS c b s g else []
def vX (s f:Nat) (k1:Int):List Int:=if k1=1 then inS c b s f else []
def vY (s f:Nat) (k1:Int):List Int:=if k1=2∧s+1<nSt c then inS c b (s+1) (f-1) else []
def vG (s g:Nat) (k1:Int):List Int:=if k1=4∨(k1=5∧s+1<nSt c) then doS c b (s+1) g else []
def vD (s g:Nat) (k1:Int):List Int:=if k1=6∧0<s then doS c b s (g-1) else []
def st (s:Nat) (k f g:Nat) (k1:Int):Qc :=
 ((k:Int),YS c b s,opS c s,Zq c s,YU c s,YF c b s f g,J1 c b s g k1,vX c b s f k1,vY c b s f k1,vG c b s g k1,vD c b s g k1,Qal c b s g,(if Zq c s then Jh c b f else 0),satV c b s f g)
end
structure Nums (M f g:Nat) (kk:Int):Prop where
 gf:g≤f
 fM:f≤M
 k1:kk=1→f<M
 k2:kk=2→1≤f
 k45:kk=4∨kk=5→g<f
 k6:kk=6→1≤g
theorem Qub:∀ {l:List ZF} {m k:Int},(∀ x,x∈l→x.1≠m)→Jx l m k = -1
 | [],m,k,h=>rfl
 | x::r,m,k,h=>by rw [Jx,if_neg (h x List.mem_cons_self)];exact Qub (fun y hy=>h y (List.mem_cons_of_mem _ hy))
theorem QGR {c:QM} {b:List Qr} {s f g:Nat}:QL (YF c b s f g) (f:Int) = -1:=by
 refine Qub (fun x hx=>?_)
 unfold YF at hx
 obtain ⟨j,hj,rfl⟩:=List.mem_map.1 hx
 rw [List.mem_range'_1] at hj
 simp only [ne_eq];omega
theorem Qg5 {c:QM} {b:List Qr} {s f g:Nat} (h:g<f):YF c b s f g=((g:Int),QaC c s (rowS c b s g))::YF c b s f (g+1):=by
 unfold YF
 rw [show f-g=(f-(g+1))+1 by omega,List.range'_succ,List.map_cons]
theorem QUb {c:QM} {b:List Qr} {s f g:Nat} (h:g≤f):YF c b s (f+1) g=YF c b s f g++[((f:Int),QaC c s (rowS c b s f))]:=by
 unfold YF
 rw [show f+1-g=(f-g)+1 by omega,List.range'_concat,List.map_append]
 simp only [List.map_cons,List.map_nil,Nat.one_mul]
 rw [show g+(f-g)=f by omega]
theorem Quk {c:QM} {b:List Qr} {s f g:Nat} (h:g<f):QL (YF c b s f g) (g:Int)=0:=by
 rw [Qg5 h];unfold QL;rw [Jx,if_pos rfl]
theorem QaQ {c:QM} {b:List Qr} {s g:Nat} {k1:Int} (h:k1≠5):J1 c b s g k1=[]:=by unfold J1;rw [if_neg h]
theorem QaN {c:QM} {b:List Qr} {s f:Nat} {k1:Int} (h:k1≠1):vX c b s f k1=[]:=by unfold vX;rw [if_neg h]
theorem Qak {c:QM} {b:List Qr} {s f:Nat} {k1:Int} (h:¬ (k1=2∧s+1<nSt c)):vY c b s f k1=[]:=by unfold vY;rw [if_neg h]
theorem QbX {c:QM} {b:List Qr} {s g:Nat} {k1:Int} (h4:k1≠4) (h5:k1≠5):vG c b s g k1=[]:=by
 unfold vG;rw [if_neg];rintro (e | e)
 ·exact h4 e
 ·exact h5 e.1
theorem Qay {c:QM} {b:List Qr} {s g:Nat} {k1:Int} (h:¬ (k1=6∧0<s)):vD c b s g k1=[]:=by unfold vD;rw [if_neg h]
theorem JG {p:Prop} {x y:Int} (h:x≠y):¬ (x=y∧p):=fun e=>h e.1
theorem QQj {c:QM} {b:List Qr} {s f:Nat}:vX c b s f 1=inS c b s f:=by unfold vX;rw [if_pos rfl]
theorem QMs {c:QM} {b:List Qr} {s g:Nat}:vG c b s g 4=doS c b (s+1) g:=by unfold vG;rw [if_pos (.inl rfl)]
section
variable {c:QM} {b:List Qr} (A:Adm c b)
include A
theorem Qa5:1≤b.length∧b.length≤5:=by
 have:=A.batch;simp only [YY,Bool.and_eq_true,QS] at this;omega
theorem Qa9 {j:Nat} (hj:j<b.length):Qan (Yc c) (prAt b j)=true:=by
 have:=A.batch;simp only [YY,Bool.and_eq_true] at this
 exact List.all_eq_true.1 this.2 _ (Jc hj QY)
theorem QRi (f:Nat):Zb (Jh c b f)=true:=by
 have _:=A
 cases f with
 | zero=>rfl
 | succ f=>exact Qmp _ _
theorem QLv (s f:Nat):Zb (if Zq c s then Jh c b f else 0)=true:=by
 split
 ·exact QRi A f
 ·rfl
theorem QfY {s:Nat} (hs:s<nSt c):QU (opS c s)=true∧Q6 (opS c s)=dimI (Yc c) (ZH c) s∧Q5 (opS c s)=dimI (Yc c) (ZH c) (s+1):=QXh A.cuts (by simp only [nSt] at hs;omega)
theorem QHh {s:Nat} (hs:s<nSt c):(Yy (opS c s)).1.length=(opS c s).length∧Z1 (opS c s) (Yy (opS c s)).1=true:=by
 unfold Yy
 rw [if_pos (QfY A hs).1]
 simp only [List.length_map,true_and]
 generalize opS c s=l
 induction l with
 | nil=>rfl
 | cons o l ih=>simp [Z1,ih]
theorem QH0 {s j:Nat} (hs:s<nSt c) (hj:j<b.length):(bkS c b s j).1.length=(opS c s).length∧Z1 (opS c s) (bkS c b s j).1=true:=by
 have:=QR4 A.cuts (Qa9 A hj) (s:=s) (by simp only [nSt] at hs;omega)
 exact ⟨this.2,this.1⟩
theorem Qtv {s:Nat} (hs:s<nSt c):∀ {g:Nat},g≤b.length→(Qal c b s g).length=(opS c s).length∧Z1 (opS c s) (Qal c b s g)=true
 | 0,_=>QHh A hs
 | g+1,hg=>by
  obtain ⟨h1,h2⟩:=Qtv hs (g:=g) (by omega)
  obtain ⟨h3,h4⟩:=QH0 A hs (j:=g) (by omega)
  refine ⟨?_,Qq5 h1 h3 h2 h4⟩
  show (ZB _ _).1.length=_
  rw [QA5];omega
theorem Qf5 {s j:Nat} (hs:s≤nSt c) (hj:j<b.length):Qq (inS c b s j) (dimI (Yc c) (ZH c) s)=true:=Qf7 A.cuts (Qa9 A hj) hs
theorem QfI {s j:Nat} (hs:s≤nSt c) (hj:j<b.length):Qq (doS c b s j) (dimI (Yc c) (ZH c) s)=true:=QzF A.cuts (Qa9 A hj) hs
theorem QiS {s k f g:Nat} {k1:Int} (hs:s<nSt c) (hk:k≤(YS c b s).length) (H:Nums b.length f g k1):QQ (st c b s k f g k1)=true:=by
 obtain ⟨hm,hi,ho⟩:=QfY A hs
 have hs':s≤(ZH c).length:=by simp only [nSt] at hs;omega
 have hsr:=Qtv A hs (g:=g) (by have:=H.gf;have:=H.fM;omega)
 have hX:Yh (vX c b s f k1) (Q6 (opS c s))=true:=by
  unfold vX Yh;split
  ·rename_i h;rw [hi,Qf5 A (by omega) (H.k1 h)];simp
  ·simp
 have hY:Yh (vY c b s f k1) (Q5 (opS c s))=true:=by
  unfold vY Yh;split
  ·rename_i h;rw [ho,Qf5 A (by omega) (by have:=H.k2 h.1;have:=H.fM;omega)];simp
  ·simp
 have hG:Yh (vG c b s g k1) (Q5 (opS c s))=true:=by
  unfold vG Yh;split
  ·rename_i h
   have:g<f:=H.k45 (h.imp id (fun h=>h.1))
   rw [ho,QfI A (by omega) (by have:=H.fM;omega)];simp
  ·simp
 have hD:Yh (vD c b s g k1) (Q6 (opS c s))=true:=by
  unfold vD Yh;split
  ·rename_i h;rw [hi,QfI A (by omega) (by have:=H.k6 h.1;have:=H.gf;have:=H.fM;omega)];simp
  ·simp
 have hst:(YF c b s f g).all (YO (st c b s k f g k1))=true:=by
  rw [List.all_eq_true]
  intro x hx
  unfold YF at hx
  obtain ⟨j,hj,rfl⟩:=List.mem_map.1 hx
  rw [List.mem_range'_1] at hj
  have hjb:j<b.length:=by have:=H.fM;omega
  have hg:=QDR A.cuts (Qa9 A hjb) hs'
  have hl:(rowS c b s j).length=(opS c s).length+1:=Qqb A.cuts (Qa9 A hjb)
  have ek:Z7 (st c b s k f g k1)=if YU c s=true then 1 else ((opS c s).length:Int)+1:=rfl
  have eo:(st c b s k f g k1).2.2.1=opS c s:=rfl
  unfold YO Yp
  rw [ek,eo]
  simp only [Bool.and_eq_true,beq_iff_eq]
  unfold QaC
  by_cases hr:YU c s=true
  ·simp only [if_pos hr]
   refine ⟨by rw [List.length_take,hl,Nat.min_eq_left (by omega)];rfl,?_⟩
   exact QfT _ _ _ _ (QfT _ _ _ _ hg)
  ·simp only [if_neg hr]
   exact ⟨congrArg Int.ofNat hl,QfT _ _ _ _ hg⟩
 simp only [QQ,Bool.and_eq_true]
 refine ⟨⟨⟨⟨hm,?_⟩,?_⟩,hst⟩,⟨⟨hX,hD⟩,hY⟩,hG⟩
 ·simp only [st,QS];omega
 ·simp only [st,Ji,Bool.and_eq_true,beq_iff_eq];exact hsr
theorem QNb {s k f g:Nat} {k1:Int} (h2:¬ (k1=2∧s+1<nSt c)) (h4:k1≠4) (h5:k1≠5) (h6:¬ (k1=6∧0<s)) :
  YI (setX (st c b s k f g k1) (inS c b s f)) ((k:Int)+1)=st c b s (k+1) f g 1:=by
 have _:=A
 simp only [YI,setX,setY,setG,setD,st,sPc,QA,sOps,Qs,Qx,Qf,QF,sX,sY,sG,sD,QD,QB,sSat]
 rw [QaQ h5,Qak h2,QbX h4 h5,Qay h6,QaQ (k1:=1) (by decide),QQj,Qak (k1:=1) (JG (by decide)),QbX (k1:=1) (by decide) (by decide),Qay (k1:=1) (JG (by decide))]
 rfl
theorem QU8 {s k f g:Nat} {k1:Int} (h1:k1=2):YI (setY (st c b s k f g k1) []) ((k:Int)+1)=st c b s (k+1) f g 3:=by
 have _:=A
 subst h1
 simp only [YI,setX,setY,setG,setD,st,sPc,QA,sOps,Qs,Qx,Qf,QF,sX,sY,sG,sD,QD,QB,sSat]
 rw [QaQ (k1:=2) (by decide),QaN (k1:=2) (by decide),QbX (k1:=2) (by decide) (by decide),Qay (k1:=2) (JG (by decide)),QaQ (k1:=3) (by decide),QaN (k1:=3) (by decide),Qak (k1:=3) (JG (by decide)),QbX (k1:=3) (by decide) (by decide),Qay (k1:=3) (JG (by decide))]
 rfl
theorem QMl {s k f g:Nat} {k1:Int} (h1:k1≠1) (h2:¬ (k1=2∧s+1<nSt c)) (h5:k1≠5) (h6:¬ (k1=6∧0<s)) :
  YI (setG (st c b s k f g k1) (doS c b (s+1) g)) ((k:Int)+1)=st c b s (k+1) f g 4:=by
 have _:=A
 simp only [YI,setX,setY,setG,setD,st,sPc,QA,sOps,Qs,Qx,Qf,QF,sX,sY,sG,sD,QD,QB,sSat]
 rw [QaQ h5,QaN h1,Qak h2,Qay h6,QaQ (k1:=4) (by decide),QaN (k1:=4) (by decide),Qak (k1:=4) (JG (by decide)),QMs,Qay (k1:=4) (JG (by decide))]
 rfl
theorem QMS {s k f g:Nat} {k1:Int} (h1:k1=6):YI (setD (st c b s k f g k1) []) ((k:Int)+1)=st c b s (k+1) f g 7:=by
 have _:=A
 subst h1
 simp only [YI,setX,setY,setG,setD,st,sPc,QA,sOps,Qs,Qx,Qf,QF,sX,sY,sG,sD,QD,QB,sSat]
 rw [QaQ (k1:=6) (by decide),QaN (k1:=6) (by decide),Qak (k1:=6) (JG (by decide)),QbX (k1:=6) (by decide) (by decide),QaQ (k1:=7) (by decide),QaN (k1:=7) (by decide),Qak (k1:=7) (JG (by decide)),QbX (k1:=7) (by decide) (by decide),Qay (k1:=7) (JG (by decide))]
 rfl
theorem QHM {s k f g:Nat} {k1:Int} (h1:k1≠1) (h2:¬ (k1=2∧s+1<nSt c)) (h4:k1≠4) (h5:k1≠5) (h6:¬ (k1=6∧0<s)):YI (st c b s k f g k1) ((k:Int)+1)=st c b s (k+1) f g 8:=by
 have _:=A
 simp only [YI,setX,setY,setG,setD,st,sPc,QA,sOps,Qs,Qx,Qf,QF,sX,sY,sG,sD,QD,QB,sSat]
 rw [QaQ h5,QaN h1,Qak h2,QbX h4 h5,Qay h6,QaQ (k1:=8) (by decide),QaN (k1:=8) (by decide),Qak (k1:=8) (JG (by decide)),QbX (k1:=8) (by decide) (by decide),Qay (k1:=8) (JG (by decide))]
 rfl
theorem QZr {s k f g:Nat} {k1:Int} (hs:s<nSt c) (hk:k≤(YS c b s).length) (H:Nums b.length f g k1) (hr:YU c s=true) (hgf:g<f) (h1:k1≠1) (h2:¬ (k1=2∧s+1<nSt c)) (h4:k1=4↔s+1<nSt c) (h5:k1≠5) (h6:¬ (k1=6∧0<s)) :
  YI (YQ (st c b s k f g k1) (g:Int)) ((k:Int)+1)=st c b s (k+1) f g 5:=by
 have hok:=QiS A hs hk H
 have hjb:g<b.length:=by have:=H.fM;omega
 have hf:QL (Qf (st c b s k f g k1)) (g:Int)=0:=Quk hgf
 have hrow:gtd [] (gtd Zs (Qf (st c b s k f g k1)) 0).2 0=inS c b s g:=by
  show gtd [] (gtd Zs (YF c b s f g) 0).2 0=_
  rw [Qg5 hgf,QbE]
  have hh:gtd [] (rowS c b s g) 0=inS c b s g:=QUk A.cuts (Qa9 A hjb) (s:=s)
  have hl:(rowS c b s g).length=(opS c s).length+1:=Qqb A.cuts (Qa9 A hjb) (s:=s)
  show gtd [] (QaC c s (rowS c b s g)) 0=_
  unfold QaC
  rw [hr,if_pos rfl,← hh]
  cases hq:rowS c b s g with
  | nil=>rw [hq] at hl;simp at hl
  | cons x r=>simp [gtd]
 unfold YQ
 simp only [hf]
 rw [if_pos (by rw [hok];rfl),show Int.toNat 0=0 from rfl,hrow]
 have hg:vG c b s g k1=vG c b s g 5:=by
  unfold vG
  by_cases h:s+1<nSt c
  ·rw [if_pos (.inl (h4.2 h)),if_pos (.inr ⟨rfl,h⟩)]
  ·rw [if_neg (by rintro (e | e);exact h (h4.1 e);exact h e.2),if_neg (by rintro (e | e);cases e;exact h e.2)]
 have hfu:J1 c b s g 5=rowS c b s g:=by unfold J1;rw [if_pos rfl]
 simp only [YI,setX,setY,setG,setD,st,sPc,QA,sOps,Qs,Qx,Qf,QF,sX,sY,sG,sD,QD,QB,sSat]
 rw [hg,QaN h1,Qak h2,Qay h6,hfu,QaN (k1:=5) (by decide),Qak (k1:=5) (JG (by decide)),Qay (k1:=5) (JG (by decide))]
 rfl
theorem QWn {s k f g:Nat} {k1:Int} (hs:s<nSt c) (hk:k≤(YS c b s).length) (H:Nums b.length f g k1) (hf:f<b.length) (h0:0<s→k1=1) (h2:¬ (k1=2∧s+1<nSt c)) (h4:k1≠4) (h5:k1≠5) (h6:¬ (k1=6∧0<s)) :
  YI (Yg (st c b s k f g k1) (f:Int) (if s=0 then (prAt b f).1 else sX (st c b s k f g k1)) (prAt b f).2) ((k:Int)+1)=st c b s (k+1) (f+1) g 2:=by
 have hok:=QiS A hs hk H
 obtain ⟨hm,hi,ho⟩:=QfY A hs
 have hs':s≤(ZH c).length:=by simp only [nSt] at hs;omega
 have hp:=Qa9 A hf
 have hx:(if s=0 then (prAt b f).1 else sX (st c b s k f g k1))=inS c b s f:=by
  by_cases h:s=0
  ·subst h;rw [if_pos rfl];exact (QMC A.cuts _).symm
  ·rw [if_neg h]
   show vX c b s f k1=_
   unfold vX;rw [if_pos (h0 (by omega))]
 rw [hx]
 have hlast:Zq c s=true→s=(ZH c).length:=by intro h;unfold Zq nSt at h;have h:=of_decide_eq_true h;omega
 have hfind:QL (Qf (st c b s k f g k1)) (f:Int) = -1:=QGR
 have hfw:Jw (st c b s k f g k1) (f:Int) (inS c b s f) (prAt b f).2=true:=by
  unfold Jw
  rw [hok,hfind]
  have h1:Qq (inS c b s f) (Q6 (sOps (st c b s k f g k1)))=true:=by
   show Qq _ (Q6 (opS c s))=true
   rw [hi];exact Qf5 A (by omega) hf
  have h3:(!Qs (st c b s k f g k1)||Qq (prAt b f).2 (Q5 (sOps (st c b s k f g k1))))=true:=by
   show (!Zq c s||Qq (prAt b f).2 (Q5 (opS c s)))=true
   cases hl:Zq c s with
   | false=>rfl
   | true =>
    have e:=hlast hl
    rw [ho,e,QCF A.cuts]
    simpa using (Qpn A.cuts hp).2
  rw [h1,h3];rfl
 have hy:gtd [] (QG (opS c s) (inS c b s f)).1 (opS c s).length=inS c b (s+1) f:=QvO A.cuts hp hs'
 have key:YI (Yg (st c b s k f g k1) (f:Int) (inS c b s f) (prAt b f).2) ((k:Int)+1) =
   ((k:Int)+1,YS c b s,opS c s,Zq c s,YU c s,YF c b s f g++[((f:Int),QaC c s (rowS c b s f))],J1 c b s g k1,[],(if Zq c s=true then vY c b s f k1 else gtd [] (QG (opS c s) (inS c b s f)).1 (opS c s).length),vG c b s g k1,vD c b s g k1,Qal c b s g,
    (if Zq c s=true then (Q4 (if Zq c s=true then Jh c b f else 0) (Z4 (gtd [] (QG (opS c s) (inS c b s f)).1 (opS c s).length) (prAt b f).2).1).1 else if Zq c s=true then Jh c b f else 0),
    (satV c b s f g||(QG (opS c s) (inS c b s f)).2||(Zq c s&&((Z4 (gtd [] (QG (opS c s) (inS c b s f)).1 (opS c s).length) (prAt b f).2).2||(Q4 (if Zq c s=true then Jh c b f else 0) (Z4 (gtd [] (QG (opS c s) (inS c b s f)).1 (opS c s).length) (prAt b f).2).1).2)))):=by
  unfold Yg
  rw [if_pos hfw]
  rfl
 rw [key,hy]
 have e1:YF c b s f g++[((f:Int),QaC c s (rowS c b s f))]=YF c b s (f+1) g:=(QUb H.gf).symm
 have e2:(if Zq c s=true then vY c b s f k1 else inS c b (s+1) f)=vY c b s (f+1) 2:=by
  unfold vY
  cases hl:Zq c s with
  | false =>
   simp only [Zq,decide_eq_false_iff_not] at hl
   rw [if_neg (by simp),if_pos ⟨rfl,by omega⟩,Nat.add_sub_cancel]
  | true =>
   simp only [Zq,decide_eq_true_eq] at hl
   rw [if_pos rfl,if_neg h2,if_neg (by omega)]
 have e3:(if Zq c s=true then (Q4 (if Zq c s=true then Jh c b f else 0) (Z4 (inS c b (s+1) f) (prAt b f).2).1).1 else if Zq c s=true then Jh c b f else 0)=(if Zq c s=true then Jh c b (f+1) else 0):=by
  cases hl:Zq c s with
  | false=>simp
  | true =>
   simp only [if_true]
   rw [hlast hl]
   show (Q4 _ (Z4 (inp _ _ _ _) _).1).1=_
   rw [Qkn A.cuts]
   rfl
 have e4:(satV c b s f g||(QG (opS c s) (inS c b s f)).2||(Zq c s&&((Z4 (inS c b (s+1) f) (prAt b f).2).2||(Q4 (if Zq c s=true then Jh c b f else 0) (Z4 (inS c b (s+1) f) (prAt b f).2).1).2)))=satV c b s (f+1) g:=by
  unfold satV
  rw [List.range_succ,List.any_append]
  have:Qfh c b s f=((QG (opS c s) (inS c b s f)).2||(Zq c s&&((Z4 (inS c b (s+1) f) (prAt b f).2).2||(Q4 (if Zq c s=true then Jh c b f else 0) (Z4 (inS c b (s+1) f) (prAt b f).2).1).2))):=by
   unfold Qfh
   cases hl:Zq c s with
   | false=>rfl
   | true =>
    simp only [if_true,Bool.true_and]
    rw [hlast hl]
    have:inS c b ((ZH c).length+1) f=outA c b f:=Qkn A.cuts _
    rw [this]
    rfl
  simp only [List.any_cons,List.any_nil,Bool.or_false]
  rw [this]
  cases (List.range f).any (Qfh c b s) <;> cases (List.range g).any (Qjg c b s) <;> simp
 have e5:vX c b s (f+1) 2=[]:=rfl
 have e6:vG c b s g k1=vG c b s g 2:=by unfold vG;rw [if_neg (by rintro (e | e);exact h4 e;exact h5 e.1),if_neg (by rintro (e | e);cases e;exact absurd e.1 (by decide))]
 have e7:vD c b s g k1=vD c b s g 2:=by unfold vD;rw [if_neg h6,if_neg (by rintro ⟨e,_⟩;exact absurd e (by decide))]
 have e8:J1 c b s g k1=J1 c b s g 2:=by unfold J1;rw [if_neg h5,if_neg (by decide)]
 rw [e1,e2,e3,e4,← e5,e6,e7,e8]
 rfl
theorem QU0 {s k f g:Nat} {k1:Int} (hs:s<nSt c) (hk:k≤(YS c b s).length) (H:Nums b.length f g k1) (hgf:g<f) (hr1:YU c s=true→k1=5) (hr2:YU c s=false→s+1<nSt c→k1=4) (h1:k1≠1) (h2:¬ (k1=2∧s+1<nSt c)) (h5:k1=5→YU c s=true) (h4:k1=4→s+1<nSt c) :
  YI (if s=0 then setD (Zw (st c b s k f g k1) (g:Int) (prAt b g).2) [] else Zw (st c b s k f g k1) (g:Int) (prAt b g).2) ((k:Int)+1)=st c b s (k+1) f (g+1) 6:=by
 have hok:=QiS A hs hk H
 obtain ⟨hm,hi,ho⟩:=QfY A hs
 have hs':s≤(ZH c).length:=by simp only [nSt] at hs;omega
 have hg:g<b.length:=by have:=H.fM;omega
 have hp:=Qa9 A hg
 have hlast:Zq c s=true→s=(ZH c).length:=by intro h;unfold Zq nSt at h;have h:=of_decide_eq_true h;omega
 have hfind:QL (Qf (st c b s k f g k1)) (g:Int)=0:=Quk hgf
 have hrl:(rowS c b s g).length=(opS c s).length+1:=Qqb A.cuts hp
 have hrows:Z2 (st c b s k f g k1) 0=rowS c b s g:=by
  unfold Z2
  show (if YU c s=true then J1 c b s g k1 else (gtd Zs (YF c b s f g) (Int.toNat 0)).2)=_
  rw [Qg5 hgf,show Int.toNat 0=0 from rfl,QbE]
  cases hr:YU c s with
  | true=>rw [if_pos rfl];unfold J1;rw [if_pos (hr1 hr)]
  | false=>rw [if_neg (by simp)];show QaC c s _=_;unfold QaC;rw [hr,if_neg (by simp)]
 have hd:bwdD (st c b s k f g k1) 0 (prAt b g).2=(doS c b (s+1) g,Zq c s&&(Zg (outA c b g) (prAt b g).2).2):=by
  unfold bwdD
  rw [hrows]
  show (if Zq c s=true then Zg (gtd [] (rowS c b s g) (opS c s).length) (prAt b g).2 else (vG c b s g k1,false))=_
  cases hl:Zq c s with
  | true =>
   rw [if_pos rfl,QvO A.cuts hp hs',hlast hl,Qkn A.cuts]
   show _=(dOut _ _ _ _,_)
   rw [QWf A.cuts,Bool.true_and]
  | false =>
   simp only [Zq,decide_eq_false_iff_not] at hl
   rw [if_neg (by simp),Bool.false_and]
   unfold vG
   rw [if_pos]
   cases hr:YU c s with
   | true=>exact .inr ⟨hr1 hr,by omega⟩
   | false=>exact .inl (hr2 hr (by omega))
 have hbk:JT (st c b s k f g k1) 0 (prAt b g).2=true:=by
  unfold JT
  rw [hok,hrows,hd]
  simp only [Bool.and_eq_true,beq_iff_eq,decide_eq_true_eq]
  refine ⟨⟨⟨⟨trivial,by omega⟩,hrl⟩,?_⟩,?_⟩
  ·unfold Yp
   exact QfT _ _ _ _ (QDR A.cuts hp hs')
  ·show Qq (doS c b (s+1) g) (Q5 (opS c s))=true
   rw [ho];exact QfI A (by omega) hg
 have hback:QP (opS c s) (rowS c b s g) (doS c b (s+1) g)=bkS c b s g:=rfl
 have hbd:(bkS c b s g).2.1=doS c b s g:=(QWJ A.cuts hs' _).symm
 have hadd:Z6 (sSum (st c b s k f g k1)) ((bkS c b s g).1,0,(Zq c s&&(Zg (outA c b g) (prAt b g).2).2)||(bkS c b s g).2.2)=(Qal c b s (g+1),(if Zq c s then Jh c b f else 0),satV c b s f (g+1)):=by
  unfold Z6
  simp only
  have hl:Q4 (sSum (st c b s k f g k1)).2.1 0=((if Zq c s then Jh c b f else 0),false):=QJP (QLv A s f)
  rw [hl]
  refine Prod.ext rfl (Prod.ext rfl ?_)
  show (satV c b s f g||((Zq c s&&(Zg (outA c b g) (prAt b g).2).2)||(bkS c b s g).2.2)||(ZB (Qal c b s g) (bkS c b s g).1).2||false)=satV c b s f (g+1)
  unfold satV
  rw [List.range_succ,List.any_append]
  simp only [List.any_cons,List.any_nil,Bool.or_false]
  unfold Qjg
  cases (List.range f).any (Qfh c b s) <;> cases (List.range g).any (Qjg c b s) <;> cases (bkS c b s g).2.2 <;> cases (ZB (Qal c b s g) (bkS c b s g).1).2 <;> simp
 have key:Zw (st c b s k f g k1) (g:Int) (prAt b g).2=((k:Int),YS c b s,opS c s,Zq c s,YU c s,YF c b s f (g+1),[],vX c b s f k1,vY c b s f k1,[],doS c b s g,Qal c b s (g+1),(if Zq c s then Jh c b f else 0),satV c b s f (g+1)):=by
  unfold Zw
  simp only [hfind]
  rw [if_pos hbk,hrows,hd]
  simp only
  have e:sOps (st c b s k f g k1)=opS c s:=rfl
  rw [e,hback,hadd,hbd]
  have e2:(Qf (st c b s k f g k1)).take (Int.toNat 0)++(Qf (st c b s k f g k1)).drop (Int.toNat 0+1)=YF c b s f (g+1):=by
   show (YF c b s f g).take 0++(YF c b s f g).drop 1=_
   rw [Qg5 hgf];rfl
  rw [e2]
  rfl
 rw [key]
 have f1:vX c b s f k1=vX c b s f 6:=by unfold vX;rw [if_neg h1,if_neg (by decide)]
 have f2:vY c b s f k1=vY c b s f 6:=by unfold vY;rw [if_neg h2,if_neg (by rintro ⟨e,_⟩;exact absurd e (by decide))]
 have f3:vG c b s (g+1) 6=[]:=by unfold vG;rw [if_neg];rintro (e | e);exact absurd e (by decide);exact absurd e.1 (by decide)
 rw [f1,f2]
 by_cases h:s=0
 ·rw [if_pos h]
  simp only [YI,setX,setY,setG,setD,st,sPc,QA,sOps,Qs,Qx,Qf,QF,sX,sY,sG,sD,QD,QB,sSat]
  have f4:vD c b s (g+1) 6=[]:=by unfold vD;rw [if_neg (by omega)]
  rw [f3,f4]
  rfl
 ·rw [if_neg h]
  simp only [YI,setX,setY,setG,setD,st,sPc,QA,sOps,Qs,Qx,Qf,QF,sX,sY,sG,sD,QD,QB,sSat]
  have f4:vD c b s (g+1) 6=doS c b s g:=by unfold vD;rw [if_pos ⟨rfl,by omega⟩,Nat.add_sub_cancel]
  rw [f3,f4]
  rfl
end
end Go.Proofs.YtjbdljkhbglnhaaGreat.Am
namespace Go.Proofs.YtjbdljkhbglnhaaGreat.Am
open Go Sz
structure Loc (ds n M s:Int) (rd:Bool) (f g:Nat) (k1:Int) (i:TIns) (last:Bool):Prop where
 c0:g≤f∧(f:Int)≤M∧1≤i.1∧i.1≤8∧0≤i.2∧i.2<M∧(i.1=8↔last=true)∧i≠(0,0)
 c1:i.1=1→0<s∧i.2=f∧k1≠1
 c2:i.1=2→i.2=f∧(0<s→k1=1)
 c3:i.1=3→s<n-1∧i.2=(f:Int)-1∧k1=2
 c4:i.1=4→s<n-1∧i.2=g
 c5:i.1=5→rd=true∧i.2=g∧g<f∧(s<n-1→k1=4)
 c6:i.1=6→i.2=g∧g<f∧(rd=true→k1=5)∧(rd=false→s<n-1→k1=4)
 c7:i.1=7→0<s∧i.2=(g:Int)-1∧k1=6
 c8:i.1=8→(f:Int)=M∧(g:Int)=M∧k1≠0
 c9:k1=1→i.1=2
 c10:k1=2→s<n-1→i.1=3
 c11:k1=4→i.1=5∨i.1=6
 c12:k1=5→i.1=6
 c13:k1=6→0<s→i.1=7
 c14:k1=5→rd=true
 c15:k1=6→1≤g
 c16:k1=2→1≤f
 c17:k1≠8
 c18:k1=4→s<n-1
 c19:k1=1→0<s
 c20:k1=4∨k1=5→g<f
 c21:k1=1→(f:Int)<M
 c22:s<n-1→(scOf f k1:Int)<M→tm ds n M s i≤tm ds n M s (3,(scOf f k1:Int))
 c23:0<s→(rcOf f k1:Int)<M→tm ds n M s i≤tm ds n M s (1,(rcOf f k1:Int))
 c24:s<n-1→(rgOf n s g k1:Int)<M→tm ds n M s i≤tm ds n M s (4,(rgOf n s g k1:Int))
 c25:0<s→(sgQ g k1:Int)<M→tm ds n M s i≤tm ds n M s (7,(sgQ g k1:Int))
 c26:ds=2→(f:Int)-g≤n-s
 c27:ds=2→i.1=2→(f:Int)-g<n-s
theorem QOY {ds n M s:Int} {rd:Bool} {f g:Nat} {k1:Int} {i:TIns} {last:Bool} (h:Qkj ds n M s rd f g k1 i last=true):Loc ds n M s rd f g k1 i last:=by
 simp only [Qkj,Bool.and_eq_true,decide_eq_true_eq] at h
 exact ⟨h.1.1.1.1.1.1.1.1.1.1.1.1.1.1.1.1.1.1.1.1.1.1.1.1.1.1.1,h.1.1.1.1.1.1.1.1.1.1.1.1.1.1.1.1.1.1.1.1.1.1.1.1.1.1.2,h.1.1.1.1.1.1.1.1.1.1.1.1.1.1.1.1.1.1.1.1.1.1.1.1.1.2,h.1.1.1.1.1.1.1.1.1.1.1.1.1.1.1.1.1.1.1.1.1.1.1.1.2,h.1.1.1.1.1.1.1.1.1.1.1.1.1.1.1.1.1.1.1.1.1.1.1.2,h.1.1.1.1.1.1.1.1.1.1.1.1.1.1.1.1.1.1.1.1.1.1.2,h.1.1.1.1.1.1.1.1.1.1.1.1.1.1.1.1.1.1.1.1.1.2,h.1.1.1.1.1.1.1.1.1.1.1.1.1.1.1.1.1.1.1.1.2,h.1.1.1.1.1.1.1.1.1.1.1.1.1.1.1.1.1.1.1.2,h.1.1.1.1.1.1.1.1.1.1.1.1.1.1.1.1.1.1.2,h.1.1.1.1.1.1.1.1.1.1.1.1.1.1.1.1.1.2,h.1.1.1.1.1.1.1.1.1.1.1.1.1.1.1.1.2,h.1.1.1.1.1.1.1.1.1.1.1.1.1.1.1.2,h.1.1.1.1.1.1.1.1.1.1.1.1.1.1.2,h.1.1.1.1.1.1.1.1.1.1.1.1.1.2,h.1.1.1.1.1.1.1.1.1.1.1.1.2,h.1.1.1.1.1.1.1.1.1.1.1.2,h.1.1.1.1.1.1.1.1.1.1.2,h.1.1.1.1.1.1.1.1.1.2,h.1.1.1.1.1.1.1.1.2,h.1.1.1.1.1.1.1.2,h.1.1.1.1.1.1.2,h.1.1.1.1.1.2,h.1.1.1.1.2,h.1.1.1.2,h.1.1.2,h.1.2,h.2⟩
section
variable (c:QM) (b:List Qr)
def lenP (s:Nat):Nat:=(YS c b s).length
def insP (s k:Nat):TIns:=gtd dIns (YS c b s) k
def F (s k:Nat):Nat:=cf ((YS c b s).take k)
def G (s k:Nat):Nat:=cg ((YS c b s).take k)
def K1 (s k:Nat):Int:=Y9 (YS c b s) k
def sc (s k:Nat):Nat:=scOf (F c b s k) (K1 c b s k)
def rc (s k:Nat):Nat:=rcOf (F c b s k) (K1 c b s k)
def rg (s k:Nat):Nat:=rgOf (nSt c:Nat) (s:Int) (G c b s k) (K1 c b s k)
def sg (s k:Nat):Nat:=sgQ (G c b s k) (K1 c b s k)
def stAt (s k:Nat):Qc:=st c b s k (F c b s k) (G c b s k) (K1 c b s k)
abbrev J0 (s:Nat):Int:=gtd 0 (Qad c) s
def aQ (ks:Nat→Nat) (s:Nat):Qd:=(J0 c s,(List.range' (rc c b (s+1) (ks (s+1))) (sc c b s (ks s)-rc c b (s+1) (ks (s+1)))).map fun j:Nat=>((j:Int),inS c b (s+1) j))
def bQ (ks:Nat→Nat) (s:Nat):Qd:=(J0 c s,(List.range' (rg c b s (ks s)) (sg c b (s+1) (ks (s+1))-rg c b s (ks s))).map fun j:Nat=>((j:Int),doS c b (s+1) j))
def Q8 (ks:Nat→Nat):Qe :=
 (b,(List.range (nSt c)).map (fun s=>stAt c b s (ks s)),(List.range (nSt c-1)).map (aQ c b ks),(List.range (nSt c-1)).map (bQ c b ks))
end
section
variable {c:QM} {b:List Qr} (A:Adm c b)
include A
theorem Qb6:1≤nSt c∧nSt c≤4:=by have:=A.stages;simp only [nSt];omega
theorem Qq9 {s:Nat} (hs:s<nSt c):Qdn (cDs c) (nSt c:Nat) b.length s (YU c s) (YS c b s) 0 0 0=true:=by
 have h1:=Qb6 A
 have h2:=Qa5 A
 exact QKp (YU c s) A.ds.1 A.ds.2 (by omega) (by omega) (by omega) (by omega) (by omega)
theorem loc {s k:Nat} (hs:s<nSt c) (hk:k<lenP c b s):Loc (cDs c) (nSt c:Nat) b.length s (YU c s) (F c b s k) (G c b s k) (K1 c b s k) (insP c b s k) (decide (k+1=lenP c b s)):=by
 have h:=(Qmr _ _ _ _ (Qq9 A hs) k (Nat.le_of_lt hk)).1 (insP c b s k) (Y3 hk dIns)
 have e:(if k=0 then (0:Int) else Y9 (YS c b s) k)=K1 c b s k:=by
  unfold K1 Y9;split <;> rfl
 rw [e,Nat.zero_add,Nat.zero_add] at h
 exact QOY h
theorem QqB {s:Nat} (hs:s<nSt c):F c b s (lenP c b s)=b.length∧G c b s (lenP c b s)=b.length∧K1 c b s (lenP c b s)=8:=by
 have h:=(Qmr _ _ _ _ (Qq9 A hs) (lenP c b s) (Nat.le_refl _)).2 rfl
 have e:(if lenP c b s=0 then (0:Int) else Y9 (YS c b s) (lenP c b s))=K1 c b s (lenP c b s):=by
  unfold K1 Y9;split <;> rfl
 rw [e,Nat.zero_add,Nat.zero_add] at h
 simp only [QpA,decide_eq_true_eq] at h
 unfold F G
 exact ⟨by omega,by omega,h.2.2⟩
theorem nums {s k:Nat} (hs:s<nSt c) (hk:k≤lenP c b s):Nums b.length (F c b s k) (G c b s k) (K1 c b s k):=by
 by_cases h:k<lenP c b s
 ·have L:=loc A hs h
  exact ⟨L.c0.1,by have:=L.c0.2.1;omega,fun e=>by have:=L.c21 e;omega,L.c16,L.c20,L.c15⟩
 ·have:k=lenP c b s:=by omega
  subst this
  obtain ⟨h1,h2,h3⟩:=QqB A hs
  rw [h1,h2,h3]
  exact ⟨Nat.le_refl _,Nat.le_refl _,(fun e=>by simp at e),(fun e=>by simp at e),(fun e=>by simp at e),(fun e=>by simp at e)⟩
omit A in
theorem Qva {s k:Nat} (hk:k<lenP c b s):F c b s (k+1)=F c b s k+kf (insP c b s k)∧G c b s (k+1)=G c b s k+kg (insP c b s k)∧K1 c b s (k+1)=(insP c b s k).1:=by
 have h:(YS c b s)[k]? = some (insP c b s k):=Y3 hk dIns
 have ht:(YS c b s).take (k+1)=(YS c b s).take k++[insP c b s k]:=by rw [List.take_add_one,h];rfl
 refine ⟨?_,?_,?_⟩
 ·unfold F cf;rw [ht];simp
 ·unfold G cg;rw [ht];simp
 ·unfold K1 Y9;rw [if_neg (by omega)];rfl
theorem Qhp {s:Nat} (hs:s<nSt c):sc c b s (lenP c b s)=b.length∧rc c b s (lenP c b s)=b.length∧rg c b s (lenP c b s)=b.length∧sg c b s (lenP c b s)=b.length:=by
 obtain ⟨h1,h2,h3⟩:=QqB A hs
 unfold sc rc rg sg
 rw [h1,h2,h3]
 exact ⟨rfl,rfl,rfl,rfl⟩
theorem QzE {s k:Nat} (hs:s<nSt c) (hk:k<lenP c b s) :
  (s+1<nSt c→sc c b s (k+1)=sc c b s k+if (insP c b s k).1=3 then 1 else 0) ∧
  (0<s→rc c b s (k+1)=rc c b s k+if (insP c b s k).1=1 then 1 else 0) ∧
  (s+1<nSt c→rg c b s (k+1)=rg c b s k+if (insP c b s k).1=4 then 1 else 0) ∧
  (0<s→sg c b s (k+1)=sg c b s k+if (insP c b s k).1=7 then 1 else 0):=by
 have L:=loc A hs hk
 obtain ⟨e1,e2,e3⟩:=Qva (c:=c) (b:=b) hk
 unfold sc rc rg sg
 rw [e1,e2,e3]
 generalize F c b s k=f at *
 generalize G c b s k=g at *
 generalize K1 c b s k=k1 at *
 generalize insP c b s k=i at *
 have hi:=L.c0
 have h6:i.1=6→(s:Int)<(nSt c:Nat)-1→k1=4∨k1=5:=fun e hlt=>by
  have h:=L.c6 e
  cases hr:YU c s with
  | true=>exact .inr (h.2.2.1 hr)
  | false=>exact .inl (h.2.2.2 hr hlt)
 have h1:=L.c1;have h2:=L.c2;have h3:=L.c3;have h4:=L.c4;have h5:=L.c5;have h7:=L.c7;have h9:=L.c9;have h10:=L.c10;have h11:=L.c11;have h12:=L.c12;have h13:=L.c13;have h15:=L.c15;have h16:=L.c16;have h18:=L.c18
 obtain ⟨i1,i2⟩:=i
 simp only at hi h1 h2 h3 h4 h5 h6 h7 h9 h10 h11 h12 h13
 unfold scOf rcOf rgOf sgQ kf kg
 simp only
 have hcase:i1=1∨i1=2∨i1=3∨i1=4∨i1=5∨i1=6∨i1=7∨i1=8:=by omega
 rcases hcase with rfl | rfl | rfl | rfl | rfl | rfl | rfl | rfl <;> simp at h1 h2 h3 h4 h5 h6 h7 h9 h10 h11 h12 h13 ⊢ <;> (refine ⟨?_,?_,?_,?_⟩ <;> intro hh <;> (repeat' split) <;> omega)
structure Ok (c:QM) (b:List Qr) (ks:Nat→Nat):Prop where
 le:∀ s,s<nSt c→ks s≤lenP c b s
 qa:∀ s,s+1<nSt c→rc c b (s+1) (ks (s+1))≤sc c b s (ks s)∧(sc c b s (ks s):Int)-rc c b (s+1) (ks (s+1))≤J0 c s
 qb:∀ s,s+1<nSt c→rg c b s (ks s)≤sg c b (s+1) (ks (s+1))∧(sg c b (s+1) (ks (s+1)):Int)-rg c b s (ks s)≤J0 c s
 fl:(∃ s,s<nSt c∧ks s=lenP c b s)→∀ s,s<nSt c→lenP c b s≤ks s+1
def En (c:QM) (b:List Qr) (ks:Nat→Nat) (s:Nat):Prop :=
 ks s<lenP c b s ∧
 ((insP c b s (ks s)).1=1→rc c b s (ks s)<sc c b (s-1) (ks (s-1))) ∧
 ((insP c b s (ks s)).1=3→(sc c b s (ks s):Int)-rc c b (s+1) (ks (s+1))<J0 c s) ∧
 ((insP c b s (ks s)).1=4→rg c b s (ks s)<sg c b (s+1) (ks (s+1))) ∧
 ((insP c b s (ks s)).1=7→(sg c b s (ks s):Int)-rg c b (s-1) (ks (s-1))<J0 c (s-1)) ∧
 ((insP c b s (ks s)).1=8→∀ j,j<nSt c→lenP c b j≤ks j+1)
theorem QdZ {s:Nat} (hs:s+1<nSt c):1≤J0 c s∧J0 c s≤5:=by
 have:=A.caps
 simp only [Qap,Bool.and_eq_true,beq_iff_eq] at this
 have hl:s<(Qad c).length:=by simp only [nSt] at hs;have:=this.1;simp only [Qad,ZH] at *;omega
 have:=List.all_eq_true.1 this.2 _ (Jc hl 0)
 exact QS.1 this
theorem QiF:(Qad c).length=nSt c-1:=by
 have:=A.caps
 simp only [Qap,Bool.and_eq_true,beq_iff_eq] at this
 have:=this.1;simp only [nSt,Qad,ZH] at *;omega
omit A in
theorem QGF (n:Nat) (P:Nat→Prop) (t:Nat→Int) (h:∃ s,s<n∧P s):∃ s,s<n∧P s∧∀ j,j<n→P j→t s≤t j:=by
 induction n with
 | zero=>obtain ⟨s,h,_⟩:=h;omega
 | succ n ih =>
  by_cases h1:∃ s,s<n∧P s
  ·obtain ⟨s,hs,hp,hm⟩:=ih h1
   by_cases h2:P n∧t n<t s
   ·refine ⟨n,by omega,h2.1,fun j hj hpj=>?_⟩
    by_cases h3:j=n
    ·subst h3;omega
    ·have:=hm j (by omega) hpj;omega
   ·refine ⟨s,by omega,hp,fun j hj hpj=>?_⟩
    by_cases h3:j=n
    ·subst h3
     have:¬ t j<t s:=fun h=>h2 ⟨hpj,h⟩
     omega
    ·exact hm j (by omega) hpj
  ·obtain ⟨s,hs,hp⟩:=h
   have:s=n:=by
    apply Classical.byContradiction;intro hne
    exact h1 ⟨s,by omega,hp⟩
   subst this
   refine ⟨s,by omega,hp,fun j hj hpj=>?_⟩
   by_cases h3:j=s
   ·subst h3;omega
   ·exact absurd ⟨j,by omega,hpj⟩ h1
set_option maxHeartbeats 1000000 in
theorem QYW {ks:Nat→Nat} (V:Ok c b ks) (h:∃ s,s<nSt c∧ks s<lenP c b s):∃ s,s<nSt c∧En c b ks s:=by
 obtain ⟨s,hs,hk,hmin⟩:=QGF (nSt c) (fun s=>ks s<lenP c b s) (fun s=>tm (cDs c) (nSt c:Nat) b.length s (insP c b s (ks s))) h
 have L:=loc A hs hk
 refine ⟨s,hs,hk,fun hi=>?_,fun hi=>?_,fun hi=>?_,fun hi=>?_,fun hi=>?_⟩
 ·obtain ⟨h0,h1,h2⟩:=L.c1 hi
  have h0:0<s:=by omega
  have hq:=(V.qa (s-1) (by omega)).1
  rw [show s-1+1=s by omega] at hq
  apply Classical.byContradiction
  intro hn
  have hrc:rc c b s (ks s)=F c b s (ks s):=by unfold rc rcOf;rw [if_neg h2]
  have hlt:(F c b s (ks s):Int)<b.length:=by have:=L.c0;omega
  by_cases hj:ks (s-1)<lenP c b (s-1)
  ·have L':=loc A (s:=s-1) (by omega) hj
   have h3:=L'.c22 (by omega) (by show ((sc c b (s-1) (ks (s-1)):Nat):Int)<_;omega)
   have h4:=hmin (s-1) (by omega) hj
   have e1:(scOf (F c b (s-1) (ks (s-1))) (K1 c b (s-1) (ks (s-1))))=F c b s (ks s):=by show sc c b (s-1) (ks (s-1))=_;omega
   rw [e1] at h3
   simp only [tm,hi,h1] at h3 h4
   simp at h3 h4
   omega
  ·have:=V.le (s-1) (by omega)
   rw [show ks (s-1)=lenP c b (s-1) by omega,(Qhp A (by omega)).1] at hn
   omega
 ·obtain ⟨h0,h1,h2⟩:=L.c3 hi
  have hq:=(V.qa s (by omega)).1
  have hcap:=QdZ A (s:=s) (by omega)
  apply Classical.byContradiction
  intro hn
  have h16:=L.c16 h2
  have hsc:sc c b s (ks s)=F c b s (ks s)-1:=by unfold sc scOf;rw [if_pos h2]
  have hfM:(F c b s (ks s):Int)≤b.length:=L.c0.2.1
  by_cases hj:ks (s+1)<lenP c b (s+1)
  ·have L':=loc A (s:=s+1) (by omega) hj
   have e1:(rcOf (F c b (s+1) (ks (s+1))) (K1 c b (s+1) (ks (s+1))))=rc c b (s+1) (ks (s+1)):=rfl
   have h3:=L'.c23 (by omega) (by rw [e1];omega)
   have h4:=hmin (s+1) (by omega) hj
   rw [e1] at h3
   simp only [tm,hi,h1] at h3 h4
   simp at h3 h4
   omega
  ·have:=V.le (s+1) (by omega)
   rw [show ks (s+1)=lenP c b (s+1) by omega,(Qhp A (by omega)).2.1] at hn
   omega
 ·obtain ⟨h0,h1⟩:=L.c4 hi
  have hq:=(V.qb s (by omega)).1
  apply Classical.byContradiction
  intro hn
  have h2:¬ (K1 c b s (ks s)=4∨(K1 c b s (ks s)=5∧(s:Int)<(nSt c:Nat)-1)):=by
   rintro (h | h)
   ·have:=L.c11 h;omega
   ·have:=L.c12 h.1;omega
  have hrg:rg c b s (ks s)=G c b s (ks s):=by unfold rg rgOf;rw [if_neg h2]
  have hlt:(G c b s (ks s):Int)<b.length:=by have:=L.c0;omega
  by_cases hj:ks (s+1)<lenP c b (s+1)
  ·have L':=loc A (s:=s+1) (by omega) hj
   have h3:=L'.c25 (by omega) (by show ((sg c b (s+1) (ks (s+1)):Nat):Int)<_;omega)
   have h4:=hmin (s+1) (by omega) hj
   have e1:(sgQ (G c b (s+1) (ks (s+1))) (K1 c b (s+1) (ks (s+1))))=G c b s (ks s):=by show sg c b (s+1) (ks (s+1))=_;omega
   rw [e1] at h3
   simp only [tm,hi,h1] at h3 h4
   simp at h3 h4
   split at h3 <;> simp_all <;> omega
  ·have:=V.le (s+1) (by omega)
   rw [show ks (s+1)=lenP c b (s+1) by omega,(Qhp A (by omega)).2.2.2] at hn
   omega
 ·obtain ⟨h0,h1,h2⟩:=L.c7 hi
  have h0:0<s:=by omega
  have hq:=(V.qb (s-1) (by omega)).1
  rw [show s-1+1=s by omega] at hq
  have hcap:=QdZ A (s:=s-1) (by omega)
  apply Classical.byContradiction
  intro hn
  have h15:=L.c15 h2
  have hsg:sg c b s (ks s)=G c b s (ks s)-1:=by unfold sg sgQ;rw [if_pos h2]
  have hfM:(G c b s (ks s):Int)≤b.length:=by have:=L.c0;omega
  by_cases hj:ks (s-1)<lenP c b (s-1)
  ·have L':=loc A (s:=s-1) (by omega) hj
   have e1:(rgOf (nSt c:Nat) ((s-1:Nat):Int) (G c b (s-1) (ks (s-1))) (K1 c b (s-1) (ks (s-1))))=rg c b (s-1) (ks (s-1)):=rfl
   have h3:=L'.c24 (by omega) (by rw [e1];omega)
   have h4:=hmin (s-1) (by omega) hj
   rw [e1] at h3
   simp only [tm,hi,h1] at h3 h4
   simp at h3 h4
   split at h3 <;> simp_all <;> omega
  ·have:=V.le (s-1) (by omega)
   rw [show ks (s-1)=lenP c b (s-1) by omega,(Qhp A (by omega)).2.2.1] at hn
   omega
 ·intro j hj
  apply Classical.byContradiction
  intro hn
  have hj':ks j<lenP c b j:=by omega
  have L':=loc A hj hj'
  have h4:=hmin j hj hj'
  have h5:(insP c b j (ks j)).1≠8:=fun e=>by have:=L'.c0.2.2.2.2.2.2.1.1 e;simp at this;omega
  have h6:=L'.c0
  have hn4:=Qb6 A
  have hb5:=Qa5 A
  generalize insP c b j (ks j)=i' at *
  generalize insP c b s (ks s)=i at *
  have:tm (cDs c) (nSt c:Nat) b.length s i=1000000:=by unfold tm;simp [hi]
  rw [this] at h4
  unfold tm at h4
  simp only at h4
  repeat' split at h4
  all_goals omega
end
end Go.Proofs.YtjbdljkhbglnhaaGreat.Am

