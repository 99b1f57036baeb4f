/- -/
import Derived.Test.YtjbdljkhbglnhaaGreatZEG8
set_option linter.all false
namespace Go.Proofs.YtjbdljkhbglnhaaGreat.Am
open Go Sz
def ZA (m:Zh) (cuts:List Int) (s:Nat):Nat:=if s=0 then 0 else if s≤cuts.length then (gtd 0 cuts (s-1)).toNat else m.length
def Yu (m:Zh) (cuts:List Int) (s:Nat):List TOp':=(m.drop (ZA m cuts s)).take (ZA m cuts (s+1)-ZA m cuts s)
section
variable {m:Zh} {cuts:List Int} (hc:ZJ m cuts=true)
include hc
theorem QgW {s:Nat} (hs:s≤cuts.length):ZA m cuts s<ZA m cuts (s+1):=by
 have hl:=Qbk hc
 have hg:YD (m.length-1) none cuts=true:=by have:=hc;simp only [ZJ,Bool.and_eq_true] at this;exact this.2
 have h1:∀ k:Nat,k<cuts.length→1≤gtd 0 cuts k∧gtd 0 cuts k≤(m.length:Int)-1:=fun k hk=>by
  have:=Qdi hg k _ (Y2 hk 0);omega
 have h2:∀ k:Nat,k+1<cuts.length→gtd 0 cuts k<gtd 0 cuts (k+1):=fun k hk=>Qp8 hg k _ _ (Y2 (by omega) 0) (Y2 hk 0)
 unfold ZA
 rw [if_neg (Nat.succ_ne_zero s)]
 by_cases h0:s=0
 ·subst h0
  rw [if_pos rfl]
  split
  ·have:=h1 0 (by omega);simp;omega
  ·omega
 ·rw [if_neg h0,if_pos hs]
  have h3:=h1 (s-1) (by omega)
  split
  ·have h4:=h2 (s-1) (by omega)
   rw [show s-1+1=s by omega] at h4
   rw [show s+1-1=s by omega]
   omega
  ·omega
theorem QyA {s:Nat}:ZA m cuts s≤m.length:=by
 have hl:=Qbk hc
 have hg:YD (m.length-1) none cuts=true:=by have:=hc;simp only [ZJ,Bool.and_eq_true] at this;exact this.2
 unfold ZA
 split
 ·omega
 ·split
  ·have:=Qdi hg (s-1) _ (Y2 (by omega) 0);omega
  ·omega
theorem Qkl:ZA m cuts (cuts.length+1)=m.length:=by have _:=hc;unfold ZA;rw [if_neg (by omega),if_neg (by omega)]
theorem QMP {s:Nat} (hs:s≤cuts.length):QW m cuts (s:Int)=((ZA m cuts s:Int),(ZA m cuts (s+1):Int)):=by
 have hl:=Qbk hc
 have hg:YD (m.length-1) none cuts=true:=by have:=hc;simp only [ZJ,Bool.and_eq_true] at this;exact this.2
 have h1:∀ k:Nat,k<cuts.length→1≤gtd 0 cuts k∧gtd 0 cuts k≤(m.length:Int)-1:=fun k hk=>by
  have:=Qdi hg k _ (Y2 hk 0);omega
 unfold QW
 rw [if_pos (by rw [hc,Bool.true_and,QT];omega)]
 unfold ZA
 refine Prod.ext ?_ ?_
 ·dsimp only
  by_cases h0:s=0
  ·subst h0;simp
  ·rw [if_pos (by omega),if_neg h0,if_pos hs,Int.toNat_natCast]
   have:=h1 (s-1) (by omega);omega
 ·dsimp only
  rw [if_neg (Nat.succ_ne_zero s)]
  by_cases h2:s<cuts.length
  ·rw [if_pos (by omega),if_pos (by omega),Int.toNat_natCast,show s+1-1=s by omega]
   have:=h1 s h2;omega
  ·rw [if_neg (by omega),if_neg (by omega)]
theorem QT0 {s:Nat} (hs:s≤cuts.length):slice m (QW m cuts (s:Int)).1 (QW m cuts (s:Int)).2=Yu m cuts s:=by
 rw [QMP hc hs];simp [slice,Yu]
theorem QE7 {s:Nat} (hs:s≤cuts.length):(Yu m cuts s).length=ZA m cuts (s+1)-ZA m cuts s:=by
 have:=QyA hc (s:=s+1)
 have:=QgW hc hs
 unfold Yu;simp;omega
theorem QjZ {s:Nat} (hs:s≤cuts.length):1≤(Yu m cuts s).length∧(Yu m cuts s).length≤8:=by
 rw [QE7 hc hs]
 have:=QyA hc (s:=s+1)
 have:=QgW hc hs
 have:=(Qbk hc).2.1
 omega
theorem QKW {s:Nat} (hs:s≤cuts.length):m.take (ZA m cuts (s+1))=m.take (ZA m cuts s)++Yu m cuts s:=by
 have:=QgW hc hs
 unfold Yu
 rw [← List.take_add,show ZA m cuts s+(ZA m cuts (s+1)-ZA m cuts s)=ZA m cuts (s+1) by omega]
theorem Qkf {s:Nat} (hs:s≤cuts.length):m.drop (ZA m cuts s)=Yu m cuts s++m.drop (ZA m cuts (s+1)):=by
 have:=QgW hc hs
 unfold Yu
 have h:=List.take_append_drop (ZA m cuts (s+1)-ZA m cuts s) (m.drop (ZA m cuts s))
 rw [List.drop_drop,show ZA m cuts s+(ZA m cuts (s+1)-ZA m cuts s)=ZA m cuts (s+1) by omega] at h
 exact h.symm
end
def inp (m:Zh) (cuts:List Int) (x:List Int) (s:Nat):List Int:=Z5 (m.take (ZA m cuts s)) x
def QbB (m:Zh) (cuts:List Int) (x:List Int) (s:Nat):List (List Int):=(QE (Yu m cuts s) (inp m cuts x s)).1
def fsat (m:Zh) (cuts:List Int) (x:List Int) (s:Nat):Bool:=(QE (Yu m cuts s) (inp m cuts x s)).2
def Qdw (m:Zh) (cuts:List Int) (p:Qt) (s:Nat):List (List Int) × List Int × Bool :=
 QP (m.drop (ZA m cuts s)) (QE (m.drop (ZA m cuts s)) (inp m cuts p.1 s)).1 (Zi (Z5 m p.1) p.2).1
def dOut (m:Zh) (cuts:List Int) (p:Qt) (s:Nat):List Int:=(Qdw m cuts p s).2.1
def Qb8 (m:Zh) (cuts:List Int) (p:Qt) (s:Nat):List (List Int) × List Int × Bool:=QP (Yu m cuts s) (QbB m cuts p.1 s) (dOut m cuts p (s+1))
section
variable {m:Zh} {cuts:List Int} (hc:ZJ m cuts=true)
include hc
theorem QFZ (x:List Int):inp m cuts x 0=x:=by have _:=hc;unfold inp ZA;simp [Qh6]
theorem Qjh (x:List Int):inp m cuts x (cuts.length+1)=Z5 m x:=by unfold inp;rw [Qkl hc,List.take_length]
theorem QEc {s:Nat} (hs:s≤cuts.length) (x:List Int):inp m cuts x (s+1)=Z5 (Yu m cuts s) (inp m cuts x s):=by
 unfold inp;rw [QKW hc hs,QGx]
theorem QHK {s:Nat} (hs:s≤cuts.length) (p:Qt) :
  Qdw m cuts p s=((Qb8 m cuts p s).1++(Qdw m cuts p (s+1)).1,(Qb8 m cuts p s).2.1,(Qb8 m cuts p s).2.2||(Qdw m cuts p (s+1)).2.2):=by
 unfold Qb8 QbB dOut
 have e:=QEc hc hs p.1
 conv=>lhs;unfold Qdw
 rw [Qkf hc hs,QOC]
 unfold Qdw
 rw [e]
theorem QKd {s:Nat} (hs:s≤cuts.length) (p:Qt):dOut m cuts p s=(Qb8 m cuts p s).2.1:=by unfold dOut;rw [QHK hc hs]
theorem QX7 (p:Qt):dOut m cuts p (cuts.length+1)=(Zi (Z5 m p.1) p.2).1:=by
 unfold dOut Qdw
 rw [Qkl hc,List.drop_length]
 simp [QP]
end
end Go.Proofs.YtjbdljkhbglnhaaGreat.Am
namespace Go.Proofs.YtjbdljkhbglnhaaGreat.Am
open Go Sz
structure Adm (c:QN) (b:List Qt):Prop where
 model:QU (Yc c)=true
 batch:Y9 (Yc c) b=true
 cuts:ZJ (Yc c) (ZI c)=true
 stages:(ZI c).length+1≤4
 ds:1≤cDs c∧cDs c≤2
 redo:(Qar c).length=(ZI c).length+1
 caps:Qav c=true
 limits:Qbv c b.length=true
theorem QnM {c:QN} {b:List Qt} (h:Z8 c b=0):Adm c b:=by
 unfold Z8 at h
 have hs:=Qga (c:=c)
 split at h
 ·simp at h
 split at h
 ·simp at h
 split at h
 ·simp at h
 split at h
 ·simp at h
 split at h
 ·simp at h
 split at h
 ·simp at h
 split at h
 ·simp at h
 rename_i h1 h2 h3 h4 h5 h6 h7
 have hc:=hs.2.2.1.1 (by omega)
 have e:=hs.2.2.2 hc
 have h4':m_in (cDs c) 1 2=true:=by simpa using h4
 exact ⟨by simpa using h1,by simpa using h2,hc,by have:=e;simp only [ZI];omega,QT.1 h4',by have:=e;simp only [ZI,Qar];omega,by simpa using h6,by simpa using h7⟩
theorem QNz {c:QN} {b:List Qt} (A:Adm c b):Z8 c b=0:=by
 have hs:=Qga (c:=c)
 have e:=hs.2.2.2 A.cuts
 have h4:=A.stages
 have hr:=A.redo
 simp only [ZI,Qar] at h4 hr
 unfold Z8
 rw [if_neg (by simp [A.model]),if_neg (by simp [A.batch]),if_neg (by omega),if_neg (by have:=QT.2 A.ds;simp [this]),if_neg (by simp;omega),if_neg (by simp [A.caps]),if_neg (by simp [A.limits])]
def nSt (c:QN):Nat:=(ZI c).length+1
abbrev prAt (b:List Qt) (k:Nat):Qt:=gtd QY b k
def dimI (m:Zh) (cuts:List Int) (s:Nat):Int:=if s≤cuts.length then Q6 (Yu m cuts s) else Q5 m
section
variable {m:Zh} {cuts:List Int} (hc:ZJ m cuts=true)
include hc
theorem QRp:QU m=true:=by have:=hc;simp only [ZJ,Bool.and_eq_true] at this;exact this.1
theorem Qkc {s:Nat} (hs:s≤cuts.length+1):Ye (Q6 m) (m.take (ZA m cuts s)) (dimI m cuts s)∧Ye (dimI m cuts s) (m.drop (ZA m cuts s)) (Q5 m):=by
 obtain ⟨_,_,h⟩:=QSC (QRp hc)
 have h':=h
 rw [← List.take_append_drop (ZA m cuts s) m] at h'
 have h'':Ye (Q6 m) (m.take (ZA m cuts s)++m.drop (ZA m cuts s)) (Q5 m):=by rw [List.take_append_drop];exact h
 obtain ⟨k,h1,h2⟩:=Ye.append.1 h''
 have hk:k=dimI m cuts s:=by
  unfold dimI
  by_cases h3:s≤cuts.length
  ·rw [if_pos h3]
   rw [Qkf hc h3] at h2
   obtain ⟨k2,h4,h5⟩:=Ye.append.1 h2
   have hp:=QjZ hc h3
   exact (Qh1 h4 hp.1 hp.2).2.1.symm
  ·have es:s=cuts.length+1:=by omega
   subst es
   rw [Qkl hc,List.drop_length] at h2
   rw [if_neg h3]
   exact h2
 rw [← hk]
 exact ⟨h1,h2⟩
theorem QpD {s:Nat} (hs:s≤cuts.length):Ye (dimI m cuts s) (Yu m cuts s) (dimI m cuts (s+1)):=by
 obtain ⟨_,h2⟩:=Qkc hc (s:=s) (by omega)
 rw [Qkf hc hs] at h2
 obtain ⟨k2,h4,h5⟩:=Ye.append.1 h2
 have:k2=dimI m cuts (s+1):=by
  obtain ⟨h6,h7⟩:=Qkc hc (s:=s+1) (by omega)
  by_cases h8:s+1≤cuts.length
  ·have hp:=QjZ hc h8
   rw [Qkf hc h8] at h5
   obtain ⟨k3,h9,_⟩:=Ye.append.1 h5
   unfold dimI
   rw [if_pos h8]
   exact (Qh1 h9 hp.1 hp.2).2.1.symm
  ·rw [show s+1=cuts.length+1 by omega,Qkl hc,List.drop_length] at h5
   unfold dimI
   rw [if_neg h8]
   exact h5
 rw [← this]
 exact h4
theorem QPK {s:Nat} (hs:s≤cuts.length):QU (Yu m cuts s)=true∧Q6 (Yu m cuts s)=dimI m cuts s∧Q5 (Yu m cuts s)=dimI m cuts (s+1):=by
 have hp:=QjZ hc hs
 exact Qh1 (QpD hc hs) hp.1 hp.2
theorem QCu:dimI m cuts (cuts.length+1)=Q5 m:=by have _:=hc;unfold dimI;rw [if_neg (by omega)]
variable {p:Qt} (hp:Qat m p=true)
include hp
theorem Qpb:Qq p.1 (Q6 m)=true∧Qq p.2 (Q5 m)=true:=by
 have _:=hc
 simp only [Qat,Bool.and_eq_true] at hp;exact ⟨hp.1.2,hp.2⟩
theorem Qfy {s:Nat} (hs:s≤cuts.length+1):Qq (inp m cuts p.1 s) (dimI m cuts s)=true:=Qt6 (Qkc hc hs).1 (Qpb hc hp).1
theorem QIo:Qq (Z5 m p.1) (Q5 m)=true:=by
 have:=Qfy hc hp (s:=cuts.length+1) (by omega)
 rwa [Qjh hc,QCu hc] at this
theorem QUC:Qq (Zi (Z5 m p.1) p.2).1 (Q5 m)=true:=by
 have h1:=QIo hc hp
 have h2:=(Qpb hc hp).2
 have:=QHJ (Qp2 h1 h2)
 rwa [(YV.1 h1).2] at this
theorem Qq0 {s:Nat} (hs:s≤cuts.length+1):Qq (dOut m cuts p s) (dimI m cuts s)=true:=(Ql9 (Qkc hc hs).2 (Qfy hc hp hs) (QUC hc hp)).1
theorem QHR {s:Nat} (hs:s≤cuts.length):Z1 (Yu m cuts s) (Qb8 m cuts p s).1=true∧(Qb8 m cuts p s).1.length=(Yu m cuts s).length :=
 ⟨(Ql9 (QpD hc hs) (Qfy hc hp (by omega)) (Qq0 hc hp (by omega))).2,QgB _ _ _ (by unfold QbB;rw [Qc6];omega)⟩
theorem QuG {s:Nat} (hs:s≤cuts.length):Yr (Yu m cuts s) 0 (QbB m cuts p.1 s)=true :=
 QJ4 (QpD hc hs) (by have:=QjZ hc hs;intro e;rw [e] at this;simp at this) (Qfy hc hp (by omega))
theorem QoX {s:Nat}:(QbB m cuts p.1 s).length=(Yu m cuts s).length+1:=by have _:=hc;have _:=hp;exact Qc6 _ _
theorem QQt {s:Nat}:gtd [] (QbB m cuts p.1 s) 0=inp m cuts p.1 s:=by have _:=hc;have _:=hp;exact QFe _ _
theorem Qwn {s:Nat} (hs:s≤cuts.length):gtd [] (QbB m cuts p.1 s) (Yu m cuts s).length=inp m cuts p.1 (s+1):=by have _:=hp;rw [QEc hc hs];rfl
end
end Go.Proofs.YtjbdljkhbglnhaaGreat.Am
namespace Go.Proofs.YtjbdljkhbglnhaaGreat.Am
open Go Sz
section
variable (c:QN) (b:List Qt)
def Y0 (s:Nat):Bool:=gtd false (Qar c) s
def Y3 (s:Nat):List TIns:=YC (cDs c) (nSt c:Nat) s b.length (Y0 c s)
abbrev opS (s:Nat):List TOp':=Yu (Yc c) (ZI c) s
abbrev inS (s j:Nat):List Int:=inp (Yc c) (ZI c) (prAt b j).1 s
abbrev rowS (s j:Nat):List (List Int):=QbB (Yc c) (ZI c) (prAt b j).1 s
abbrev doS (s j:Nat):List Int:=dOut (Yc c) (ZI c) (prAt b j) s
abbrev bkS (s j:Nat):=Qb8 (Yc c) (ZI c) (prAt b j) s
abbrev outA (j:Nat):List Int:=Z5 (Yc c) (prAt b j).1
def Zs (s:Nat):Bool:=decide (s+1=nSt c)
def QaP (s:Nat) (r:List (List Int)):List (List Int):=if Y0 c s then r.take 1 else r
def Qap (s:Nat):Nat→List (List Int)
 | 0=>(Yw (opS c s)).1
 | g+1=>(ZD (Qap s g) (bkS c b s g).1).1
def Je:Nat→Int
 | 0=>0
 | f+1=>(Q4 (Je f) (Z6 (outA c b f) (prAt b f).2).1).1
def lsat (f:Nat):Bool:=(Z6 (outA c b f) (prAt b f).2).2||(Q4 (Je c b f) (Z6 (outA c b f) (prAt b f).2).1).2
def Qgk (s j:Nat):Bool:=fsat (Yc c) (ZI c) (prAt b j).1 s||(Zs c s&&lsat c b j)
def Qg7 (s j:Nat):Bool:=(bkS c b s j).2.2||(ZD (Qap c b s j) (bkS c b s j).1).2||(Zs c s&&(Zi (outA c b j) (prAt b j).2).2)
def satV (s f g:Nat):Bool:=(List.range f).any (Qgk c b s)||(List.range g).any (Qg7 c b s)
def YG (s f g:Nat):List ZG:=(List.range' g (f-g)).map fun j:Nat=>((j:Int),QaP c s (rowS c b s j))
def Qac (s g:Nat) (k1:Int):List (List Int):=if k1=5 then rowS c b s g else []
def vX (s f:Nat) (k1:Int):List Int:=if k1=1 then inS c b s f else []
def vY (s f:Nat) (k1:Int):List Int:=if k1=2∧s+1<nSt c then inS c b (s+1) (f-1) else []
def vG (s g:Nat) (k1:Int):List Int:=if k1=4∨(k1=5∧s+1<nSt c) then doS c b (s+1) g else []
def vD (s g:Nat) (k1:Int):List Int:=if k1=6∧0<s then doS c b s (g-1) else []
def st (s:Nat) (k f g:Nat) (k1:Int):Qc :=
 ((k:Int),Y3 c b s,opS c s,Zs c s,Y0 c s,YG c b s f g,Qac c b s g k1,vX c b s f k1,vY c b s f k1,vG c b s g k1,vD c b s g k1,Qap c b s g,(if Zs c s then Je c b f else 0),satV c b s f g)
end
structure Nums (M f g:Nat) (kk:Int):Prop where
 gf:g≤f
 fM:f≤M
 k1:kk=1→f<M
 k2:kk=2→1≤f
 k45:kk=4∨kk=5→g<f
 k6:kk=6→1≤g
theorem Quz:∀ {l:List ZG} {m k:Int},(∀ x,x∈l→x.1≠m)→Jw l m k = -1
 | [],m,k,h=>rfl
 | x::r,m,k,h=>by rw [Jw,if_neg (h x List.mem_cons_self)];exact Quz (fun y hy=>h y (List.mem_cons_of_mem _ hy))
theorem QHr {c:QN} {b:List Qt} {s f g:Nat}:QL (YG c b s f g) (f:Int) = -1:=by
 refine Quz (fun x hx=>?_)
 unfold YG at hx
 obtain ⟨j,hj,rfl⟩:=List.mem_map.1 hx
 rw [List.mem_range'_1] at hj
 simp only [ne_eq];omega
theorem Qkk {c:QN} {b:List Qt} {s f g:Nat} (h:g<f):YG c b s f g=((g:Int),QaP c s (rowS c b s g))::YG c b s f (g+1):=by
 unfold YG
 rw [show f-g=(f-(g+1))+1 by omega,List.range'_succ,List.map_cons]
theorem QJe {c:QN} {b:List Qt} {s f g:Nat} (h:g≤f):YG c b s (f+1) g=YG c b s f g++[((f:Int),QaP c s (rowS c b s f))]:=by
 unfold YG
 rw [show f+1-g=(f-g)+1 by omega,List.range'_concat,List.map_append]
 simp only [List.map_cons,List.map_nil,Nat.one_mul]
 rw [show g+(f-g)=f by omega]
theorem QyN {c:QN} {b:List Qt} {s f g:Nat} (h:g<f):QL (YG c b s f g) (g:Int)=0:=by
 rw [Qkk h];unfold QL;rw [Jw,if_pos rfl]
theorem QaM {c:QN} {b:List Qt} {s g:Nat} {k1:Int} (h:k1≠5):Qac c b s g k1=[]:=by unfold Qac;rw [if_neg h]
theorem QaZ {c:QN} {b:List Qt} {s f:Nat} {k1:Int} (h:k1≠1):vX c b s f k1=[]:=by unfold vX;rw [if_neg h]
theorem Qam {c:QN} {b:List Qt} {s f:Nat} {k1:Int} (h:¬ (k1=2∧s+1<nSt c)):vY c b s f k1=[]:=by unfold vY;rw [if_neg h]
theorem QbE {c:QN} {b:List Qt} {s g:Nat} {k1:Int} (h4:k1≠4) (h5:k1≠5):vG c b s g k1=[]:=by
 unfold vG;rw [if_neg];rintro (e | e)
 ·exact h4 e
 ·exact h5 e.1
theorem Qal {c:QN} {b:List Qt} {s g:Nat} {k1:Int} (h:¬ (k1=6∧0<s)):vD c b s g k1=[]:=by unfold vD;rw [if_neg h]
theorem JL {p:Prop} {x y:Int} (h:x≠y):¬ (x=y∧p):=fun e=>h e.1
theorem QM0 {c:QN} {b:List Qt} {s f:Nat}:vX c b s f 1=inS c b s f:=by unfold vX;rw [if_pos rfl]
theorem QN1 {c:QN} {b:List Qt} {s g:Nat}:vG c b s g 4=doS c b (s+1) g:=by unfold vG;rw [if_pos (.inl rfl)]
section
variable {c:QN} {b:List Qt} (A:Adm c b)
include A
theorem Qej:1≤b.length∧b.length≤5:=by
 have:=A.batch;simp only [Y9,Bool.and_eq_true,QT] at this;omega
theorem Qba {j:Nat} (hj:j<b.length):Qat (Yc c) (prAt b j)=true:=by
 have:=A.batch;simp only [Y9,Bool.and_eq_true] at this
 exact List.all_eq_true.1 this.2 _ (Y5 hj QY)
theorem QM9 (f:Nat):Zc (Je c b f)=true:=by
 have _:=A
 cases f with
 | zero=>rfl
 | succ f=>exact Qqu _ _
theorem QXy (s f:Nat):Zc (if Zs c s then Je c b f else 0)=true:=by
 split
 ·exact QM9 A f
 ·rfl
theorem QeK {s:Nat} (hs:s<nSt c):QU (opS c s)=true∧Q6 (opS c s)=dimI (Yc c) (ZI c) s∧Q5 (opS c s)=dimI (Yc c) (ZI c) (s+1):=QPK A.cuts (by simp only [nSt] at hs;omega)
theorem QXj {s:Nat} (hs:s<nSt c):(Yw (opS c s)).1.length=(opS c s).length∧Z1 (opS c s) (Yw (opS c s)).1=true:=by
 unfold Yw
 rw [if_pos (QeK A hs).1]
 simp only [List.length_map,true_and]
 generalize opS c s=l
 induction l with
 | nil=>rfl
 | cons o l ih=>simp [Z1,ih]
theorem QY9 {s j:Nat} (hs:s<nSt c) (hj:j<b.length):(bkS c b s j).1.length=(opS c s).length∧Z1 (opS c s) (bkS c b s j).1=true:=by
 have:=QHR A.cuts (Qba A hj) (s:=s) (by simp only [nSt] at hs;omega)
 exact ⟨this.2,this.1⟩
theorem QCj {s:Nat} (hs:s<nSt c):∀ {g:Nat},g≤b.length→(Qap c b s g).length=(opS c s).length∧Z1 (opS c s) (Qap c b s g)=true
 | 0,_=>QXj A hs
 | g+1,hg=>by
  obtain ⟨h1,h2⟩:=QCj hs (g:=g) (by omega)
  obtain ⟨h3,h4⟩:=QY9 A hs (j:=g) (by omega)
  refine ⟨?_,Qrl h1 h3 h2 h4⟩
  show (ZD _ _).1.length=_
  rw [QAN];omega
theorem Qf3 {s j:Nat} (hs:s≤nSt c) (hj:j<b.length):Qq (inS c b s j) (dimI (Yc c) (ZI c) s)=true:=Qfy A.cuts (Qba A hj) hs
theorem QeZ {s j:Nat} (hs:s≤nSt c) (hj:j<b.length):Qq (doS c b s j) (dimI (Yc c) (ZI c) s)=true:=Qq0 A.cuts (Qba A hj) hs
theorem Qkg {s k f g:Nat} {k1:Int} (hs:s<nSt c) (hk:k≤(Y3 c b s).length) (H:Nums b.length f g k1):QR (st c b s k f g k1)=true:=by
 obtain ⟨hm,hi,ho⟩:=QeK A hs
 have hs':s≤(ZI c).length:=by simp only [nSt] at hs;omega
 have hsr:=QCj A hs (g:=g) (by have:=H.gf;have:=H.fM;omega)
 have hX:Yk (vX c b s f k1) (Q6 (opS c s))=true:=by
  unfold vX Yk;split
  ·rename_i h;rw [hi,Qf3 A (by omega) (H.k1 h)];simp
  ·simp
 have hY:Yk (vY c b s f k1) (Q5 (opS c s))=true:=by
  unfold vY Yk;split
  ·rename_i h;rw [ho,Qf3 A (by omega) (by have:=H.k2 h.1;have:=H.fM;omega)];simp
  ·simp
 have hG:Yk (vG c b s g k1) (Q5 (opS c s))=true:=by
  unfold vG Yk;split
  ·rename_i h
   have:g<f:=H.k45 (h.imp id (fun h=>h.1))
   rw [ho,QeZ A (by omega) (by have:=H.fM;omega)];simp
  ·simp
 have hD:Yk (vD c b s g k1) (Q6 (opS c s))=true:=by
  unfold vD Yk;split
  ·rename_i h;rw [hi,QeZ A (by omega) (by have:=H.k6 h.1;have:=H.gf;have:=H.fM;omega)];simp
  ·simp
 have hst:(YG c b s f g).all (YP (st c b s k f g k1))=true:=by
  rw [List.all_eq_true]
  intro x hx
  unfold YG at hx
  obtain ⟨j,hj,rfl⟩:=List.mem_map.1 hx
  rw [List.mem_range'_1] at hj
  have hjb:j<b.length:=by have:=H.fM;omega
  have hg:=QuG A.cuts (Qba A hjb) hs'
  have hl:(rowS c b s j).length=(opS c s).length+1:=QoX A.cuts (Qba A hjb)
  have ek:Z9 (st c b s k f g k1)=if Y0 c s=true then 1 else ((opS c s).length:Int)+1:=rfl
  have eo:(st c b s k f g k1).2.2.1=opS c s:=rfl
  unfold YP Yl
  rw [ek,eo]
  simp only [Bool.and_eq_true,beq_iff_eq]
  unfold QaP
  by_cases hr:Y0 c s=true
  ·simp only [if_pos hr]
   refine ⟨by rw [List.length_take,hl,Nat.min_eq_left (by omega)];rfl,?_⟩
   exact Qgc _ _ _ _ (Qgc _ _ _ _ hg)
  ·simp only [if_neg hr]
   exact ⟨congrArg Int.ofNat hl,Qgc _ _ _ _ hg⟩
 simp only [QR,Bool.and_eq_true]
 refine ⟨⟨⟨⟨hm,?_⟩,?_⟩,hst⟩,⟨⟨hX,hD⟩,hY⟩,hG⟩
 ·simp only [st,QT];omega
 ·simp only [st,Jh,Bool.and_eq_true,beq_iff_eq];exact hsr
theorem QUO {s k f g:Nat} {k1:Int} (h2:¬ (k1=2∧s+1<nSt c)) (h4:k1≠4) (h5:k1≠5) (h6:¬ (k1=6∧0<s)) :
  YL (setX (st c b s k f g k1) (inS c b s f)) ((k:Int)+1)=st c b s (k+1) f g 1:=by
 have _:=A
 simp only [YL,setX,setY,setG,setD,st,sPc,QA,sOps,Qs,Qx,Qf,QD,sX,sY,sG,sD,QC,QB,sSat]
 rw [QaM h5,Qam h2,QbE h4 h5,Qal h6,QaM (k1:=1) (by decide),QM0,Qam (k1:=1) (JL (by decide)),QbE (k1:=1) (by decide) (by decide),Qal (k1:=1) (JL (by decide))]
 rfl
theorem QRd {s k f g:Nat} {k1:Int} (h1:k1=2):YL (setY (st c b s k f g k1) []) ((k:Int)+1)=st c b s (k+1) f g 3:=by
 have _:=A
 subst h1
 simp only [YL,setX,setY,setG,setD,st,sPc,QA,sOps,Qs,Qx,Qf,QD,sX,sY,sG,sD,QC,QB,sSat]
 rw [QaM (k1:=2) (by decide),QaZ (k1:=2) (by decide),QbE (k1:=2) (by decide) (by decide),Qal (k1:=2) (JL (by decide)),QaM (k1:=3) (by decide),QaZ (k1:=3) (by decide),Qam (k1:=3) (JL (by decide)),QbE (k1:=3) (by decide) (by decide),Qal (k1:=3) (JL (by decide))]
 rfl
theorem QPu {s k f g:Nat} {k1:Int} (h1:k1≠1) (h2:¬ (k1=2∧s+1<nSt c)) (h5:k1≠5) (h6:¬ (k1=6∧0<s)) :
  YL (setG (st c b s k f g k1) (doS c b (s+1) g)) ((k:Int)+1)=st c b s (k+1) f g 4:=by
 have _:=A
 simp only [YL,setX,setY,setG,setD,st,sPc,QA,sOps,Qs,Qx,Qf,QD,sX,sY,sG,sD,QC,QB,sSat]
 rw [QaM h5,QaZ h1,Qam h2,Qal h6,QaM (k1:=4) (by decide),QaZ (k1:=4) (by decide),Qam (k1:=4) (JL (by decide)),QN1,Qal (k1:=4) (JL (by decide))]
 rfl
theorem QPx {s k f g:Nat} {k1:Int} (h1:k1=6):YL (setD (st c b s k f g k1) []) ((k:Int)+1)=st c b s (k+1) f g 7:=by
 have _:=A
 subst h1
 simp only [YL,setX,setY,setG,setD,st,sPc,QA,sOps,Qs,Qx,Qf,QD,sX,sY,sG,sD,QC,QB,sSat]
 rw [QaM (k1:=6) (by decide),QaZ (k1:=6) (by decide),Qam (k1:=6) (JL (by decide)),QbE (k1:=6) (by decide) (by decide),QaM (k1:=7) (by decide),QaZ (k1:=7) (by decide),Qam (k1:=7) (JL (by decide)),QbE (k1:=7) (by decide) (by decide),Qal (k1:=7) (JL (by decide))]
 rfl
theorem QLi {s k f g:Nat} {k1:Int} (h1:k1≠1) (h2:¬ (k1=2∧s+1<nSt c)) (h4:k1≠4) (h5:k1≠5) (h6:¬ (k1=6∧0<s)):YL (st c b s k f g k1) ((k:Int)+1)=st c b s (k+1) f g 8:=by
 have _:=A
 simp only [YL,setX,setY,setG,setD,st,sPc,QA,sOps,Qs,Qx,Qf,QD,sX,sY,sG,sD,QC,QB,sSat]
 rw [QaM h5,QaZ h1,Qam h2,QbE h4 h5,Qal h6,QaM (k1:=8) (by decide),QaZ (k1:=8) (by decide),Qam (k1:=8) (JL (by decide)),QbE (k1:=8) (by decide) (by decide),Qal (k1:=8) (JL (by decide))]
 rfl
theorem QSc {s k f g:Nat} {k1:Int} (hs:s<nSt c) (hk:k≤(Y3 c b s).length) (H:Nums b.length f g k1) (hr:Y0 c s=true) (hgf:g<f) (h1:k1≠1) (h2:¬ (k1=2∧s+1<nSt c)) (h4:k1=4↔s+1<nSt c) (h5:k1≠5) (h6:¬ (k1=6∧0<s)) :
  YL (YU (st c b s k f g k1) (g:Int)) ((k:Int)+1)=st c b s (k+1) f g 5:=by
 have hok:=Qkg A hs hk H
 have hjb:g<b.length:=by have:=H.fM;omega
 have hf:QL (Qf (st c b s k f g k1)) (g:Int)=0:=QyN hgf
 have hrow:gtd [] (gtd Zu (Qf (st c b s k f g k1)) 0).2 0=inS c b s g:=by
  show gtd [] (gtd Zu (YG c b s f g) 0).2 0=_
  rw [Qkk hgf,QbG]
  have hh:gtd [] (rowS c b s g) 0=inS c b s g:=QQt A.cuts (Qba A hjb) (s:=s)
  have hl:(rowS c b s g).length=(opS c s).length+1:=QoX A.cuts (Qba A hjb) (s:=s)
  show gtd [] (QaP c s (rowS c b s g)) 0=_
  unfold QaP
  rw [hr,if_pos rfl,← hh]
  cases hq:rowS c b s g with
  | nil=>rw [hq] at hl;simp at hl
  | cons x r=>simp [gtd]
 unfold YU
 simp only [hf]
 rw [if_pos (by rw [hok];rfl),show Int.toNat 0=0 from rfl,hrow]
 have hg:vG c b s g k1=vG c b s g 5:=by
  unfold vG
  by_cases h:s+1<nSt c
  ·rw [if_pos (.inl (h4.2 h)),if_pos (.inr ⟨rfl,h⟩)]
  ·rw [if_neg (by rintro (e | e);exact h (h4.1 e);exact h e.2),if_neg (by rintro (e | e);cases e;exact h e.2)]
 have hfu:Qac c b s g 5=rowS c b s g:=by unfold Qac;rw [if_pos rfl]
 simp only [YL,setX,setY,setG,setD,st,sPc,QA,sOps,Qs,Qx,Qf,QD,sX,sY,sG,sD,QC,QB,sSat]
 rw [hg,QaZ h1,Qam h2,Qal h6,hfu,QaZ (k1:=5) (by decide),Qam (k1:=5) (JL (by decide)),Qal (k1:=5) (JL (by decide))]
 rfl
theorem QRB {s k f g:Nat} {k1:Int} (hs:s<nSt c) (hk:k≤(Y3 c b s).length) (H:Nums b.length f g k1) (hf:f<b.length) (h0:0<s→k1=1) (h2:¬ (k1=2∧s+1<nSt c)) (h4:k1≠4) (h5:k1≠5) (h6:¬ (k1=6∧0<s)) :
  YL (Yd (st c b s k f g k1) (f:Int) (if s=0 then (prAt b f).1 else sX (st c b s k f g k1)) (prAt b f).2) ((k:Int)+1)=st c b s (k+1) (f+1) g 2:=by
 have hok:=Qkg A hs hk H
 obtain ⟨hm,hi,ho⟩:=QeK A hs
 have hs':s≤(ZI c).length:=by simp only [nSt] at hs;omega
 have hp:=Qba A hf
 have hx:(if s=0 then (prAt b f).1 else sX (st c b s k f g k1))=inS c b s f:=by
  by_cases h:s=0
  ·subst h;rw [if_pos rfl];exact (QFZ A.cuts _).symm
  ·rw [if_neg h]
   show vX c b s f k1=_
   unfold vX;rw [if_pos (h0 (by omega))]
 rw [hx]
 have hlast:Zs c s=true→s=(ZI c).length:=by intro h;unfold Zs nSt at h;have h:=of_decide_eq_true h;omega
 have hfind:QL (Qf (st c b s k f g k1)) (f:Int) = -1:=QHr
 have hfw:Jr (st c b s k f g k1) (f:Int) (inS c b s f) (prAt b f).2=true:=by
  unfold Jr
  rw [hok,hfind]
  have h1:Qq (inS c b s f) (Q6 (sOps (st c b s k f g k1)))=true:=by
   show Qq _ (Q6 (opS c s))=true
   rw [hi];exact Qf3 A (by omega) hf
  have h3:(!Qs (st c b s k f g k1)||Qq (prAt b f).2 (Q5 (sOps (st c b s k f g k1))))=true:=by
   show (!Zs c s||Qq (prAt b f).2 (Q5 (opS c s)))=true
   cases hl:Zs c s with
   | false=>rfl
   | true =>
    have e:=hlast hl
    rw [ho,e,QCu A.cuts]
    simpa using (Qpb A.cuts hp).2
  rw [h1,h3];rfl
 have hy:gtd [] (QE (opS c s) (inS c b s f)).1 (opS c s).length=inS c b (s+1) f:=Qwn A.cuts hp hs'
 have key:YL (Yd (st c b s k f g k1) (f:Int) (inS c b s f) (prAt b f).2) ((k:Int)+1) =
   ((k:Int)+1,Y3 c b s,opS c s,Zs c s,Y0 c s,YG c b s f g++[((f:Int),QaP c s (rowS c b s f))],Qac c b s g k1,[],(if Zs c s=true then vY c b s f k1 else gtd [] (QE (opS c s) (inS c b s f)).1 (opS c s).length),vG c b s g k1,vD c b s g k1,Qap c b s g,
    (if Zs c s=true then (Q4 (if Zs c s=true then Je c b f else 0) (Z6 (gtd [] (QE (opS c s) (inS c b s f)).1 (opS c s).length) (prAt b f).2).1).1 else if Zs c s=true then Je c b f else 0),
    (satV c b s f g||(QE (opS c s) (inS c b s f)).2||(Zs c s&&((Z6 (gtd [] (QE (opS c s) (inS c b s f)).1 (opS c s).length) (prAt b f).2).2||(Q4 (if Zs c s=true then Je c b f else 0) (Z6 (gtd [] (QE (opS c s) (inS c b s f)).1 (opS c s).length) (prAt b f).2).1).2)))):=by
  unfold Yd
  rw [if_pos hfw]
  rfl
 rw [key,hy]
 have e1:YG c b s f g++[((f:Int),QaP c s (rowS c b s f))]=YG c b s (f+1) g:=(QJe H.gf).symm
 have e2:(if Zs c s=true then vY c b s f k1 else inS c b (s+1) f)=vY c b s (f+1) 2:=by
  unfold vY
  cases hl:Zs c s with
  | false =>
   simp only [Zs,decide_eq_false_iff_not] at hl
   rw [if_neg (by simp),if_pos ⟨rfl,by omega⟩,Nat.add_sub_cancel]
  | true =>
   simp only [Zs,decide_eq_true_eq] at hl
   rw [if_pos rfl,if_neg h2,if_neg (by omega)]
 have e3:(if Zs c s=true then (Q4 (if Zs c s=true then Je c b f else 0) (Z6 (inS c b (s+1) f) (prAt b f).2).1).1 else if Zs c s=true then Je c b f else 0)=(if Zs c s=true then Je c b (f+1) else 0):=by
  cases hl:Zs c s with
  | false=>simp
  | true =>
   simp only [if_true]
   rw [hlast hl]
   show (Q4 _ (Z6 (inp _ _ _ _) _).1).1=_
   rw [Qjh A.cuts]
   rfl
 have e4:(satV c b s f g||(QE (opS c s) (inS c b s f)).2||(Zs c s&&((Z6 (inS c b (s+1) f) (prAt b f).2).2||(Q4 (if Zs c s=true then Je c b f else 0) (Z6 (inS c b (s+1) f) (prAt b f).2).1).2)))=satV c b s (f+1) g:=by
  unfold satV
  rw [List.range_succ,List.any_append]
  have:Qgk c b s f=((QE (opS c s) (inS c b s f)).2||(Zs c s&&((Z6 (inS c b (s+1) f) (prAt b f).2).2||(Q4 (if Zs c s=true then Je c b f else 0) (Z6 (inS c b (s+1) f) (prAt b f).2).1).2))):=by
   unfold Qgk
   cases hl:Zs c s with
   | false=>rfl
   | true =>
    simp only [if_true,Bool.true_and]
    rw [hlast hl]
    have:inS c b ((ZI c).length+1) f=outA c b f:=Qjh A.cuts _
    rw [this]
    rfl
  simp only [List.any_cons,List.any_nil,Bool.or_false]
  rw [this]
  cases (List.range f).any (Qgk c b s) <;> cases (List.range g).any (Qg7 c b s) <;> simp
 have e5:vX c b s (f+1) 2=[]:=rfl
 have e6:vG c b s g k1=vG c b s g 2:=by unfold vG;rw [if_neg (by rintro (e | e);exact h4 e;exact h5 e.1),if_neg (by rintro (e | e);cases e;exact absurd e.1 (by decide))]
 have e7:vD c b s g k1=vD c b s g 2:=by unfold vD;rw [if_neg h6,if_neg (by rintro ⟨e,_⟩;exact absurd e (by decide))]
 have e8:Qac c b s g k1=Qac c b s g 2:=by unfold Qac;rw [if_neg h5,if_neg (by decide)]
 rw [e1,e2,e3,e4,← e5,e6,e7,e8]
 rfl
theorem QUc {s k f g:Nat} {k1:Int} (hs:s<nSt c) (hk:k≤(Y3 c b s).length) (H:Nums b.length f g k1) (hgf:g<f) (hr1:Y0 c s=true→k1=5) (hr2:Y0 c s=false→s+1<nSt c→k1=4) (h1:k1≠1) (h2:¬ (k1=2∧s+1<nSt c)) (h5:k1=5→Y0 c s=true) (h4:k1=4→s+1<nSt c) :
  YL (if s=0 then setD (Zz (st c b s k f g k1) (g:Int) (prAt b g).2) [] else Zz (st c b s k f g k1) (g:Int) (prAt b g).2) ((k:Int)+1)=st c b s (k+1) f (g+1) 6:=by
 have hok:=Qkg A hs hk H
 obtain ⟨hm,hi,ho⟩:=QeK A hs
 have hs':s≤(ZI c).length:=by simp only [nSt] at hs;omega
 have hg:g<b.length:=by have:=H.fM;omega
 have hp:=Qba A hg
 have hlast:Zs c s=true→s=(ZI c).length:=by intro h;unfold Zs nSt at h;have h:=of_decide_eq_true h;omega
 have hfind:QL (Qf (st c b s k f g k1)) (g:Int)=0:=QyN hgf
 have hrl:(rowS c b s g).length=(opS c s).length+1:=QoX A.cuts hp
 have hrows:Z3 (st c b s k f g k1) 0=rowS c b s g:=by
  unfold Z3
  show (if Y0 c s=true then Qac c b s g k1 else (gtd Zu (YG c b s f g) (Int.toNat 0)).2)=_
  rw [Qkk hgf,show Int.toNat 0=0 from rfl,QbG]
  cases hr:Y0 c s with
  | true=>rw [if_pos rfl];unfold Qac;rw [if_pos (hr1 hr)]
  | false=>rw [if_neg (by simp)];show QaP c s _=_;unfold QaP;rw [hr,if_neg (by simp)]
 have hd:bwdD (st c b s k f g k1) 0 (prAt b g).2=(doS c b (s+1) g,Zs c s&&(Zi (outA c b g) (prAt b g).2).2):=by
  unfold bwdD
  rw [hrows]
  show (if Zs c s=true then Zi (gtd [] (rowS c b s g) (opS c s).length) (prAt b g).2 else (vG c b s g k1,false))=_
  cases hl:Zs c s with
  | true =>
   rw [if_pos rfl,Qwn A.cuts hp hs',hlast hl,Qjh A.cuts]
   show _=(dOut _ _ _ _,_)
   rw [QX7 A.cuts,Bool.true_and]
  | false =>
   simp only [Zs,decide_eq_false_iff_not] at hl
   rw [if_neg (by simp),Bool.false_and]
   unfold vG
   rw [if_pos]
   cases hr:Y0 c s with
   | true=>exact .inr ⟨hr1 hr,by omega⟩
   | false=>exact .inl (hr2 hr (by omega))
 have hbk:JV (st c b s k f g k1) 0 (prAt b g).2=true:=by
  unfold JV
  rw [hok,hrows,hd]
  simp only [Bool.and_eq_true,beq_iff_eq,decide_eq_true_eq]
  refine ⟨⟨⟨⟨trivial,by omega⟩,hrl⟩,?_⟩,?_⟩
  ·unfold Yl
   exact Qgc _ _ _ _ (QuG A.cuts hp hs')
  ·show Qq (doS c b (s+1) g) (Q5 (opS c s))=true
   rw [ho];exact QeZ A (by omega) hg
 have hback:QP (opS c s) (rowS c b s g) (doS c b (s+1) g)=bkS c b s g:=rfl
 have hbd:(bkS c b s g).2.1=doS c b s g:=(QKd A.cuts hs' _).symm
 have hadd:Z7 (sSum (st c b s k f g k1)) ((bkS c b s g).1,0,(Zs c s&&(Zi (outA c b g) (prAt b g).2).2)||(bkS c b s g).2.2)=(Qap c b s (g+1),(if Zs c s then Je c b f else 0),satV c b s f (g+1)):=by
  unfold Z7
  simp only
  have hl:Q4 (sSum (st c b s k f g k1)).2.1 0=((if Zs c s then Je c b f else 0),false):=QJu (QXy A s f)
  rw [hl]
  refine Prod.ext rfl (Prod.ext rfl ?_)
  show (satV c b s f g||((Zs c s&&(Zi (outA c b g) (prAt b g).2).2)||(bkS c b s g).2.2)||(ZD (Qap c b s g) (bkS c b s g).1).2||false)=satV c b s f (g+1)
  unfold satV
  rw [List.range_succ,List.any_append]
  simp only [List.any_cons,List.any_nil,Bool.or_false]
  unfold Qg7
  cases (List.range f).any (Qgk c b s) <;> cases (List.range g).any (Qg7 c b s) <;> cases (bkS c b s g).2.2 <;> cases (ZD (Qap c b s g) (bkS c b s g).1).2 <;> simp
 have key:Zz (st c b s k f g k1) (g:Int) (prAt b g).2=((k:Int),Y3 c b s,opS c s,Zs c s,Y0 c s,YG c b s f (g+1),[],vX c b s f k1,vY c b s f k1,[],doS c b s g,Qap c b s (g+1),(if Zs c s then Je c b f else 0),satV c b s f (g+1)):=by
  unfold Zz
  simp only [hfind]
  rw [if_pos hbk,hrows,hd]
  simp only
  have e:sOps (st c b s k f g k1)=opS c s:=rfl
  rw [e,hback,hadd,hbd]
  have e2:(Qf (st c b s k f g k1)).take (Int.toNat 0)++(Qf (st c b s k f g k1)).drop (Int.toNat 0+1)=YG c b s f (g+1):=by
   show (YG c b s f g).take 0++(YG c b s f g).drop 1=_
   rw [Qkk hgf];rfl
  rw [e2]
  rfl
 rw [key]
 have f1:vX c b s f k1=vX c b s f 6:=by unfold vX;rw [if_neg h1,if_neg (by decide)]
 have f2:vY c b s f k1=vY c b s f 6:=by unfold vY;rw [if_neg h2,if_neg (by rintro ⟨e,_⟩;exact absurd e (by decide))]
 have f3:vG c b s (g+1) 6=[]:=by unfold vG;rw [if_neg];rintro (e | e);exact absurd e (by decide);exact absurd e.1 (by decide)
 rw [f1,f2]
 by_cases h:s=0
 ·rw [if_pos h]
  simp only [YL,setX,setY,setG,setD,st,sPc,QA,sOps,Qs,Qx,Qf,QD,sX,sY,sG,sD,QC,QB,sSat]
  have f4:vD c b s (g+1) 6=[]:=by unfold vD;rw [if_neg (by omega)]
  rw [f3,f4]
  rfl
 ·rw [if_neg h]
  simp only [YL,setX,setY,setG,setD,st,sPc,QA,sOps,Qs,Qx,Qf,QD,sX,sY,sG,sD,QC,QB,sSat]
  have f4:vD c b s (g+1) 6=doS c b s g:=by unfold vD;rw [if_pos ⟨rfl,by omega⟩,Nat.add_sub_cancel]
  rw [f3,f4]
  rfl
end
end Go.Proofs.YtjbdljkhbglnhaaGreat.Am
namespace Go.Proofs.YtjbdljkhbglnhaaGreat.Am
open Go Sz
structure Loc (ds n M s:Int) (rd:Bool) (f g:Nat) (k1:Int) (i:TIns) (last:Bool):Prop where
 c0:g≤f∧(f:Int)≤M∧1≤i.1∧i.1≤8∧0≤i.2∧i.2<M∧(i.1=8↔last=true)∧i≠(0,0)
 c1:i.1=1→0<s∧i.2=f∧k1≠1
 c2:i.1=2→i.2=f∧(0<s→k1=1)
 c3:i.1=3→s<n-1∧i.2=(f:Int)-1∧k1=2
 c4:i.1=4→s<n-1∧i.2=g
 c5:i.1=5→rd=true∧i.2=g∧g<f∧(s<n-1→k1=4)
 c6:i.1=6→i.2=g∧g<f∧(rd=true→k1=5)∧(rd=false→s<n-1→k1=4)
 c7:i.1=7→0<s∧i.2=(g:Int)-1∧k1=6
 c8:i.1=8→(f:Int)=M∧(g:Int)=M∧k1≠0
 c9:k1=1→i.1=2
 c10:k1=2→s<n-1→i.1=3
 c11:k1=4→i.1=5∨i.1=6
 c12:k1=5→i.1=6
 c13:k1=6→0<s→i.1=7
 c14:k1=5→rd=true
 c15:k1=6→1≤g
 c16:k1=2→1≤f
 c17:k1≠8
 c18:k1=4→s<n-1
 c19:k1=1→0<s
 c20:k1=4∨k1=5→g<f
 c21:k1=1→(f:Int)<M
 c22:s<n-1→(scOf f k1:Int)<M→tm ds n M s i≤tm ds n M s (3,(scOf f k1:Int))
 c23:0<s→(rcOf f k1:Int)<M→tm ds n M s i≤tm ds n M s (1,(rcOf f k1:Int))
 c24:s<n-1→(rgOf n s g k1:Int)<M→tm ds n M s i≤tm ds n M s (4,(rgOf n s g k1:Int))
 c25:0<s→(sgQ g k1:Int)<M→tm ds n M s i≤tm ds n M s (7,(sgQ g k1:Int))
 c26:ds=2→(f:Int)-g≤n-s
 c27:ds=2→i.1=2→(f:Int)-g<n-s
theorem QQ0 {ds n M s:Int} {rd:Bool} {f g:Nat} {k1:Int} {i:TIns} {last:Bool} (h:QgD ds n M s rd f g k1 i last=true):Loc ds n M s rd f g k1 i last:=by
 simp only [QgD,Bool.and_eq_true,decide_eq_true_eq] at h
 exact ⟨h.1.1.1.1.1.1.1.1.1.1.1.1.1.1.1.1.1.1.1.1.1.1.1.1.1.1.1,h.1.1.1.1.1.1.1.1.1.1.1.1.1.1.1.1.1.1.1.1.1.1.1.1.1.1.2,h.1.1.1.1.1.1.1.1.1.1.1.1.1.1.1.1.1.1.1.1.1.1.1.1.1.2,h.1.1.1.1.1.1.1.1.1.1.1.1.1.1.1.1.1.1.1.1.1.1.1.1.2,h.1.1.1.1.1.1.1.1.1.1.1.1.1.1.1.1.1.1.1.1.1.1.1.2,h.1.1.1.1.1.1.1.1.1.1.1.1.1.1.1.1.1.1.1.1.1.1.2,h.1.1.1.1.1.1.1.1.1.1.1.1.1.1.1.1.1.1.1.1.1.2,h.1.1.1.1.1.1.1.1.1.1.1.1.1.1.1.1.1.1.1.1.2,h.1.1.1.1.1.1.1.1.1.1.1.1.1.1.1.1.1.1.1.2,h.1.1.1.1.1.1.1.1.1.1.1.1.1.1.1.1.1.1.2,h.1.1.1.1.1.1.1.1.1.1.1.1.1.1.1.1.1.2,h.1.1.1.1.1.1.1.1.1.1.1.1.1.1.1.1.2,h.1.1.1.1.1.1.1.1.1.1.1.1.1.1.1.2,h.1.1.1.1.1.1.1.1.1.1.1.1.1.1.2,h.1.1.1.1.1.1.1.1.1.1.1.1.1.2,h.1.1.1.1.1.1.1.1.1.1.1.1.2,h.1.1.1.1.1.1.1.1.1.1.1.2,h.1.1.1.1.1.1.1.1.1.1.2,h.1.1.1.1.1.1.1.1.1.2,h.1.1.1.1.1.1.1.1.2,h.1.1.1.1.1.1.1.2,h.1.1.1.1.1.1.2,h.1.1.1.1.1.2,h.1.1.1.1.2,h.1.1.1.2,h.1.1.2,h.1.2,h.2⟩
section
variable (c:QN) (b:List Qt)
def lenP (s:Nat):Nat:=(Y3 c b s).length
def insP (s k:Nat):TIns:=gtd dIns (Y3 c b s) k
def F (s k:Nat):Nat:=cf ((Y3 c b s).take k)
def G (s k:Nat):Nat:=cg ((Y3 c b s).take k)
def K1 (s k:Nat):Int:=Jd (Y3 c b s) k
def sc (s k:Nat):Nat:=scOf (F c b s k) (K1 c b s k)
def rc (s k:Nat):Nat:=rcOf (F c b s k) (K1 c b s k)
def rg (s k:Nat):Nat:=rgOf (nSt c:Nat) (s:Int) (G c b s k) (K1 c b s k)
def sg (s k:Nat):Nat:=sgQ (G c b s k) (K1 c b s k)
def stAt (s k:Nat):Qc:=st c b s k (F c b s k) (G c b s k) (K1 c b s k)
abbrev Qag (s:Nat):Int:=gtd 0 (J5 c) s
def aQ (ks:Nat→Nat) (s:Nat):Qd:=(Qag c s,(List.range' (rc c b (s+1) (ks (s+1))) (sc c b s (ks s)-rc c b (s+1) (ks (s+1)))).map fun j:Nat=>((j:Int),inS c b (s+1) j))
def bQ (ks:Nat→Nat) (s:Nat):Qd:=(Qag c s,(List.range' (rg c b s (ks s)) (sg c b (s+1) (ks (s+1))-rg c b s (ks s))).map fun j:Nat=>((j:Int),doS c b (s+1) j))
def Ze (ks:Nat→Nat):Qe :=
 (b,(List.range (nSt c)).map (fun s=>stAt c b s (ks s)),(List.range (nSt c-1)).map (aQ c b ks),(List.range (nSt c-1)).map (bQ c b ks))
end
section
variable {c:QN} {b:List Qt} (A:Adm c b)
include A
theorem Qir:1≤nSt c∧nSt c≤4:=by have:=A.stages;simp only [nSt];omega
theorem Qyi {s:Nat} (hs:s<nSt c):QcY (cDs c) (nSt c:Nat) b.length s (Y0 c s) (Y3 c b s) 0 0 0=true:=by
 have h1:=Qir A
 have h2:=Qej A
 exact QHV (Y0 c s) A.ds.1 A.ds.2 (by omega) (by omega) (by omega) (by omega) (by omega)
theorem loc {s k:Nat} (hs:s<nSt c) (hk:k<lenP c b s):Loc (cDs c) (nSt c:Nat) b.length s (Y0 c s) (F c b s k) (G c b s k) (K1 c b s k) (insP c b s k) (decide (k+1=lenP c b s)):=by
 have h:=(Qlq _ _ _ _ (Qyi A hs) k (Nat.le_of_lt hk)).1 (insP c b s k) (Y2 hk dIns)
 have e:(if k=0 then (0:Int) else Jd (Y3 c b s) k)=K1 c b s k:=by
  unfold K1 Jd;split <;> rfl
 rw [e,Nat.zero_add,Nat.zero_add] at h
 exact QQ0 h
theorem Qsp {s:Nat} (hs:s<nSt c):F c b s (lenP c b s)=b.length∧G c b s (lenP c b s)=b.length∧K1 c b s (lenP c b s)=8:=by
 have h:=(Qlq _ _ _ _ (Qyi A hs) (lenP c b s) (Nat.le_refl _)).2 rfl
 have e:(if lenP c b s=0 then (0:Int) else Jd (Y3 c b s) (lenP c b s))=K1 c b s (lenP c b s):=by
  unfold K1 Jd;split <;> rfl
 rw [e,Nat.zero_add,Nat.zero_add] at h
 simp only [Qli,decide_eq_true_eq] at h
 unfold F G
 exact ⟨by omega,by omega,h.2.2⟩
theorem nums {s k:Nat} (hs:s<nSt c) (hk:k≤lenP c b s):Nums b.length (F c b s k) (G c b s k) (K1 c b s k):=by
 by_cases h:k<lenP c b s
 ·have L:=loc A hs h
  exact ⟨L.c0.1,by have:=L.c0.2.1;omega,fun e=>by have:=L.c21 e;omega,L.c16,L.c20,L.c15⟩
 ·have:k=lenP c b s:=by omega
  subst this
  obtain ⟨h1,h2,h3⟩:=Qsp A hs
  rw [h1,h2,h3]
  exact ⟨Nat.le_refl _,Nat.le_refl _,(fun e=>by simp at e),(fun e=>by simp at e),(fun e=>by simp at e),(fun e=>by simp at e)⟩
omit A in
theorem QCd {s k:Nat} (hk:k<lenP c b s):F c b s (k+1)=F c b s k+kf (insP c b s k)∧G c b s (k+1)=G c b s k+kg (insP c b s k)∧K1 c b s (k+1)=(insP c b s k).1:=by
 have h:(Y3 c b s)[k]? = some (insP c b s k):=Y2 hk dIns
 have ht:(Y3 c b s).take (k+1)=(Y3 c b s).take k++[insP c b s k]:=by rw [List.take_add_one,h];rfl
 refine ⟨?_,?_,?_⟩
 ·unfold F cf;rw [ht];simp
 ·unfold G cg;rw [ht];simp
 ·unfold K1 Jd;rw [if_neg (by omega)];rfl
theorem QlM {s k:Nat} (hs:s<nSt c) (hk:k<lenP c b s) :
  (s+1<nSt c→sc c b s (k+1)=sc c b s k+if (insP c b s k).1=3 then 1 else 0) ∧
  (0<s→rc c b s (k+1)=rc c b s k+if (insP c b s k).1=1 then 1 else 0) ∧
  (s+1<nSt c→rg c b s (k+1)=rg c b s k+if (insP c b s k).1=4 then 1 else 0) ∧
  (0<s→sg c b s (k+1)=sg c b s k+if (insP c b s k).1=7 then 1 else 0):=by
 have L:=loc A hs hk
 obtain ⟨e1,e2,e3⟩:=QCd (c:=c) (b:=b) hk
 unfold sc rc rg sg
 rw [e1,e2,e3]
 generalize F c b s k=f at *
 generalize G c b s k=g at *
 generalize K1 c b s k=k1 at *
 generalize insP c b s k=i at *
 have hi:=L.c0
 have h6:i.1=6→(s:Int)<(nSt c:Nat)-1→k1=4∨k1=5:=fun e hlt=>by
  have h:=L.c6 e
  cases hr:Y0 c s with
  | true=>exact .inr (h.2.2.1 hr)
  | false=>exact .inl (h.2.2.2 hr hlt)
 have h1:=L.c1;have h2:=L.c2;have h3:=L.c3;have h4:=L.c4;have h5:=L.c5;have h7:=L.c7;have h9:=L.c9;have h10:=L.c10;have h11:=L.c11;have h12:=L.c12;have h13:=L.c13;have h15:=L.c15;have h16:=L.c16;have h18:=L.c18
 obtain ⟨i1,i2⟩:=i
 simp only at hi h1 h2 h3 h4 h5 h6 h7 h9 h10 h11 h12 h13
 unfold scOf rcOf rgOf sgQ kf kg
 simp only
 have hcase:i1=1∨i1=2∨i1=3∨i1=4∨i1=5∨i1=6∨i1=7∨i1=8:=by omega
 rcases hcase with rfl | rfl | rfl | rfl | rfl | rfl | rfl | rfl <;> simp at h1 h2 h3 h4 h5 h6 h7 h9 h10 h11 h12 h13 ⊢ <;> (refine ⟨?_,?_,?_,?_⟩ <;> intro hh <;> (repeat' split) <;> omega)
structure Ok (c:QN) (b:List Qt) (ks:Nat→Nat):Prop where
 le:∀ s,s<nSt c→ks s≤lenP c b s
 qa:∀ s,s+1<nSt c→rc c b (s+1) (ks (s+1))≤sc c b s (ks s)∧(sc c b s (ks s):Int)-rc c b (s+1) (ks (s+1))≤Qag c s
 qb:∀ s,s+1<nSt c→rg c b s (ks s)≤sg c b (s+1) (ks (s+1))∧(sg c b (s+1) (ks (s+1)):Int)-rg c b s (ks s)≤Qag c s
 fl:(∃ s,s<nSt c∧ks s=lenP c b s)→∀ s,s<nSt c→lenP c b s≤ks s+1
def En (c:QN) (b:List Qt) (ks:Nat→Nat) (s:Nat):Prop :=
 ks s<lenP c b s ∧
 ((insP c b s (ks s)).1=1→rc c b s (ks s)<sc c b (s-1) (ks (s-1))) ∧
 ((insP c b s (ks s)).1=3→(sc c b s (ks s):Int)-rc c b (s+1) (ks (s+1))<Qag c s) ∧
 ((insP c b s (ks s)).1=4→rg c b s (ks s)<sg c b (s+1) (ks (s+1))) ∧
 ((insP c b s (ks s)).1=7→(sg c b s (ks s):Int)-rg c b (s-1) (ks (s-1))<Qag c (s-1)) ∧
 ((insP c b s (ks s)).1=8→∀ j,j<nSt c→lenP c b j≤ks j+1)
theorem Qh7 {s:Nat} (hs:s+1<nSt c):1≤Qag c s∧Qag c s≤5:=by
 have:=A.caps
 simp only [Qav,Bool.and_eq_true,beq_iff_eq] at this
 have hl:s<(J5 c).length:=by simp only [nSt] at hs;have:=this.1;simp only [J5,ZI] at *;omega
 have:=List.all_eq_true.1 this.2 _ (Y5 hl 0)
 exact QT.1 this
theorem Qji:(J5 c).length=nSt c-1:=by
 have:=A.caps
 simp only [Qav,Bool.and_eq_true,beq_iff_eq] at this
 have:=this.1;simp only [nSt,J5,ZI] at *;omega
end
end Go.Proofs.YtjbdljkhbglnhaaGreat.Am

