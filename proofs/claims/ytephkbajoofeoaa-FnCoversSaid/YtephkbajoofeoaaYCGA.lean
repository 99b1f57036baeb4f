/- -/
import Derived.Test.YtephkbajoofeoaaYCG8
set_option linter.all false
namespace Go.Proofs.Ytephkbajoofeoaa.Am
open Go Sz
def Qn (m:Qp) (cuts:List Int) (s:Nat):Nat:=if s=0 then 0 else if s≤cuts.length then (gtd 0 cuts (s-1)).toNat else m.length
def Zd (m:Qp) (cuts:List Int) (s:Nat):List TOp':=(m.drop (Qn m cuts s)).take (Qn m cuts (s+1)-Qn m cuts s)
section
variable {m:Qp} {cuts:List Int} (hc:Qh m cuts=true)
include hc
theorem Qb6 {s:Nat} (hs:s≤cuts.length):Qn m cuts s<Qn m cuts (s+1):=by
 have hl:=YW hc
 have hg:QC (m.length-1) none cuts=true:=by have:=hc;simp only [Qh,Bool.and_eq_true] at this;exact this.2
 have h1:∀ k:Nat,k<cuts.length→1≤gtd 0 cuts k∧gtd 0 cuts k≤(m.length:Int)-1:=fun k hk=>by
  have:=Ya hg k _ (Zq hk 0);omega
 have h2:∀ k:Nat,k+1<cuts.length→gtd 0 cuts k<gtd 0 cuts (k+1):=fun k hk=>QbI hg k _ _ (Zq (by omega) 0) (Zq hk 0)
 unfold Qn
 rw [if_neg (Nat.succ_ne_zero s)]
 by_cases h0:s=0
 ·subst h0
  rw [if_pos rfl]
  split
  ·have:=h1 0 (by omega);simp;omega
  ·omega
 ·rw [if_neg h0,if_pos hs]
  have h3:=h1 (s-1) (by omega)
  split
  ·have h4:=h2 (s-1) (by omega)
   rw [show s-1+1=s by omega] at h4
   rw [show s+1-1=s by omega]
   omega
  ·omega
theorem Qcm {s:Nat}:Qn m cuts s≤m.length:=by
 have hl:=YW hc
 have hg:QC (m.length-1) none cuts=true:=by have:=hc;simp only [Qh,Bool.and_eq_true] at this;exact this.2
 unfold Qn
 split
 ·omega
 ·split
  ·have:=Ya hg (s-1) _ (Zq (by omega) 0);omega
  ·omega
theorem Qln:Qn m cuts (cuts.length+1)=m.length:=by have _:=hc;unfold Qn;rw [if_neg (by omega),if_neg (by omega)]
theorem Qgx {s:Nat} (hs:s≤cuts.length):Qo m cuts (s:Int)=((Qn m cuts s:Int),(Qn m cuts (s+1):Int)):=by
 have hl:=YW hc
 have hg:QC (m.length-1) none cuts=true:=by have:=hc;simp only [Qh,Bool.and_eq_true] at this;exact this.2
 have h1:∀ k:Nat,k<cuts.length→1≤gtd 0 cuts k∧gtd 0 cuts k≤(m.length:Int)-1:=fun k hk=>by
  have:=Ya hg k _ (Zq hk 0);omega
 unfold Qo
 rw [if_pos (by rw [hc,Bool.true_and,QK];omega)]
 unfold Qn
 refine Prod.ext ?_ ?_
 ·dsimp only
  by_cases h0:s=0
  ·subst h0;simp
  ·rw [if_pos (by omega),if_neg h0,if_pos hs,Int.toNat_natCast]
   have:=h1 (s-1) (by omega);omega
 ·dsimp only
  rw [if_neg (Nat.succ_ne_zero s)]
  by_cases h2:s<cuts.length
  ·rw [if_pos (by omega),if_pos (by omega),Int.toNat_natCast,show s+1-1=s by omega]
   have:=h1 s h2;omega
  ·rw [if_neg (by omega),if_neg (by omega)]
theorem QkC {s:Nat} (hs:s≤cuts.length):slice m (Qo m cuts (s:Int)).1 (Qo m cuts (s:Int)).2=Zd m cuts s:=by
 rw [Qgx hc hs];simp [slice,Zd]
theorem Qgo {s:Nat} (hs:s≤cuts.length):(Zd m cuts s).length=Qn m cuts (s+1)-Qn m cuts s:=by
 have:=Qcm hc (s:=s+1)
 have:=Qb6 hc hs
 unfold Zd;simp;omega
theorem Qis {s:Nat} (hs:s≤cuts.length):m.take (Qn m cuts (s+1))=m.take (Qn m cuts s)++Zd m cuts s:=by
 have:=Qb6 hc hs
 unfold Zd
 rw [← List.take_add,show Qn m cuts s+(Qn m cuts (s+1)-Qn m cuts s)=Qn m cuts (s+1) by omega]
end
def inp (m:Qp) (cuts:List Int) (x:List Int) (s:Nat):List Int:=QcA (m.take (Qn m cuts s)) x
def QdV (m:Qp) (cuts:List Int) (x:List Int) (s:Nat):List (List Int):=(Jk (Zd m cuts s) (inp m cuts x s)).1
def fsat (m:Qp) (cuts:List Int) (x:List Int) (s:Nat):Bool:=(Jk (Zd m cuts s) (inp m cuts x s)).2
def Qig (m:Qp) (cuts:List Int) (p:Q1) (s:Nat):List (List Int) × List Int × Bool :=
 YQ (m.drop (Qn m cuts s)) (Jk (m.drop (Qn m cuts s)) (inp m cuts p.1 s)).1 (Yt (QcA m p.1) p.2).1
def dOut (m:Qp) (cuts:List Int) (p:Q1) (s:Nat):List Int:=(Qig m cuts p s).2.1
def QmM (m:Qp) (cuts:List Int) (p:Q1) (s:Nat):List (List Int) × List Int × Bool:=YQ (Zd m cuts s) (QdV m cuts p.1 s) (dOut m cuts p (s+1))
section
variable {m:Qp} {cuts:List Int} (hc:Qh m cuts=true)
include hc
end
end Go.Proofs.Ytephkbajoofeoaa.Am
namespace Go.Proofs.Ytephkbajoofeoaa.Am
open Go Sz
structure Adm (c:QM) (b:List Q1):Prop where
 model:Qs (ZB c)=true
 batch:Qi0 (ZB c) b=true
 cuts:Qh (ZB c) (Zz c)=true
 stages:(Zz c).length+1≤4
 ds:1≤cDs c∧cDs c≤2
 redo:(Qhb c).length=(Zz c).length+1
 caps:Qjo c=true
 limits:Qim c b.length=true
def nSt (c:QM):Nat:=(Zz c).length+1
abbrev prAt (b:List Q1) (k:Nat):Q1:=gtd QkS b k
section
variable {m:Qp} {cuts:List Int} (hc:Qh m cuts=true)
include hc
variable {p:Q1} (hp:QhH m p=true)
include hp
end
end Go.Proofs.Ytephkbajoofeoaa.Am
namespace Go.Proofs.Ytephkbajoofeoaa.Am
open Go Sz
section
variable (c:QM) (b:List Q1)
def QcH (s:Nat):Bool:=gtd false (Qhb c) s
def Js (s:Nat):List TIns:=QiR (cDs c) (nSt c:Nat) s b.length (QcH c s)
abbrev opS (s:Nat):List TOp':=Zd (ZB c) (Zz c) s
abbrev inS (s j:Nat):List Int:=inp (ZB c) (Zz c) (prAt b j).1 s
abbrev rowS (s j:Nat):List (List Int):=QdV (ZB c) (Zz c) (prAt b j).1 s
abbrev doS (s j:Nat):List Int:=dOut (ZB c) (Zz c) (prAt b j) s
abbrev bkS (s j:Nat):=QmM (ZB c) (Zz c) (prAt b j) s
abbrev outA (j:Nat):List Int:=QcA (ZB c) (prAt b j).1
def Qbf (s:Nat):Bool:=decide (s+1=nSt c)
def Ql7 (s:Nat) (r:List (List Int)):List (List Int):=if QcH c s then r.take 1 else r
def Qb0 (s:Nat):Nat→List (List Int)
 | 0=>(QmS (opS c s)).1
 | g+1=>(Qat (Qb0 s g) (bkS c b s g).1).1
def QcX:Nat→Int
 | 0=>0
 | f+1=>(Yj (QcX f) (QcR (outA c b f) (prAt b f).2).1).1
def lsat (f:Nat):Bool:=(QcR (outA c b f) (prAt b f).2).2||(Yj (QcX c b f) (QcR (outA c b f) (prAt b f).2).1).2
def Qjy (s j:Nat):Bool:=fsat (ZB c) (Zz c) (prAt b j).1 s||(Qbf c s&&lsat c b j)
def Qh7 (s j:Nat):Bool:=(bkS c b s j).2.2||(Qat (Qb0 c b s j) (bkS c b s j).1).2||(Qbf c s&&(Yt (outA c b j) (prAt b j).2).2)
def satV (s f g:Nat):Bool:=(List.range f).any (Qjy c b s)||(List.range g).any (Qh7 c b s)
def QnZ (s f g:Nat):List QaW:=(List.range' g (f-g)).map fun j:Nat=>((j:Int),Ql7 c s (rowS c b s j))
def Qm5 (s g:Nat) (k1:Int):List (List Int):=if k1=5 then rowS c b s g else []
def vX (s f:Nat) (k1:Int):List Int:=if k1=1 then inS c b s f else []
def vY (s f:Nat) (k1:Int):List Int:=if k1=2∧s+1<nSt c then inS c b (s+1) (f-1) else []
def vG (s g:Nat) (k1:Int):List Int:=if k1=4∨(k1=5∧s+1<nSt c) then doS c b (s+1) g else []
def vD (s g:Nat) (k1:Int):List Int:=if k1=6∧0<s then doS c b s (g-1) else []
def st (s:Nat) (k f g:Nat) (k1:Int):QaD :=
 ((k:Int),Js c b s,opS c s,Qbf c s,QcH c s,QnZ c b s f g,Qm5 c b s g k1,vX c b s f k1,vY c b s f k1,vG c b s g k1,vD c b s g k1,Qb0 c b s g,(if Qbf c s then QcX c b f else 0),satV c b s f g)
end
structure Nums (M f g:Nat) (kk:Int):Prop where
 gf:g≤f
 fM:f≤M
 k1:kk=1→f<M
 k2:kk=2→1≤f
 k45:kk=4∨kk=5→g<f
 k6:kk=6→1≤g
section
variable {c:QM} {b:List Q1} (A:Adm c b)
include A
end
end Go.Proofs.Ytephkbajoofeoaa.Am
namespace Go.Proofs.Ytephkbajoofeoaa.Am
open Go Sz
structure Loc (ds n M s:Int) (rd:Bool) (f g:Nat) (k1:Int) (i:TIns) (last:Bool):Prop where
 c0:g≤f∧(f:Int)≤M∧1≤i.1∧i.1≤8∧0≤i.2∧i.2<M∧(i.1=8↔last=true)∧i≠(0,0)
 c1:i.1=1→0<s∧i.2=f∧k1≠1
 c2:i.1=2→i.2=f∧(0<s→k1=1)
 c3:i.1=3→s<n-1∧i.2=(f:Int)-1∧k1=2
 c4:i.1=4→s<n-1∧i.2=g
 c5:i.1=5→rd=true∧i.2=g∧g<f∧(s<n-1→k1=4)
 c6:i.1=6→i.2=g∧g<f∧(rd=true→k1=5)∧(rd=false→s<n-1→k1=4)
 c7:i.1=7→0<s∧i.2=(g:Int)-1∧k1=6
 c8:i.1=8→(f:Int)=M∧(g:Int)=M∧k1≠0
 c9:k1=1→i.1=2
 c10:k1=2→s<n-1→i.1=3
 c11:k1=4→i.1=5∨i.1=6
 c12:k1=5→i.1=6
 c13:k1=6→0<s→i.1=7
 c14:k1=5→rd=true
 c15:k1=6→1≤g
 c16:k1=2→1≤f
 c17:k1≠8
 c18:k1=4→s<n-1
 c19:k1=1→0<s
 c20:k1=4∨k1=5→g<f
 c21:k1=1→(f:Int)<M
 c22:s<n-1→(scOf f k1:Int)<M→tm ds n M s i≤tm ds n M s (3,(scOf f k1:Int))
 c23:0<s→(rcOf f k1:Int)<M→tm ds n M s i≤tm ds n M s (1,(rcOf f k1:Int))
 c24:s<n-1→(rgOf n s g k1:Int)<M→tm ds n M s i≤tm ds n M s (4,(rgOf n s g k1:Int))
 c25:0<s→(sgQ g k1:Int)<M→tm ds n M s i≤tm ds n M s (7,(sgQ g k1:Int))
 c26:ds=2→(f:Int)-g≤n-s
 c27:ds=2→i.1=2→(f:Int)-g<n-s
section
variable (c:QM) (b:List Q1)
def lenP (s:Nat):Nat:=(Js c b s).length
def F (s k:Nat):Nat:=cf ((Js c b s).take k)
def G (s k:Nat):Nat:=cg ((Js c b s).take k)
def K1 (s k:Nat):Int:=Qma (Js c b s) k
def sc (s k:Nat):Nat:=scOf (F c b s k) (K1 c b s k)
def rc (s k:Nat):Nat:=rcOf (F c b s k) (K1 c b s k)
def rg (s k:Nat):Nat:=rgOf (nSt c:Nat) (s:Int) (G c b s k) (K1 c b s k)
def sg (s k:Nat):Nat:=sgQ (G c b s k) (K1 c b s k)
abbrev Qhq (s:Nat):Int:=gtd 0 (Qn2 c) s
end
section
variable {c:QM} {b:List Q1} (A:Adm c b)
include A
structure Ok (c:QM) (b:List Q1) (ks:Nat→Nat):Prop where
 le:∀ s,s<nSt c→ks s≤lenP c b s
 qa:∀ s,s+1<nSt c→rc c b (s+1) (ks (s+1))≤sc c b s (ks s)∧(sc c b s (ks s):Int)-rc c b (s+1) (ks (s+1))≤Qhq c s
 qb:∀ s,s+1<nSt c→rg c b s (ks s)≤sg c b (s+1) (ks (s+1))∧(sg c b (s+1) (ks (s+1)):Int)-rg c b s (ks s)≤Qhq c s
 fl:(∃ s,s<nSt c∧ks s=lenP c b s)→∀ s,s<nSt c→lenP c b s≤ks s+1
end
end Go.Proofs.Ytephkbajoofeoaa.Am

