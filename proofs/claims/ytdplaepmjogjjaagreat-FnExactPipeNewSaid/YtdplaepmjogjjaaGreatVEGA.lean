/- -/
import Derived.Test.YtdplaepmjogjjaaGreatVEG8
set_option linter.all false
namespace Go.Proofs.YtdplaepmjogjjaaGreat.Am
open Go Sz
def QbC (m:QN) (cuts:List Int) (s:Nat):Nat:=if s=0 then 0 else if s≤cuts.length then (gtd 0 cuts (s-1)).toNat else m.length
def QfN (m:QN) (cuts:List Int) (s:Nat):List TOp':=(m.drop (QbC m cuts s)).take (QbC m cuts (s+1)-QbC m cuts s)
section
variable {m:QN} {cuts:List Int} (hc:QE m cuts=true)
include hc
end
def inp (m:QN) (cuts:List Int) (x:List Int) (s:Nat):List Int:=Qki (m.take (QbC m cuts s)) x
def QlA (m:QN) (cuts:List Int) (x:List Int) (s:Nat):List (List Int):=(Qbt (QfN m cuts s) (inp m cuts x s)).1
def fsat (m:QN) (cuts:List Int) (x:List Int) (s:Nat):Bool:=(Qbt (QfN m cuts s) (inp m cuts x s)).2
def Qvs (m:QN) (cuts:List Int) (p:Qc) (s:Nat):List (List Int) × List Int × Bool :=
 Qaw (m.drop (QbC m cuts s)) (Qbt (m.drop (QbC m cuts s)) (inp m cuts p.1 s)).1 (Qa0 (Qki m p.1) p.2).1
def dOut (m:QN) (cuts:List Int) (p:Qc) (s:Nat):List Int:=(Qvs m cuts p s).2.1
def QBx (m:QN) (cuts:List Int) (p:Qc) (s:Nat):List (List Int) × List Int × Bool:=Qaw (QfN m cuts s) (QlA m cuts p.1 s) (dOut m cuts p (s+1))
section
variable {m:QN} {cuts:List Int} (hc:QE m cuts=true)
include hc
end
end Go.Proofs.YtdplaepmjogjjaaGreat.Am
namespace Go.Proofs.YtdplaepmjogjjaaGreat.Am
open Go Sz
structure Adm (c:Qf) (b:List Qc):Prop where
 model:QB (ZA c)=true
 batch:Q9 (ZA c) b=true
 cuts:QE (ZA c) (Ze c)=true
 stages:(Ze c).length+1≤4
 ds:1≤cDs c∧cDs c≤2
 redo:(JI c).length=(Ze c).length+1
 caps:Zm c=true
 limits:Zs c b.length=true
theorem Qi7 {c:Qf} {b:List Qc} (h:QK c b=0):Adm c b:=by
 unfold QK at h
 have hs:=QbR (c:=c)
 split at h
 ·simp at h
 split at h
 ·simp at h
 split at h
 ·simp at h
 split at h
 ·simp at h
 split at h
 ·simp at h
 split at h
 ·simp at h
 split at h
 ·simp at h
 rename_i h1 h2 h3 h4 h5 h6 h7
 have hc:=hs.2.2.1.1 (by omega)
 have e:=hs.2.2.2 hc
 have h4':m_in (cDs c) 1 2=true:=by simpa using h4
 exact ⟨by simpa using h1,by simpa using h2,hc,by have:=e;simp only [Ze];omega,Q6.1 h4',by have:=e;simp only [Ze,JI];omega,by simpa using h6,by simpa using h7⟩
def nSt (c:Qf):Nat:=(Ze c).length+1
abbrev prAt (b:List Qc) (k:Nat):Qc:=gtd QC b k
section
variable {m:QN} {cuts:List Int} (hc:QE m cuts=true)
include hc
variable {p:Qc} (hp:Ya m p=true)
include hp
end
end Go.Proofs.YtdplaepmjogjjaaGreat.Am
namespace Go.Proofs.YtdplaepmjogjjaaGreat.Am
open Go Sz
section
variable (c:Qf) (b:List Qc)
def Qjq (s:Nat):Bool:=gtd false (JI c) s
def QcT (s:Nat):List TIns:=QT (cDs c) (nSt c:Nat) s b.length (Qjq c s)
abbrev opS (s:Nat):List TOp':=QfN (ZA c) (Ze c) s
abbrev inS (s j:Nat):List Int:=inp (ZA c) (Ze c) (prAt b j).1 s
abbrev rowS (s j:Nat):List (List Int):=QlA (ZA c) (Ze c) (prAt b j).1 s
abbrev doS (s j:Nat):List Int:=dOut (ZA c) (Ze c) (prAt b j) s
abbrev bkS (s j:Nat):=QBx (ZA c) (Ze c) (prAt b j) s
abbrev outA (j:Nat):List Int:=Qki (ZA c) (prAt b j).1
def Qe1 (s:Nat):Bool:=decide (s+1=nSt c)
def QBM (s:Nat) (r:List (List Int)):List (List Int):=if Qjq c s then r.take 1 else r
def Qi1 (s:Nat):Nat→List (List Int)
 | 0=>(QR (opS c s)).1
 | g+1=>(Qen (Qi1 s g) (bkS c b s g).1).1
def QiL:Nat→Int
 | 0=>0
 | f+1=>(JP (QiL f) (Qi9 (outA c b f) (prAt b f).2).1).1
def lsat (f:Nat):Bool:=(Qi9 (outA c b f) (prAt b f).2).2||(JP (QiL c b f) (Qi9 (outA c b f) (prAt b f).2).1).2
def QEu (s j:Nat):Bool:=fsat (ZA c) (Ze c) (prAt b j).1 s||(Qe1 c s&&lsat c b j)
def QBE (s j:Nat):Bool:=(bkS c b s j).2.2||(Qen (Qi1 c b s j) (bkS c b s j).1).2||(Qe1 c s&&(Qa0 (outA c b j) (prAt b j).2).2)
def satV (s f g:Nat):Bool:=(List.range f).any (QEu c b s)||(List.range g).any (QBE c b s)
def QyC (s f g:Nat):List QA:=(List.range' g (f-g)).map fun j:Nat=>((j:Int),QBM c s (rowS c b s j))
def QxF (s g:Nat) (k1:Int):List (List Int):=if k1=5 then rowS c b s g else []
def vX (s f:Nat) (k1:Int):List Int:=if k1=1 then inS c b s f else []
def vY (s f:Nat) (k1:Int):List Int:=if k1=2∧s+1<nSt c then inS c b (s+1) (f-1) else []
def vG (s g:Nat) (k1:Int):List Int:=if k1=4∨(k1=5∧s+1<nSt c) then doS c b (s+1) g else []
def vD (s g:Nat) (k1:Int):List Int:=if k1=6∧0<s then doS c b s (g-1) else []
def st (s:Nat) (k f g:Nat) (k1:Int):Qr :=
 ((k:Int),QcT c b s,opS c s,Qe1 c s,Qjq c s,QyC c b s f g,QxF c b s g k1,vX c b s f k1,vY c b s f k1,vG c b s g k1,vD c b s g k1,Qi1 c b s g,(if Qe1 c s then QiL c b f else 0),satV c b s f g)
end
structure Nums (M f g:Nat) (kk:Int):Prop where
 gf:g≤f
 fM:f≤M
 k1:kk=1→f<M
 k2:kk=2→1≤f
 k45:kk=4∨kk=5→g<f
 k6:kk=6→1≤g
section
variable {c:Qf} {b:List Qc} (A:Adm c b)
include A
end
end Go.Proofs.YtdplaepmjogjjaaGreat.Am
namespace Go.Proofs.YtdplaepmjogjjaaGreat.Am
open Go Sz
structure Loc (ds n M s:Int) (rd:Bool) (f g:Nat) (k1:Int) (i:TIns) (last:Bool):Prop where
 c0:g≤f∧(f:Int)≤M∧1≤i.1∧i.1≤8∧0≤i.2∧i.2<M∧(i.1=8↔last=true)∧i≠(0,0)
 c1:i.1=1→0<s∧i.2=f∧k1≠1
 c2:i.1=2→i.2=f∧(0<s→k1=1)
 c3:i.1=3→s<n-1∧i.2=(f:Int)-1∧k1=2
 c4:i.1=4→s<n-1∧i.2=g
 c5:i.1=5→rd=true∧i.2=g∧g<f∧(s<n-1→k1=4)
 c6:i.1=6→i.2=g∧g<f∧(rd=true→k1=5)∧(rd=false→s<n-1→k1=4)
 c7:i.1=7→0<s∧i.2=(g:Int)-1∧k1=6
 c8:i.1=8→(f:Int)=M∧(g:Int)=M∧k1≠0
 c9:k1=1→i.1=2
 c10:k1=2→s<n-1→i.1=3
 c11:k1=4→i.1=5∨i.1=6
 c12:k1=5→i.1=6
 c13:k1=6→0<s→i.1=7
 c14:k1=5→rd=true
 c15:k1=6→1≤g
 c16:k1=2→1≤f
 c17:k1≠8
 c18:k1=4→s<n-1
 c19:k1=1→0<s
 c20:k1=4∨k1=5→g<f
 c21:k1=1→(f:Int)<M
 c22:s<n-1→(scOf f k1:Int)<M→tm ds n M s i≤tm ds n M s (3,(scOf f k1:Int))
 c23:0<s→(rcOf f k1:Int)<M→tm ds n M s i≤tm ds n M s (1,(rcOf f k1:Int))
 c24:s<n-1→(rgOf n s g k1:Int)<M→tm ds n M s i≤tm ds n M s (4,(rgOf n s g k1:Int))
 c25:0<s→(sgQ g k1:Int)<M→tm ds n M s i≤tm ds n M s (7,(sgQ g k1:Int))
 c26:ds=2→(f:Int)-g≤n-s
 c27:ds=2→i.1=2→(f:Int)-g<n-s
section
variable (c:Qf) (b:List Qc)
def lenP (s:Nat):Nat:=(QcT c b s).length
def F (s k:Nat):Nat:=cf ((QcT c b s).take k)
def G (s k:Nat):Nat:=cg ((QcT c b s).take k)
def K1 (s k:Nat):Int:=QC7 (QcT c b s) k
def sc (s k:Nat):Nat:=scOf (F c b s k) (K1 c b s k)
def rc (s k:Nat):Nat:=rcOf (F c b s k) (K1 c b s k)
def rg (s k:Nat):Nat:=rgOf (nSt c:Nat) (s:Int) (G c b s k) (K1 c b s k)
def sg (s k:Nat):Nat:=sgQ (G c b s k) (K1 c b s k)
abbrev Qny (s:Nat):Int:=gtd 0 (YM c) s
end
section
variable {c:Qf} {b:List Qc} (A:Adm c b)
include A
structure Ok (c:Qf) (b:List Qc) (ks:Nat→Nat):Prop where
 le:∀ s,s<nSt c→ks s≤lenP c b s
 qa:∀ s,s+1<nSt c→rc c b (s+1) (ks (s+1))≤sc c b s (ks s)∧(sc c b s (ks s):Int)-rc c b (s+1) (ks (s+1))≤Qny c s
 qb:∀ s,s+1<nSt c→rg c b s (ks s)≤sg c b (s+1) (ks (s+1))∧(sg c b (s+1) (ks (s+1)):Int)-rg c b s (ks s)≤Qny c s
 fl:(∃ s,s<nSt c∧ks s=lenP c b s)→∀ s,s<nSt c→lenP c b s≤ks s+1
theorem Qj6:(YM c).length=nSt c-1:=by
 have:=A.caps
 simp only [Zm,Bool.and_eq_true,beq_iff_eq] at this
 have:=this.1;simp only [nSt,YM,Ze] at *;omega
end
end Go.Proofs.YtdplaepmjogjjaaGreat.Am

