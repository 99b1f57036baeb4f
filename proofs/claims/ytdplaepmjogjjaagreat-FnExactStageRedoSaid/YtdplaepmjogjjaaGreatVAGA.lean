/- -/
import Derived.Test.YtdplaepmjogjjaaGreatVAG8
set_option linter.all false
namespace Go.Proofs.YtdplaepmjogjjaaGreat.Am
open Go Sz
def QaM (m:QX) (cuts:List Int) (s:Nat):Nat:=if s=0 then 0 else if s≤cuts.length then (gtd 0 cuts (s-1)).toNat else m.length
def Qdb (m:QX) (cuts:List Int) (s:Nat):List TOp':=(m.drop (QaM m cuts s)).take (QaM m cuts (s+1)-QaM m cuts s)
section
variable {m:QX} {cuts:List Int} (hc:JZ m cuts=true)
include hc
end
def inp (m:QX) (cuts:List Int) (x:List Int) (s:Nat):List Int:=QfK (m.take (QaM m cuts s)) x
def QrN (m:QX) (cuts:List Int) (x:List Int) (s:Nat):List (List Int):=(QW (Qdb m cuts s) (inp m cuts x s)).1
def fsat (m:QX) (cuts:List Int) (x:List Int) (s:Nat):Bool:=(QW (Qdb m cuts s) (inp m cuts x s)).2
def Qu3 (m:QX) (cuts:List Int) (p:Zq) (s:Nat):List (List Int) × List Int × Bool :=
 J1 (m.drop (QaM m cuts s)) (QW (m.drop (QaM m cuts s)) (inp m cuts p.1 s)).1 (J4 (QfK m p.1) p.2).1
def dOut (m:QX) (cuts:List Int) (p:Zq) (s:Nat):List Int:=(Qu3 m cuts p s).2.1
def QE6 (m:QX) (cuts:List Int) (p:Zq) (s:Nat):List (List Int) × List Int × Bool:=J1 (Qdb m cuts s) (QrN m cuts p.1 s) (dOut m cuts p (s+1))
section
variable {m:QX} {cuts:List Int} (hc:JZ m cuts=true)
include hc
end
end Go.Proofs.YtdplaepmjogjjaaGreat.Am
namespace Go.Proofs.YtdplaepmjogjjaaGreat.Am
open Go Sz
structure Adm (c:QY) (b:List Zq):Prop where
 model:QF (YN c)=true
 batch:QuS (YN c) b=true
 cuts:JZ (YN c) (YI c)=true
 stages:(YI c).length+1≤4
 ds:1≤cDs c∧cDs c≤2
 redo:(Qkz c).length=(YI c).length+1
 caps:QGk c=true
 limits:QEk c b.length=true
def nSt (c:QY):Nat:=(YI c).length+1
abbrev prAt (b:List Zq) (k:Nat):Zq:=gtd Qtw b k
section
variable {m:QX} {cuts:List Int} (hc:JZ m cuts=true)
include hc
variable {p:Zq} (hp:Qqz m p=true)
include hp
end
end Go.Proofs.YtdplaepmjogjjaaGreat.Am
namespace Go.Proofs.YtdplaepmjogjjaaGreat.Am
open Go Sz
section
variable (c:QY) (b:List Zq)
def QiR (s:Nat):Bool:=gtd false (Qkz c) s
def QbZ (s:Nat):List TIns:=QB9 (cDs c) (nSt c:Nat) s b.length (QiR c s)
abbrev opS (s:Nat):List TOp':=Qdb (YN c) (YI c) s
abbrev inS (s j:Nat):List Int:=inp (YN c) (YI c) (prAt b j).1 s
abbrev rowS (s j:Nat):List (List Int):=QrN (YN c) (YI c) (prAt b j).1 s
abbrev doS (s j:Nat):List Int:=dOut (YN c) (YI c) (prAt b j) s
abbrev bkS (s j:Nat):=QE6 (YN c) (YI c) (prAt b j) s
abbrev outA (j:Nat):List Int:=QfK (YN c) (prAt b j).1
def QdC (s:Nat):Bool:=decide (s+1=nSt c)
def QxM (s:Nat) (r:List (List Int)):List (List Int):=if QiR c s then r.take 1 else r
def QiI (s:Nat):Nat→List (List Int)
 | 0=>(QCZ (opS c s)).1
 | g+1=>(QeL (QiI s g) (bkS c b s g).1).1
def Qhw:Nat→Int
 | 0=>0
 | f+1=>(Q7 (Qhw f) (QfH (outA c b f) (prAt b f).2).1).1
def lsat (f:Nat):Bool:=(QfH (outA c b f) (prAt b f).2).2||(Q7 (Qhw c b f) (QfH (outA c b f) (prAt b f).2).1).2
def QGx (s j:Nat):Bool:=fsat (YN c) (YI c) (prAt b j).1 s||(QdC c s&&lsat c b j)
def QtJ (s j:Nat):Bool:=(bkS c b s j).2.2||(QeL (QiI c b s j) (bkS c b s j).1).2||(QdC c s&&(J4 (outA c b j) (prAt b j).2).2)
def satV (s f g:Nat):Bool:=(List.range f).any (QGx c b s)||(List.range g).any (QtJ c b s)
def Qtv (s f g:Nat):List Qd:=(List.range' g (f-g)).map fun j:Nat=>((j:Int),QxM c s (rowS c b s j))
def Qt2 (s g:Nat) (k1:Int):List (List Int):=if k1=5 then rowS c b s g else []
def vX (s f:Nat) (k1:Int):List Int:=if k1=1 then inS c b s f else []
def vY (s f:Nat) (k1:Int):List Int:=if k1=2∧s+1<nSt c then inS c b (s+1) (f-1) else []
def vG (s g:Nat) (k1:Int):List Int:=if k1=4∨(k1=5∧s+1<nSt c) then doS c b (s+1) g else []
def vD (s g:Nat) (k1:Int):List Int:=if k1=6∧0<s then doS c b s (g-1) else []
def st (s:Nat) (k f g:Nat) (k1:Int):Qc :=
 ((k:Int),QbZ c b s,opS c s,QdC c s,QiR c s,Qtv c b s f g,Qt2 c b s g k1,vX c b s f k1,vY c b s f k1,vG c b s g k1,vD c b s g k1,QiI c b s g,(if QdC c s then Qhw c b f else 0),satV c b s f g)
end
structure Nums (M f g:Nat) (kk:Int):Prop where
 gf:g≤f
 fM:f≤M
 k1:kk=1→f<M
 k2:kk=2→1≤f
 k45:kk=4∨kk=5→g<f
 k6:kk=6→1≤g
section
variable {c:QY} {b:List Zq} (A:Adm c b)
include A
end
end Go.Proofs.YtdplaepmjogjjaaGreat.Am
namespace Go.Proofs.YtdplaepmjogjjaaGreat.Am
open Go Sz
structure Loc (ds n M s:Int) (rd:Bool) (f g:Nat) (k1:Int) (i:TIns) (last:Bool):Prop where
 c0:g≤f∧(f:Int)≤M∧1≤i.1∧i.1≤8∧0≤i.2∧i.2<M∧(i.1=8↔last=true)∧i≠(0,0)
 c1:i.1=1→0<s∧i.2=f∧k1≠1
 c2:i.1=2→i.2=f∧(0<s→k1=1)
 c3:i.1=3→s<n-1∧i.2=(f:Int)-1∧k1=2
 c4:i.1=4→s<n-1∧i.2=g
 c5:i.1=5→rd=true∧i.2=g∧g<f∧(s<n-1→k1=4)
 c6:i.1=6→i.2=g∧g<f∧(rd=true→k1=5)∧(rd=false→s<n-1→k1=4)
 c7:i.1=7→0<s∧i.2=(g:Int)-1∧k1=6
 c8:i.1=8→(f:Int)=M∧(g:Int)=M∧k1≠0
 c9:k1=1→i.1=2
 c10:k1=2→s<n-1→i.1=3
 c11:k1=4→i.1=5∨i.1=6
 c12:k1=5→i.1=6
 c13:k1=6→0<s→i.1=7
 c14:k1=5→rd=true
 c15:k1=6→1≤g
 c16:k1=2→1≤f
 c17:k1≠8
 c18:k1=4→s<n-1
 c19:k1=1→0<s
 c20:k1=4∨k1=5→g<f
 c21:k1=1→(f:Int)<M
 c22:s<n-1→(scOf f k1:Int)<M→tm ds n M s i≤tm ds n M s (3,(scOf f k1:Int))
 c23:0<s→(rcOf f k1:Int)<M→tm ds n M s i≤tm ds n M s (1,(rcOf f k1:Int))
 c24:s<n-1→(rgOf n s g k1:Int)<M→tm ds n M s i≤tm ds n M s (4,(rgOf n s g k1:Int))
 c25:0<s→(sgQ g k1:Int)<M→tm ds n M s i≤tm ds n M s (7,(sgQ g k1:Int))
 c26:ds=2→(f:Int)-g≤n-s
 c27:ds=2→i.1=2→(f:Int)-g<n-s
section
variable (c:QY) (b:List Zq)
def lenP (s:Nat):Nat:=(QbZ c b s).length
def F (s k:Nat):Nat:=cf ((QbZ c b s).take k)
def G (s k:Nat):Nat:=cg ((QbZ c b s).take k)
def K1 (s k:Nat):Int:=Qx3 (QbZ c b s) k
def sc (s k:Nat):Nat:=scOf (F c b s k) (K1 c b s k)
def rc (s k:Nat):Nat:=rcOf (F c b s k) (K1 c b s k)
def rg (s k:Nat):Nat:=rgOf (nSt c:Nat) (s:Int) (G c b s k) (K1 c b s k)
def sg (s k:Nat):Nat:=sgQ (G c b s k) (K1 c b s k)
abbrev Qke (s:Nat):Int:=gtd 0 (QvR c) s
end
section
variable {c:QY} {b:List Zq} (A:Adm c b)
include A
structure Ok (c:QY) (b:List Zq) (ks:Nat→Nat):Prop where
 le:∀ s,s<nSt c→ks s≤lenP c b s
 qa:∀ s,s+1<nSt c→rc c b (s+1) (ks (s+1))≤sc c b s (ks s)∧(sc c b s (ks s):Int)-rc c b (s+1) (ks (s+1))≤Qke c s
 qb:∀ s,s+1<nSt c→rg c b s (ks s)≤sg c b (s+1) (ks (s+1))∧(sg c b (s+1) (ks (s+1)):Int)-rg c b s (ks s)≤Qke c s
 fl:(∃ s,s<nSt c∧ks s=lenP c b s)→∀ s,s<nSt c→lenP c b s≤ks s+1
end
end Go.Proofs.YtdplaepmjogjjaaGreat.Am

