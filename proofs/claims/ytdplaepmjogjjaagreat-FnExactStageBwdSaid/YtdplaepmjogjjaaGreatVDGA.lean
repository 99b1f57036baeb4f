/- -/
import Derived.Test.YtdplaepmjogjjaaGreatVDG8
set_option linter.all false
namespace Go.Proofs.YtdplaepmjogjjaaGreat.Am
open Go Sz
def Qbp (m:Zg) (cuts:List Int) (s:Nat):Nat:=if s=0 then 0 else if s≤cuts.length then (gtd 0 cuts (s-1)).toNat else m.length
def Qe9 (m:Zg) (cuts:List Int) (s:Nat):List TOp':=(m.drop (Qbp m cuts s)).take (Qbp m cuts (s+1)-Qbp m cuts s)
section
variable {m:Zg} {cuts:List Int} (hc:Qa2 m cuts=true)
include hc
end
def inp (m:Zg) (cuts:List Int) (x:List Int) (s:Nat):List Int:=Qla (m.take (Qbp m cuts s)) x
def QnX (m:Zg) (cuts:List Int) (x:List Int) (s:Nat):List (List Int):=(QbL (Qe9 m cuts s) (inp m cuts x s)).1
def fsat (m:Zg) (cuts:List Int) (x:List Int) (s:Nat):Bool:=(QbL (Qe9 m cuts s) (inp m cuts x s)).2
def QJ4 (m:Zg) (cuts:List Int) (p:ZG) (s:Nat):List (List Int) × List Int × Bool :=
 Qy (m.drop (Qbp m cuts s)) (QbL (m.drop (Qbp m cuts s)) (inp m cuts p.1 s)).1 (QT (Qla m p.1) p.2).1
def dOut (m:Zg) (cuts:List Int) (p:ZG) (s:Nat):List Int:=(QJ4 m cuts p s).2.1
def QE8 (m:Zg) (cuts:List Int) (p:ZG) (s:Nat):List (List Int) × List Int × Bool:=Qy (Qe9 m cuts s) (QnX m cuts p.1 s) (dOut m cuts p (s+1))
section
variable {m:Zg} {cuts:List Int} (hc:Qa2 m cuts=true)
include hc
end
end Go.Proofs.YtdplaepmjogjjaaGreat.Am
namespace Go.Proofs.YtdplaepmjogjjaaGreat.Am
open Go Sz
structure Adm (c:Zo) (b:List ZG):Prop where
 model:QX (YS c)=true
 batch:QDY (YS c) b=true
 cuts:Qa2 (YS c) (Y2 c)=true
 stages:(Y2 c).length+1≤4
 ds:1≤cDs c∧cDs c≤2
 redo:(Ql8 c).length=(Y2 c).length+1
 caps:QHJ c=true
 limits:QwG c b.length=true
def nSt (c:Zo):Nat:=(Y2 c).length+1
abbrev prAt (b:List ZG) (k:Nat):ZG:=gtd QGp b k
section
variable {m:Zg} {cuts:List Int} (hc:Qa2 m cuts=true)
include hc
variable {p:ZG} (hp:QqR m p=true)
include hp
end
end Go.Proofs.YtdplaepmjogjjaaGreat.Am
namespace Go.Proofs.YtdplaepmjogjjaaGreat.Am
open Go Sz
section
variable (c:Zo) (b:List ZG)
def Qks (s:Nat):Bool:=gtd false (Ql8 c) s
def Qds (s:Nat):List TIns:=QIk (cDs c) (nSt c:Nat) s b.length (Qks c s)
abbrev opS (s:Nat):List TOp':=Qe9 (YS c) (Y2 c) s
abbrev inS (s j:Nat):List Int:=inp (YS c) (Y2 c) (prAt b j).1 s
abbrev rowS (s j:Nat):List (List Int):=QnX (YS c) (Y2 c) (prAt b j).1 s
abbrev doS (s j:Nat):List Int:=dOut (YS c) (Y2 c) (prAt b j) s
abbrev bkS (s j:Nat):=QE8 (YS c) (Y2 c) (prAt b j) s
abbrev outA (j:Nat):List Int:=Qla (YS c) (prAt b j).1
def Qfl (s:Nat):Bool:=decide (s+1=nSt c)
def QyT (s:Nat) (r:List (List Int)):List (List Int):=if Qks c s then r.take 1 else r
def Qkq (s:Nat):Nat→List (List Int)
 | 0=>(QGR (opS c s)).1
 | g+1=>(Zk (Qkq s g) (bkS c b s g).1).1
def Qj3:Nat→Int
 | 0=>0
 | f+1=>(QV (Qj3 f) (Qju (outA c b f) (prAt b f).2).1).1
def lsat (f:Nat):Bool:=(Qju (outA c b f) (prAt b f).2).2||(QV (Qj3 c b f) (Qju (outA c b f) (prAt b f).2).1).2
def QBd (s j:Nat):Bool:=fsat (YS c) (Y2 c) (prAt b j).1 s||(Qfl c s&&lsat c b j)
def QHA (s j:Nat):Bool:=(bkS c b s j).2.2||(Zk (Qkq c b s j) (bkS c b s j).1).2||(Qfl c s&&(QT (outA c b j) (prAt b j).2).2)
def satV (s f g:Nat):Bool:=(List.range f).any (QBd c b s)||(List.range g).any (QHA c b s)
def QHz (s f g:Nat):List Qe:=(List.range' g (f-g)).map fun j:Nat=>((j:Int),QyT c s (rowS c b s j))
def Qzx (s g:Nat) (k1:Int):List (List Int):=if k1=5 then rowS c b s g else []
def vX (s f:Nat) (k1:Int):List Int:=if k1=1 then inS c b s f else []
def vY (s f:Nat) (k1:Int):List Int:=if k1=2∧s+1<nSt c then inS c b (s+1) (f-1) else []
def vG (s g:Nat) (k1:Int):List Int:=if k1=4∨(k1=5∧s+1<nSt c) then doS c b (s+1) g else []
def vD (s g:Nat) (k1:Int):List Int:=if k1=6∧0<s then doS c b s (g-1) else []
def st (s:Nat) (k f g:Nat) (k1:Int):Qc :=
 ((k:Int),Qds c b s,opS c s,Qfl c s,Qks c s,QHz c b s f g,Qzx c b s g k1,vX c b s f k1,vY c b s f k1,vG c b s g k1,vD c b s g k1,Qkq c b s g,(if Qfl c s then Qj3 c b f else 0),satV c b s f g)
end
structure Nums (M f g:Nat) (kk:Int):Prop where
 gf:g≤f
 fM:f≤M
 k1:kk=1→f<M
 k2:kk=2→1≤f
 k45:kk=4∨kk=5→g<f
 k6:kk=6→1≤g
section
variable {c:Zo} {b:List ZG} (A:Adm c b)
include A
end
end Go.Proofs.YtdplaepmjogjjaaGreat.Am
namespace Go.Proofs.YtdplaepmjogjjaaGreat.Am
open Go Sz
structure Loc (ds n M s:Int) (rd:Bool) (f g:Nat) (k1:Int) (i:TIns) (last:Bool):Prop where
 c0:g≤f∧(f:Int)≤M∧1≤i.1∧i.1≤8∧0≤i.2∧i.2<M∧(i.1=8↔last=true)∧i≠(0,0)
 c1:i.1=1→0<s∧i.2=f∧k1≠1
 c2:i.1=2→i.2=f∧(0<s→k1=1)
 c3:i.1=3→s<n-1∧i.2=(f:Int)-1∧k1=2
 c4:i.1=4→s<n-1∧i.2=g
 c5:i.1=5→rd=true∧i.2=g∧g<f∧(s<n-1→k1=4)
 c6:i.1=6→i.2=g∧g<f∧(rd=true→k1=5)∧(rd=false→s<n-1→k1=4)
 c7:i.1=7→0<s∧i.2=(g:Int)-1∧k1=6
 c8:i.1=8→(f:Int)=M∧(g:Int)=M∧k1≠0
 c9:k1=1→i.1=2
 c10:k1=2→s<n-1→i.1=3
 c11:k1=4→i.1=5∨i.1=6
 c12:k1=5→i.1=6
 c13:k1=6→0<s→i.1=7
 c14:k1=5→rd=true
 c15:k1=6→1≤g
 c16:k1=2→1≤f
 c17:k1≠8
 c18:k1=4→s<n-1
 c19:k1=1→0<s
 c20:k1=4∨k1=5→g<f
 c21:k1=1→(f:Int)<M
 c22:s<n-1→(scOf f k1:Int)<M→tm ds n M s i≤tm ds n M s (3,(scOf f k1:Int))
 c23:0<s→(rcOf f k1:Int)<M→tm ds n M s i≤tm ds n M s (1,(rcOf f k1:Int))
 c24:s<n-1→(rgOf n s g k1:Int)<M→tm ds n M s i≤tm ds n M s (4,(rgOf n s g k1:Int))
 c25:0<s→(sgQ g k1:Int)<M→tm ds n M s i≤tm ds n M s (7,(sgQ g k1:Int))
 c26:ds=2→(f:Int)-g≤n-s
 c27:ds=2→i.1=2→(f:Int)-g<n-s
section
variable (c:Zo) (b:List ZG)
def lenP (s:Nat):Nat:=(Qds c b s).length
def F (s k:Nat):Nat:=cf ((Qds c b s).take k)
def G (s k:Nat):Nat:=cg ((Qds c b s).take k)
def K1 (s k:Nat):Int:=QwN (Qds c b s) k
def sc (s k:Nat):Nat:=scOf (F c b s k) (K1 c b s k)
def rc (s k:Nat):Nat:=rcOf (F c b s k) (K1 c b s k)
def rg (s k:Nat):Nat:=rgOf (nSt c:Nat) (s:Int) (G c b s k) (K1 c b s k)
def sg (s k:Nat):Nat:=sgQ (G c b s k) (K1 c b s k)
abbrev Qn2 (s:Nat):Int:=gtd 0 (QKm c) s
end
section
variable {c:Zo} {b:List ZG} (A:Adm c b)
include A
structure Ok (c:Zo) (b:List ZG) (ks:Nat→Nat):Prop where
 le:∀ s,s<nSt c→ks s≤lenP c b s
 qa:∀ s,s+1<nSt c→rc c b (s+1) (ks (s+1))≤sc c b s (ks s)∧(sc c b s (ks s):Int)-rc c b (s+1) (ks (s+1))≤Qn2 c s
 qb:∀ s,s+1<nSt c→rg c b s (ks s)≤sg c b (s+1) (ks (s+1))∧(sg c b (s+1) (ks (s+1)):Int)-rg c b s (ks s)≤Qn2 c s
 fl:(∃ s,s<nSt c∧ks s=lenP c b s)→∀ s,s<nSt c→lenP c b s≤ks s+1
end
end Go.Proofs.YtdplaepmjogjjaaGreat.Am

