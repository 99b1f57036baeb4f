/- -/
import Derived.Test.YtdplaepmjogjjaaGreatVFM4
namespace Go.Proofs.YtdplaepmjogjjaaGreat.Am
open Go Go.RowKit Go.Proofs.YtdplaepmjogjjaaGreat
set_option linter.all false
noncomputable section
variable (K:aJ->Prop)
def OJ(t:(List aE)):aJ:=f0 (.a [(bu aK t)])
def wL:aP:=Qg 74 [(.a Qm)] λx=>(none,OJ (ZF x.1))
def Q3S:aN:=⟨[],false⟩
def QJQ:af :=
 (ag [(.ae [aD 1 (.box 39 0 14),aD 2 (.new 77 [(.n aK)])]),(.ae [an 3 1 2,ar 4 3 1,aD 5 (.build [(.n aK)] [(0,1,4)]),a8 2 5 1]),.ret])
def QLg:List (bw × Md):=[(.l 2 1 true,.b [.d])]
theorem QMF(s:Qc):aR Tryz.prog 74 [(.a (aV.cells Qm s))] (OJ (ZF s)):=by
 refine bD Q3S QJQ QLg 0 0 6 wL kn (λK =>
 K (OJ s.2.2.1)) (λhb=>?_)
 exact au rfl
theorem EN:Qf Tryz.prog wL:=Qh λx _=>QMF x.1
def wM(t:Bool):aJ:=cd (bH t)
def OK:aP:=Qg 168 [(.a [(.sl aK)]),(.c (.sl [(.sl [TI])]))] λx=>(none,wM (Jo x.1 x.2.1))
def OL:aN:=⟨[],false⟩
def QBV:af :=
 (ag [(.ae [az 17 .lss 16 15]),(.cond 17 .skip (.exit 0)),(.block 1 (ag [(.ae [ab 18 16,bn 19 14 16 aK,aZ 20 19 4,aD 6 (.new 134 (bC aK)),ab 5 18,a8 6 20 4]),(.draw [ab 21 1,ab 22 5,bn 23 21 22 [(.sl [TI])],an 24 23 0,ar 25 24 1,bh 26 25,an 27 6 3,ar 28 27 1,bh 29 28,az 30 .neq 26 29] []),(.cond 30 (ag [(.ae [ab 4 (bm false)]),.ret]) .skip)])),(.ae [az 31 .add 16 (aw 1),ab 16 31])])
def QA7:List (Nat × Md):=ij [1,14,15,16]
def QzP:af :=
 (ag [(.ae [ab 4 (bm true)]),.ret])
def QO7:af :=
 (ag [(.ae [aD 2 (.box 77 0 1),ab 4 (bm false)]),(ag [(.ae [ab 7 1,bh 8 7,an 9 2 0,ar 10 9 1,bh 11 10,az 12 .neq 8 11]),(.cond 12 (ag [(.ae [ab 4 (bm false)]),.ret]) .skip)]),(ag [(.ae [an 13 2 0,ar 14 13 1,bh 15 14,ab 16 (aw 0)]),(.block 0 (.loop QA7 QBV))]),QzP])
def QFv:List (bw × Md):=[(.t 4,.one .d)]
def QBA:Qb:=TQ 0 0 QFv K
def QQX:Qb:=ba (aU OL 0 QzP (QBA K)) (QBA K)
def QXx:Qb:=bf 0 (QQX K)
def EO(m:List aE)(rows:List (List Int))(x:Int):Prop:=Loop OL 0 QA7 QBV (QXx K) ⟨[(1,(bu [(.sl [TI])] rows)),(14,(bu aK m)),(15,(aO (m.length:Int))),(16,(aO x))],[],0⟩
theorem QDi(m:List aE)(rows:List (List Int))(x:Int) (h :
 (aS (decide (x<(m.length:Int))) ((0<=x/\Int.toNat x<m.length)/\((0<=x/\Int.toNat x<rows.length)/\(aS (((aq ([]:List Int) rows (Int.toNat x)).length:Int) != (((aq bY m (Int.toNat x)).2.2.2).length:Int)) (K (wM false)) (EO K m rows (aI (x+1)))))) (K (wM true)))):EO K m rows x :=
 Loop.of h
theorem QXv(m:List aE)(rows:List (List Int)):aR Tryz.prog 168 [(.a [(.c (.sl aK) m)]),(.c (.sl [(.sl [TI])]) rows)] (wM (Jo m rows)):=by
 refine bD OL QO7 QFv 0 0 32 OK kn (λK =>
 (aS ((rows.length:Int) != (m.length:Int)) (K (wM false)) (EO K m rows 0))) (λhb=>?_)
 have gN:(m).length<=9223372036854775807:=hb.1.1.1;have qh:rows.length<=9223372036854775807:=hb.2.1.1;refine⟨λh=>au (by grind[Jo]),λh=>?_⟩;have hl:rows.length=m.length:=by
  have:((rows.length:Int)==(m.length:Int))=true:=by simpa[bne]using h
  have:=of_decide_eq_true (by simpa using this:decide ((rows.length:Int)=m.length)=true);omega
 refine Zd m (λr k=>Z1 r (rows.drop k)=Z1 m rows->EO (λr'=>r'=wM (Jo m rows)) m rows k) ?_ ?_ rfl
 ·intro he;refine QDi _ _ _ _ ⟨λh=>by simp at h,λ_=>au ?_⟩;grind[Jo,Z1]
 ·intro k x r hk aY hg ih he;obtain⟨y,q,hq⟩:∃ y q,rows.drop k=y::q:=by
   cases hq:rows.drop k with
   | nil=>have:=congrArg List.length hq;simp at this;omega
   | cons y q=>exact⟨y,q,rfl⟩
  refine QDi _ _ _ _ ⟨λ_=>?_,λh=>by simp at h;omega⟩;rw[Int.toNat_natCast,hg,Z2 hq,Qy (x:=(k:Int)+1) (by omega) (by omega)];rw[hq,Z1]at he;rw[ZW hq]at ih;refine⟨⟨by omega,aY⟩,⟨by omega,by omega⟩,λh=>au ?_,λh=>ih ?_⟩
  ·grind[Jo]
  ·grind
theorem QOW:Qf Tryz.prog OK:=Qh λx _=>QXv x.1 x.2.1
def wN(t:Bool):aJ:=cd (bH t)
def EP:aP:=Qg 110 [(.c (.sl aK)),(.c (.sl [(.sl [TI])])),(.c TI)] λx=>(some (zE x.1 x.2.1 x.2.2.1),wN (Yg x.1 x.2.1 x.2.2.1))
def wO:aN:=⟨[J1],false⟩
def Qvs:af :=
 (ag [(.ae [ab 30 1,ab 31 7,bn 32 30 31 [(.sl [TI])],an 33 32 0,ar 34 33 1,ab 35 8,aL 36 100 [34,35],bL 37 36]),(.cond 37 (ag [(.ae [ab 6 (bm false)]),.ret]) .skip)])
def QVq:List (Nat × Md):=ij [0,1,2,7,8]
def QOs:af:=.wk QVq Qvs
def Qyx:af :=
 (.ae [ab 12 7,az 13 .add 12 (aw 1),ab 7 13])
def OM:af :=
 (ag [(ag [(.ae [ab 9 7,ab 10 2,az 11 .lss 9 10]),(.cond 11 .skip (.exit 0))]),(.block 1 (ag [(.ae [ab 14 0,ab 15 0,bh 16 15,az 17 .sub 16 (aw 1),bn 18 14 17 aK,an 19 18 2,ar 20 19 1,ab 8 20]),(ag [(.ae [ab 21 7,ab 22 0,bh 23 22,az 24 .lss 21 23]),(.cond 24 (.ae [ab 25 0,ab 26 7,bn 27 25 26 aK,an 28 27 1,ar 29 28 1,ab 8 29]) .skip)]),QOs])),Qyx])
def ER:List (Nat × Md):=ij [0,1,2,7]
def QxT:af :=
 (ag [(.ae [ab 6 (bm true)]),.ret])
def Q1d:af :=
 (ag [(.ae [ab 6 (bm false)]),(ag [(.ae [ab 7 (aw 0)]),(.block 0 (.loop ER OM))]),QxT])
def QGg:List (bw × Md):=[(.t 6,.one .d)]
def QIj:Qb:=TQ 0 0 QGg K
def QVu:Qb:=ba (aU wO 0 QxT (QIj K)) (QIj K)
def ON:Qb:=bf 0 (QVu K)
def QHf:Qb:=ba (λs'=>Loop wO 0 ER OM (ON K) (gc 0 ER s')) (ON K)
def Q0n:Qb:=ba (aU wO 0 Qyx (QHf K)) (QHf K)
def Q2Z:Qb:=bf 1 (Q0n K)
@[irreducible] def ES(ops:List aE)(rows:List (List Int))(n:Int)(size:Int)(i:Int):Prop:=aU wO 0 Qvs (Q2Z K) ⟨[(0,(bu aK ops)),(1,(bu [(.sl [TI])] rows)),(2,(aO n)),(7,(aO i)),(8,(aO size))],[],0⟩
def ET(ops:List aE)(rows:List (List Int))(n:Int)(i:Int):Prop:=Loop wO 0 ER OM (ON K) ⟨[(0,(bu aK ops)),(1,(bu [(.sl [TI])] rows)),(2,(aO n)),(7,(aO i))],[],0⟩
theorem QJD(ops:List aE)(rows:List (List Int))(n:Int)(size:Int)(i:Int) (h :
 ((0<=i/\Int.toNat i<rows.length)/\(aS (!(Qr (aq ([]:List Int) rows (Int.toNat i)) size)) (K (wN false)) (ET K ops rows n (aI (i+1)))))):cz (ES K ops rows n size i) :=
 cz.of h
theorem Qxd(ops:List aE)(rows:List (List Int))(n:Int)(i:Int) (h :
 (aS (decide (i<n)) ((0<=aI ((ops.length:Int)-1)/\Int.toNat (aI ((ops.length:Int)-1))<ops.length)/\(aS (decide (i<(ops.length:Int))) ((0<=i/\Int.toNat i<ops.length)/\(ES K ops rows n ((aq bY ops (Int.toNat i)).2.1) i)) (ES K ops rows n ((aq bY ops (Int.toNat (aI ((ops.length:Int)-1)))).2.2.1) i))) (K (wN true)))):ET K ops rows n i :=
 Loop.of h
theorem QSN(ops:List aE)(rows:List (List Int))(n:Int)(hp:zE ops rows n):aR Tryz.prog 110 [(.c (.sl aK) ops),(.c (.sl [(.sl [TI])]) rows),(.c TI n)] (wN (Yg ops rows n)):=by
 refine bD wO Q1d QGg 0 0 38 EP (kc nr kn) (λK =>
 (ET K ops rows n 0)) (λhb=>?_)
 have uE:ops.length<=9223372036854775807:=hb.1.1;have qh:rows.length<=9223372036854775807:=hb.2.1.1;have:=K7 rows 0 n (Int.le_refl 0) hp.2.1 hp.2.2 (λr k=>Yd ops k r=(Yg ops rows n)->ET (λr'=>r'=wN (Yg ops rows n)) ops rows n k) ?_ ?_ (by simp[Yg,slice])
 ·exact this
 ·intro he;refine Qxd _ _ _ _ _ ⟨λh=>by simp at h;omega,λ_=>au ?_⟩;simpa[Yd]using he
 ·intro k x r h1 h2 aY hg ih he;have e:=oy hp.1 uE;have key:ES (λr'=>r'=wN (Yg ops rows n)) ops rows n (Je ops k) k:=by
   refine(QJD _ _ _ _ _ _ ?_).h;rw[Int.toNat_natCast,hg,Qy (x:=(k:Int)+1) (by omega) (by omega)];rw[Yd]at he;refine⟨⟨by omega,aY⟩,λh=>au ?_,λh=>ih ?_⟩ <;> grind
  refine Qxd _ _ _ _ _ ⟨λ_=>?_,λh=>by simp at h;omega⟩;rw[e.1,Int.toNat_natCast];refine⟨⟨e.2,by have:=hp.1;omega⟩,λh=>⟨⟨by omega,by simpa using h⟩,?_⟩,λh=>?_⟩
  ·rw[Je,if_pos (by simpa using h)]at key;exact key
  ·rw[Je,if_neg (by simpa using h)]at key;exact key
theorem Qyc:Qf Tryz.prog EP:=Qh λx h=>QSN x.1 x.2.1 x.2.2.1 h
def qi(t:Bool):aJ:=cd (bH t)
def wP:aP:=Qg 72 [(.a Qm)] λx=>(none,qi (QU x.1))
def EU:aN:=⟨[wL,J4,OK,EP,wv,wx,MJ],false⟩
def QDn:af :=
 (ag [(.ae [az 45 .lss 44 43]),(.cond 45 .skip (.exit 0)),(.block 1 (ag [(.ae [bn 46 42 44 QX,aZ 47 46 2,aD 6 (.new 108 (bC QX)),a8 6 47 2]),(.ae [an 48 6 1,ar 49 48 1,bh 50 49,ab 51 4,az 52 .neq 50 51,ab 53 52,.bj 53 false [an 54 1 2,ar 55 54 1,an 56 6 1,ar 57 56 1,ab 58 4,aL 59 110 [55,57,58],bL 60 59] 61 60]),(.cond 61 (ag [(.ae [ab 2 (bm false)]),.ret]) .skip)])),(.ae [az 62 .add 44 (aw 1),ab 44 62])])
def Qzj:List (Nat × Md):=[(1,.b (da 14)),(3,.b [.d]),(4,.one .d),(42,.one .d),(43,.one .d),(44,.one .d)]
def Qvb:af :=
 (ag [(.draw [aZ 63 3 1,aL 64 101 [63],aZ 65 3 1,aL 66 102 [65],ab 7 64,ab 8 66] [(1,2)]),(.ae [an 67 1 7,ar 68 67 1,ab 69 7,aL 70 169 [68,69],ab 71 70,.bj 71 true [an 72 1 10,ar 73 72 1,ab 74 7,aL 75 169 [73,74]] 76 75,ab 77 76,.bj 77 true [an 78 1 8,ar 79 78 1,ab 80 8,aL 81 169 [79,80]] 82 81,ab 83 82,.bj 83 true [an 84 1 9,ar 85 84 1,ab 86 8,aL 87 169 [85,86]] 88 87,ab 2 88]),.ret])
def QzW:af :=
 (ag [(ag [(.ae [an 41 1 5,ar 42 41 1,bh 43 42,ab 44 (aw 0)]),(.block 0 (.loop Qzj QDn))]),Qvb])
def Q39:List (Nat × Md):=[(1,.b (da 14)),(3,.b [.d]),(4,.one .d)]
def QW4:af:=.wk Q39 QzW
def Q16:af :=
 (ag [(.ae [aD 1 (.box 39 0 14),ab 2 (bm false)]),(.ae [aZ 9 1 14,aL 10 74 [9],aD 3 (.new 77 [(.n aK)]),a8 3 10 1]),(ag [(.ae [aZ 11 3 1,aL 12 167 [11],bL 13 12,ab 14 13,.bj 14 false [an 15 1 0,ar 16 15 1,az 17 .lss 16 (aw 0)] 18 17,ab 19 18,.bj 19 false [an 20 1 0,ar 21 20 1,an 22 1 1,ar 23 22 1,bh 24 23,az 25 .gtr 21 24] 26 25,ab 27 26,.bj 27 false [aZ 28 3 1,an 29 1 11,an 30 29 0,ar 31 30 1,aL 32 168 [28,31],bL 33 32] 34 33]),(.cond 34 (ag [(.ae [ab 2 (bm false)]),.ret]) .skip)]),(.ae [an 35 1 2,ar 36 35 1,bh 37 36,az 38 .add 37 (aw 1),ab 4 38]),(ag [(.ae [an 39 1 4,ar 40 39 1]),(.cond 40 (.ae [ab 4 (aw 1)]) .skip)]),QW4])
def QDB:List (bw × Md):=[(.t 2,.one .d)]
def OO:Qb:=TQ 0 0 QDB K
def QKz:Qb:=ba (aU EU 0 Qvb (OO K)) (OO K)
def QRq:Qb:=bf 0 (QKz K)
def AS(s:Qc)(kept:Int)(x:Int):Prop:=Loop EU 0 Qzj QDn (QRq K) ⟨[(1,(.p 0 0 0)),(3,(.p 1 0 0)),(4,(aO kept)),(42,(bu QX s.2.2.2.2.2.1)),(43,(aO ((s.2.2.2.2.2.1).length:Int))),(44,(aO x))],[(0,(.box (aV.cells Qm s))),(1,(.box [(bu aK (ZF s))]))],2⟩
@[irreducible] def OP(s:Qc)(kept:Int):Prop:=aU EU 0 QzW (OO K) ⟨[(1,(.p 0 0 0)),(3,(.p 1 0 0)),(4,(aO kept))],[(0,(.box (aV.cells Qm s))),(1,(.box [(bu aK (ZF s))]))],2⟩
theorem QG2(s:Qc)(kept:Int)(x:Int) (h :
 (aS (decide (x<((s.2.2.2.2.2.1).length:Int))) ((0<=x/\Int.toNat x<(s.2.2.2.2.2.1).length)/\(((!((((aq Zb s.2.2.2.2.2.1 (Int.toNat x)).2).length:Int) != kept))=true->(zE s.2.2.1 ((aq Zb s.2.2.2.2.2.1 (Int.toNat x)).2) kept))/\(aS (((((aq Zb s.2.2.2.2.2.1 (Int.toNat x)).2).length:Int) != kept)||(!(Yg s.2.2.1 ((aq Zb s.2.2.2.2.2.1 (Int.toNat x)).2) kept))) (K (qi false)) (AS K s kept (aI (x+1)))))) (K (qi ((((Ye s.2.2.2.2.2.2.2.1 (Zn (ZF s)))&&(Ye s.2.2.2.2.2.2.2.2.2.2.1 (Zn (ZF s))))&&(Ye s.2.2.2.2.2.2.2.2.1 (Za (ZF s))))&&(Ye s.2.2.2.2.2.2.2.2.2.1 (Za (ZF s)))))))):AS K s kept x :=
 Loop.of h
theorem Qz9(s:Qc)(kept:Int) (h :
 (AS K s kept 0)):cz (OP K s kept) :=
 cz.of h
theorem QYm(s:Qc):aR Tryz.prog 72 [(.a (aV.cells Qm s))] (qi (QU s)):=by
 refine bD EU Q16 QDB 0 0 89 wP (kc EN (kc oG (kc QOW (kc Qyc (kc DL (kc DO (kc QOb kn))))))) (λK =>
 (aS ((((!(QS (ZF s)))||(decide (s.1<0)))||(decide (s.1>((s.2.1).length:Int))))||(!(Jo (ZF s) s.2.2.2.2.2.2.2.2.2.2.2.1))) (K (qi false)) (aS s.2.2.2.2.1 (OP K s 1) (OP K s (aI (((s.2.2.1).length:Int)+1)))))) (λhb=>?_)
 have uF:(s.2.1).length<=9223372036854775807:=hb.1.2.1.1;have uG:(s.2.2.1).length<=9223372036854775807:=hb.1.2.2.1.1;have uH:(s.2.2.2.2.2.1).length<=9223372036854775807:=hb.1.2.2.2.2.2.1.1;have uI:(s.2.2.2.2.2.2.1).length<=9223372036854775807:=hb.1.2.2.2.2.2.2.1.1;have uJ:(s.2.2.2.2.2.2.2.1).length<=9223372036854775807:=hb.1.2.2.2.2.2.2.2.1.1;have uK:(s.2.2.2.2.2.2.2.2.1).length<=9223372036854775807:=hb.1.2.2.2.2.2.2.2.2.1.1;have uL:(s.2.2.2.2.2.2.2.2.2.1).length<=9223372036854775807:=hb.1.2.2.2.2.2.2.2.2.2.1.1;have qj:(s.2.2.2.2.2.2.2.2.2.2.1).length<=9223372036854775807:=hb.1.2.2.2.2.2.2.2.2.2.2.1.1;have qk:(s.2.2.2.2.2.2.2.2.2.2.2.1).length<=9223372036854775807:=hb.1.2.2.2.2.2.2.2.2.2.2.2.1.1;refine⟨λh=>au (by grind[QU,aT]),λh=>?_⟩;have h0:QS s.2.2.1=true/\aT s.1 0 s.2.1.length=true/\Jo s.2.2.1 s.2.2.2.2.2.2.2.2.2.2.2.1=true:=by grind[aT]
 have hm:=Yp h0.1;have hk:1<=Z4 s/\Z4 s<=9:=by unfold Z4;split <;> omega
 have key:AS (λr'=>r'=qi (QU s)) s (Z4 s) ((0:Nat):Int):=by
  refine Zd s.2.2.2.2.2.1 (λr k=>r.all (YC s)=s.2.2.2.2.2.1.all (YC s)->AS (λr'=>r'=qi (QU s)) s (Z4 s) k) ?_ ?_ rfl
  ·intro he;refine QG2 _ _ _ _ ⟨λh=>by simp at h,λ_=>au ?_⟩;grind[QU]
  ·intro k x r gY aY hg ih he;refine QG2 _ _ _ _ ⟨λ_=>?_,λh=>by simp at h;omega⟩;rw[Int.toNat_natCast,hg,Qy (x:=(k:Int)+1) (by omega) (by omega)];refine⟨⟨by omega,aY⟩,λh=>?_,λh=>au ?_,λh=>ih ?_⟩
   ·have:(x.2.length:Int)=Z4 s:=by simpa using h
    exact⟨hm.1,by omega,by omega⟩
   ·grind[QU,YC]
   ·grind[YC]
 refine⟨λh1=>?_,λh1=>?_⟩
 ·have e:Z4 s=1:=by simp[Z4,h1]
  rw[e]at key;exact(Qz9 (λr'=>r'=qi (QU s)) s _ key).h
 ·have e:Z4 s=s.2.2.1.length+1:=by simp[Z4,h1]
  rw[Qy (x:=(s.2.2.1.length:Int)+1) (by omega) (by omega)];rw[e]at key;exact(Qz9 (λr'=>r'=qi (QU s)) s _ key).h
theorem EV:Qf Tryz.prog wP:=Qh λx _=>QYm x.1
def nv(t:Bool):aJ:=cd (bH t)
def wQ:aP:=Qg 63 [(.a Qm)] λx=>(none,nv (QU x.1))
def rJ:aN:=⟨[oF,YF,Y6,ML],false⟩
def QCV:af :=
 (ag [(ag [(.ae [ab 47 5,an 48 1 2,ar 49 48 1,bh 50 49,az 51 .lss 47 50]),(.cond 51 .skip (.exit 0))]),(.block 1 (ag [(.draw [an 54 1 11,an 55 54 0,ar 56 55 1,ab 57 5,bn 58 56 57 [(.sl [TI])],an 59 58 0,ar 60 59 1,bh 61 60,an 62 1 2,ar 63 62 1,ab 64 5,bn 65 63 64 aK,an 66 65 3,ar 67 66 1,bh 68 67,az 69 .neq 61 68] []),(.cond 69 (ag [(.ae [ab 2 (bm false)]),.ret]) .skip)])),(.ae [ab 52 5,az 53 .add 52 (aw 1),ab 5 53])])
def Qzr:List (Nat × Md):=[(1,.b (da 14)),(3,.one .d),(4,.one .d),(5,.one .d)]
def QEd:af :=
 (ag [(ag [(.ae [ab 126 8,ab 127 7,bh 128 127,az 129 .lss 126 128]),(.cond 129 .skip (.exit 4))]),(.block 5 (ag [(.draw [ab 132 7,ab 133 8,bn 134 132 133 [(.sl [TI])],an 135 134 0,ar 136 135 1,aL 137 97 [136],bL 138 137,ab 139 138,.bj 139 false [ab 140 7,ab 141 8,bn 142 140 141 [(.sl [TI])],an 143 142 0,ar 144 143 1,bh 145 144,an 146 1 2,ar 147 146 1,ab 148 8,az 149 .sub 148 (aw 1),bn 150 147 149 aK,an 151 150 2,ar 152 151 1,az 153 .neq 145 152] 154 153] []),(.cond 154 (ag [(.ae [ab 2 (bm false)]),.ret]) .skip)])),(.ae [ab 130 8,az 131 .add 130 (aw 1),ab 8 131])])
def Qup:List (Nat × Md):=[(1,.b (da 14)),(3,.one .d),(4,.one .d),(6,.one .d),(7,.one .d),(8,.one .d)]
def QvE:af :=
 (.ae [ab 75 6,az 76 .add 75 (aw 1),ab 6 76])
def OQ:af :=
 (ag [(ag [(.ae [ab 70 6,an 71 1 5,ar 72 71 1,bh 73 72,az 74 .lss 70 73]),(.cond 74 .skip (.exit 2))]),(.block 3 (ag [(.ae [an 77 1 5,ar 78 77 1,ab 79 6,bn 80 78 79 QX,an 81 80 1,ar 82 81 1,ab 7 82]),(ag [(.ae [ab 83 7,bh 84 83,az 85 .eql 84 (aw 0),ab 86 85,.bj 86 false [ab 87 7,bn 88 87 (aw 0) [(.sl [TI])],an 89 88 0,ar 90 89 1,aL 91 97 [90],bL 92 91] 93 92,ab 94 93,.bj 94 false [ab 95 7,bn 96 95 (aw 0) [(.sl [TI])],an 97 96 0,ar 98 97 1,bh 99 98,ab 100 3,az 101 .neq 99 100] 102 101,ab 103 102,.bj 103 false [an 104 1 4,ar 105 104 1,bL 106 105,ab 107 106,.bj 107 true [ab 108 7,bh 109 108,an 110 1 2,ar 111 110 1,bh 112 111,az 113 .add 112 (aw 1),az 114 .neq 109 113] 115 114] 116 115,ab 117 116,.bj 117 false [an 118 1 4,ar 119 118 1,ab 120 119,.bj 120 true [ab 121 7,bh 122 121,az 123 .neq 122 (aw 1)] 124 123] 125 124]),(.cond 125 (ag [(.ae [ab 2 (bm false)]),.ret]) .skip)]),(.ae [ab 8 (aw 1)]),(.block 4 (.loop Qup QEd))])),QvE])
def EW:List (Nat × Md):=[(1,.b (da 14)),(3,.one .d),(4,.one .d),(6,.one .d)]
def QFM:af :=
 (ag [(.ae [an 155 1 7,ar 156 155 1,ab 157 3,aL 158 159 [156,157],ab 159 158,.bj 159 true [an 160 1 8,ar 161 160 1,ab 162 4,aL 163 159 [161,162]] 164 163,ab 165 164,.bj 165 true [an 166 1 9,ar 167 166 1,ab 168 4,aL 169 159 [167,168]] 170 169,ab 171 170,.bj 171 true [an 172 1 10,ar 173 172 1,ab 174 3,aL 175 159 [173,174]] 176 175,ab 2 176]),.ret])
def QCo:af :=
 (ag [(ag [(.ae [ab 6 (aw 0)]),(.block 2 (.loop EW OQ))]),QFM])
def QPS:af :=
 (ag [(.ae [aD 1 (.box 39 0 14),ab 2 (bm false)]),(ag [(.ae [an 9 1 2,ar 10 9 1,aD 11 (.build [(.n aK)] [(0,1,10)]),aL 12 157 [11],bL 13 12,ab 14 13,.bj 14 false [an 15 1 0,ar 16 15 1,an 17 1 1,ar 18 17 1,bh 19 18,aL 20 158 [16,(aw 0),19],bL 21 20] 22 21,ab 23 22,.bj 23 false [an 24 1 11,an 25 24 0,ar 26 25 1,bh 27 26,an 28 1 2,ar 29 28 1,bh 30 29,az 31 .neq 27 30] 32 31]),(.cond 32 (ag [(.ae [ab 2 (bm false)]),.ret]) .skip)]),(.ae [an 33 1 2,ar 34 33 1,bn 35 34 (aw 0) aK,an 36 35 1,ar 37 36 1,ab 3 37]),(.ae [an 38 1 2,ar 39 38 1,an 40 1 2,ar 41 40 1,bh 42 41,az 43 .sub 42 (aw 1),bn 44 39 43 aK,an 45 44 2,ar 46 45 1,ab 4 46]),(ag [(.ae [ab 5 (aw 0)]),(.block 0 (.loop Qzr QCV))]),QCo])
def QI6:List (bw × Md):=[(.t 2,.one .d)]
def EX:Qb:=TQ 0 0 QI6 K
def QXy:Qb:=ba (aU rJ 0 QFM (EX K)) (EX K)
def OR:Qb:=bf 2 (QXy K)
def QCZ:Qb:=ba (λs'=>Loop rJ 0 EW OQ (OR K) (gc 0 EW s')) (OR K)
def Q0Y:Qb:=ba (aU rJ 0 QvE (QCZ K)) (QCZ K)
def Q24:Qb:=bf 3 (Q0Y K)
def QJA:Qb:=bf 4 (Q24 K)
def EY(s:Qc)(k:Int)(i1:Int):Prop:=Loop rJ 0 Qup QEd (QJA K) ⟨[(1,(.p 0 0 0)),(3,(aO ((aq bY s.2.2.1 (Int.toNat 0)).2.1))),(4,(aO ((aq bY s.2.2.1 (Int.toNat (aI (((s.2.2.1).length:Int)-1)))).2.2.1))),(6,(aO i1)),(7,(bu [(.sl [TI])] ((aq Zb s.2.2.2.2.2.1 (Int.toNat i1)).2))),(8,(aO k))],[(0,(.box (aV.cells Qm s)))],1⟩
def AU(s:Qc)(i1:Int):Prop:=Loop rJ 0 EW OQ (OR K) ⟨[(1,(.p 0 0 0)),(3,(aO ((aq bY s.2.2.1 (Int.toNat 0)).2.1))),(4,(aO ((aq bY s.2.2.1 (Int.toNat (aI (((s.2.2.1).length:Int)-1)))).2.2.1))),(6,(aO i1))],[(0,(.box (aV.cells Qm s)))],1⟩
def QKh:Qb:=ba (aU rJ 0 QCo (EX K)) (EX K)
def QQ5:Qb:=bf 0 (QKh K)
def EZ(s:Qc)(i:Int):Prop:=Loop rJ 0 Qzr QCV (QQ5 K) ⟨[(1,(.p 0 0 0)),(3,(aO ((aq bY s.2.2.1 (Int.toNat 0)).2.1))),(4,(aO ((aq bY s.2.2.1 (Int.toNat (aI (((s.2.2.1).length:Int)-1)))).2.2.1))),(5,(aO i))],[(0,(.box (aV.cells Qm s)))],1⟩
theorem QHK(s:Qc)(k:Int)(i1:Int) (h :
 (aS (decide (k<(((aq Zb s.2.2.2.2.2.1 (Int.toNat i1)).2).length:Int))) (((0<=k/\Int.toNat k<((aq Zb s.2.2.2.2.2.1 (Int.toNat i1)).2).length)/\((!(!(QH (aq ([]:List Int) ((aq Zb s.2.2.2.2.2.1 (Int.toNat i1)).2) (Int.toNat k)))))=true->((0<=k/\Int.toNat k<((aq Zb s.2.2.2.2.2.1 (Int.toNat i1)).2).length)/\(0<=aI (k-1)/\Int.toNat (aI (k-1))<(s.2.2.1).length))))/\(aS ((!(QH (aq ([]:List Int) ((aq Zb s.2.2.2.2.2.1 (Int.toNat i1)).2) (Int.toNat k))))||(((aq ([]:List Int) ((aq Zb s.2.2.2.2.2.1 (Int.toNat i1)).2) (Int.toNat k)).length:Int) != ((aq bY s.2.2.1 (Int.toNat (aI (k-1)))).2.2.1))) (K (nv false)) (EY K s (aI (k+1)) i1))) (AU K s (aI (i1+1))))):EY K s k i1 :=
 Loop.of h
theorem QAV(s:Qc)(i1:Int) (h :
 let z1:=aq Zb s.2.2.2.2.2.1 (Int.toNat i1)
 let z2:=aq ([]:List Int) (z1.2) (Int.toNat 0)
 let z3:=aq bY s.2.2.1 (Int.toNat 0)
 let z4:=aq bY s.2.2.1 (Int.toNat (aI (((s.2.2.1).length:Int)-1)))
 (aS (decide (i1<((s.2.2.2.2.2.1).length:Int))) ((0<=i1/\Int.toNat i1<(s.2.2.2.2.2.1).length)/\((((!(((z1.2).length:Int)==0))=true->((0:Int)<=0/\Int.toNat 0<(z1.2).length))/\((!((((z1.2).length:Int)==0)||(!(QH z2))))=true->((0:Int)<=0/\Int.toNat 0<(z1.2).length)))/\(aS (((((((z1.2).length:Int)==0)||(!(QH z2)))||((z2.length:Int) != (z3.2.1)))||((!s.2.2.2.2.1)&&(((z1.2).length:Int) != (aI (((s.2.2.1).length:Int)+1)))))||(s.2.2.2.2.1&&(((z1.2).length:Int) != 1))) (K (nv false)) (EY K s 1 i1)))) (K (nv ((((Ye s.2.2.2.2.2.2.2.1 (z3.2.1))&&(Ye s.2.2.2.2.2.2.2.2.1 (z4.2.2.1)))&&(Ye s.2.2.2.2.2.2.2.2.2.1 (z4.2.2.1)))&&(Ye s.2.2.2.2.2.2.2.2.2.2.1 (z3.2.1))))))):AU K s i1 :=
 Loop.of h
theorem QxO(s:Qc)(i:Int) (h :
 (aS (decide (i<((s.2.2.1).length:Int))) (((0<=i/\Int.toNat i<(s.2.2.2.2.2.2.2.2.2.2.2.1).length)/\(0<=i/\Int.toNat i<(s.2.2.1).length))/\(aS (((aq ([]:List Int) s.2.2.2.2.2.2.2.2.2.2.2.1 (Int.toNat i)).length:Int) != (((aq bY s.2.2.1 (Int.toNat i)).2.2.2).length:Int)) (K (nv false)) (EZ K s (aI (i+1))))) (AU K s 0))):EZ K s i :=
 Loop.of h
theorem Q17(s:Qc):aR Tryz.prog 63 [(.a (aV.cells Qm s))] (nv (QU s)):=by
 refine bD rJ QPS QI6 0 0 177 wQ (kc rB (kc YV (kc Ji (kc QMP kn)))) (λK =>
 (aS (((!(QS s.2.2.1))||(!(aT s.1 (0:Int) ((s.2.1).length:Int))))||(((s.2.2.2.2.2.2.2.2.2.2.2.1).length:Int) != ((s.2.2.1).length:Int))) (K (nv false)) (((0:Int)<=0/\Int.toNat 0<(s.2.2.1).length)/\((0<=aI (((s.2.2.1).length:Int)-1)/\Int.toNat (aI (((s.2.2.1).length:Int)-1))<(s.2.2.1).length)/\(EZ K s 0))))) (λhb=>?_)
 have uF:(s.2.1).length<=9223372036854775807:=hb.1.2.1.1;have uG:(s.2.2.1).length<=9223372036854775807:=hb.1.2.2.1.1;have uH:(s.2.2.2.2.2.1).length<=9223372036854775807:=hb.1.2.2.2.2.2.1.1;have uI:(s.2.2.2.2.2.2.1).length<=9223372036854775807:=hb.1.2.2.2.2.2.2.1.1;have uJ:(s.2.2.2.2.2.2.2.1).length<=9223372036854775807:=hb.1.2.2.2.2.2.2.2.1.1;have uK:(s.2.2.2.2.2.2.2.2.1).length<=9223372036854775807:=hb.1.2.2.2.2.2.2.2.2.1.1;have uL:(s.2.2.2.2.2.2.2.2.2.1).length<=9223372036854775807:=hb.1.2.2.2.2.2.2.2.2.2.1.1;have qj:(s.2.2.2.2.2.2.2.2.2.2.1).length<=9223372036854775807:=hb.1.2.2.2.2.2.2.2.2.2.2.1.1;have qk:(s.2.2.2.2.2.2.2.2.2.2.2.1).length<=9223372036854775807:=hb.1.2.2.2.2.2.2.2.2.2.2.2.1.1;refine⟨λh=>au (by grind[QU,Jo]),λh=>?_⟩;have h0:QS s.2.2.1=true/\aT s.1 0 s.2.1.length=true/\s.2.2.2.2.2.2.2.2.2.2.2.1.length=s.2.2.1.length:=by
  have:((s.2.2.2.2.2.2.2.2.2.2.2.1.length:Int) != (s.2.2.1.length:Int))=false:=by grind
  have h3:s.2.2.2.2.2.2.2.2.2.2.2.1.length=s.2.2.1.length:=by
   have h4:((s.2.2.2.2.2.2.2.2.2.2.2.1.length:Int)==(s.2.2.1.length:Int))=true:=by simpa[bne]using this
   have:=of_decide_eq_true (by simpa using h4:decide ((s.2.2.2.2.2.2.2.2.2.2.2.1.length:Int)=s.2.2.1.length)=true);omega
  grind
 have hm:=Yp h0.1;have eo:=oy (n:=s.2.2.1.length) hm.1 (by omega);have ei:Zn s.2.2.1=(aq bY s.2.2.1 0).2.1:=by simp[Zn,h0.1]
 have eu:Za s.2.2.1=(aq bY s.2.2.1 (s.2.2.1.length-1)).2.2.1:=by simp[Za,h0.1]
 have hk9:1<=Z4 s/\Z4 s<=s.2.2.1.length+1:=by unfold Z4;split <;> omega
 have saved:Jo s.2.2.1 s.2.2.2.2.2.2.2.2.2.2.2.1=true->AU (λr'=>r'=nv (QU s)) s ((0:Nat):Int):=by
  intro uM;refine Zd s.2.2.2.2.2.1 (λr k=>r.all (YC s)=s.2.2.2.2.2.1.all (YC s)->AU (λr'=>r'=nv (QU s)) s k) ?_ ?_ rfl
  ·intro he;refine QAV _ _ _ ⟨λh=>by simp at h,λ_=>au ?_⟩;rw[eo.1];grind[QU]
  ·intro k x r hk aY hg ih he;have js:x.2.length<=9223372036854775807:=by
    have du:x∈s.2.2.2.2.2.1:=List.mem_of_mem_drop (i:=k) (by rw[hk];exact List.mem_cons_self);exact(hb.1.2.2.2.2.2.1.2 x du).2.1.1
   have rows:(x.2.length:Int)=Z4 s->∀(q:List (List Int))(j:Nat),1<=j->x.2.drop j=q->j<=x.2.length->Yd s.2.2.1 j q=YC s x->EY (λr'=>r'=nv (QU s)) s j k:=by
    intro hlen q
    induction q with
    | nil =>
     intro j h1 hj hle jE;have:x.2.length<=j:=by simpa using hj
     refine QHK _ _ _ _ ⟨λh=>?_,λ_=>?_⟩
     ·rw[Int.toNat_natCast,hg]at h;simp at h;omega
     ·rw[Qy (x:=(k:Int)+1) (by omega) (by omega)];refine ih ?_;simp only[Yd]at jE;rw[<- he,List.all_cons,<- jE,Bool.true_and]
    | cons z q ihq =>
     intro j h1 hj hle jE;have n0:=zx hj;have e2:=oy h1 (by omega:j<=9223372036854775807);have b7:=QQG h0.1 h1 (by omega:j<=s.2.2.1.length);refine QHK _ _ _ _ ⟨λ_=>?_,λh=>?_⟩
     ·rw[Int.toNat_natCast,Int.toNat_natCast,hg,Z2 hj,e2.1,Qy (x:=(j:Int)+1) (by omega) (by omega)];rw[Yd,b7]at jE;refine⟨⟨⟨by omega,n0⟩,λ_=>⟨⟨by omega,n0⟩,e2.2,by omega⟩⟩,λh=>au ?_,λh=>ihq (j+1) (by omega) (ZW hj) n0 ?_⟩
      ·have hf:YC s x=false:=by rw[<- jE];grind[Qr]
       have:s.2.2.2.2.2.1.all (YC s)=false:=by rw[<- he,List.all_cons,hf];rfl
       simp[QU,this]
      ·rw[<- jE];grind[Qr]
     ·rw[Int.toNat_natCast,hg]at h;simp at h;omega
   refine QAV _ _ _ ⟨λ_=>?_,λh=>by simp at h;omega⟩;rw[Int.toNat_natCast,hg];have bad:YC s x=false->false=QU s:=by
    intro hf;have:s.2.2.2.2.2.1.all (YC s)=false:=by rw[<- he,List.all_cons,hf];rfl
    simp[QU,this]
   have ek:aI ((s.2.2.1.length:Int)+1)=s.2.2.1.length+1:=Qy (by omega) (by omega);rw[ek]
   cases hx:x.2 with
   | nil =>
    refine⟨⟨by omega,aY⟩,⟨by simp,by simp⟩,λ_=>au (bad ?_),λh=>by simp at h⟩;simp[YC,hx];omega
   | cons z q =>
    have z0:aq ([]:List Int) (z::q) (Int.toNat 0)=z:=rp _ _ _;rw[z0];have b7:Je s.2.2.1 0=(aq bY s.2.2.1 (Int.toNat 0)).2.1:=QMu h0.1;rw[<- b7];have main:(((q.length+1:Nat):Int)==Z4 s)=true->YC s x=(Qr z (Je s.2.2.1 0)&&Yd s.2.2.1 1 q):=by
     intro h;have h:((q.length+1:Nat):Int)=Z4 s:=by simpa using h
     have e:(z::q).take (Z4 s).toNat=z::q:=by rw[List.take_of_length_le];simp;omega
     simp only[YC,hx,Yg,e,Yd];simp;omega
    refine⟨⟨by omega,aY⟩,⟨λ_=>by simp,λ_=>by simp⟩,λh=>au (bad ?_),λh=>?_⟩
    ·by_cases hl:(((q.length+1:Nat):Int)==Z4 s)=true
     ·rw[main hl];have hl:((q.length+1:Nat):Int)=Z4 s:=by simpa using hl
      unfold Z4 at hl;by_cases hr:s.2.2.2.2.1=true
      ·rw[if_pos hr]at hl;simp[hr]at h;grind[Qr]
      ·rw[if_neg hr]at hl;simp[hr]at h;grind[Qr]
     ·have:(((x.2.length:Nat):Int)==Z4 s)=false:=by rw[hx];simpa using hl
      simp[YC,this]
    ·have hl:((q.length+1:Nat):Int)=Z4 s:=by
      unfold Z4;by_cases hr:s.2.2.2.2.1=true
      ·rw[if_pos hr];simp[hr]at h;omega
      ·rw[if_neg hr];simp[hr]at h;omega
     have hv:Qr z (Je s.2.2.1 0)=true:=by simp at h;simp[Qr,h]
     refine rows (by rw[hx];simpa using hl) q 1 (Nat.le_refl _) (by rw[hx];rfl) (by rw[hx];simp) ?_;rw[main (by simpa using hl),hv,Bool.true_and]
 refine⟨⟨by omega,by simp;omega⟩,⟨eo.2,by rw[eo.1];omega⟩,?_⟩;refine Zd s.2.2.1 (λr k=>Z1 r (s.2.2.2.2.2.2.2.2.2.2.2.1.drop k)=Z1 s.2.2.1 s.2.2.2.2.2.2.2.2.2.2.2.1->EZ (λr'=>r'=nv (QU s)) s k) ?_ ?_ rfl
 ·intro he;refine QxO _ _ _ ⟨λh=>by simp at h,λ_=>saved ?_⟩;grind[Jo,Z1]
 ·intro k x r hk aY hg ih he;obtain⟨y,q,hq⟩:∃ y q,s.2.2.2.2.2.2.2.2.2.2.2.1.drop k=y::q:=by
   cases hq:s.2.2.2.2.2.2.2.2.2.2.2.1.drop k with
   | nil=>have:=congrArg List.length hq;simp at this;omega
   | cons y q=>exact⟨y,q,rfl⟩
  refine QxO _ _ _ ⟨λ_=>?_,λh=>by simp at h;omega⟩;rw[Int.toNat_natCast,hg,Z2 hq,Qy (x:=(k:Int)+1) (by omega) (by omega)];rw[hq,Z1]at he;rw[ZW hq]at ih;refine⟨⟨⟨by omega,by omega⟩,by omega,aY⟩,λh=>au ?_,λh=>ih ?_⟩
  ·grind[QU,Jo]
  ·grind
theorem E0:Qf Tryz.prog wQ:=Qh λx _=>Q17 x.1
def AW(t:Int):aJ:=cd (aO t)
def AX:aP:=Qg 62 [(.c (.sl QX)),(.c TI)] λx=>(none,AW (QJ x.1 x.2.1))
def OS:aN:=⟨[],false⟩
def QE7:af :=
 (ag [(ag [(.ae [ab 6 5,ab 7 0,bh 8 7,az 9 .lss 6 8]),(.cond 9 .skip (.exit 0))]),(.block 1 (ag [(.ae [ab 12 0,ab 13 5,bn 14 12 13 QX,an 15 14 0,ar 16 15 1,ab 17 1,az 18 .eql 16 17]),(.cond 18 (ag [(.ae [ab 19 5,ab 4 19]),.ret]) .skip)])),(.ae [ab 10 5,az 11 .add 10 (aw 1),ab 5 11])])
def Qua:List (Nat × Md):=ij [0,1,5]
def QIy:af :=
 (ag [(.ae [ab 4 (aw (-1))]),.ret])
def QZF:af :=
 (ag [(.ae [ab 4 (aw 0)]),(ag [(.ae [ab 5 (aw 0)]),(.block 0 (.loop Qua QE7))]),QIy])
def QGy:List (bw × Md):=[(.t 4,.one .d)]
def QxF:Qb:=TQ 0 0 QGy K
def QJI:Qb:=ba (aU OS 0 QIy (QxF K)) (QxF K)
def Q4a:Qb:=bf 0 (QJI K)
def E1(l:List ZI)(m:Int)(i:Int):Prop:=Loop OS 0 Qua QE7 (Q4a K) ⟨[(0,(bu QX l)),(1,(aO m)),(5,(aO i))],[],0⟩
theorem Qx3(l:List ZI)(m:Int)(i:Int) (h :
 (aS (decide (i<(l.length:Int))) ((0<=i/\Int.toNat i<l.length)/\(aS (((aq Zb l (Int.toNat i)).1)==m) (K (AW i)) (E1 K l m (aI (i+1))))) (K (AW (-1:Int))))):E1 K l m i :=
 Loop.of h
theorem QRN(l:List ZI)(m:Int):aR Tryz.prog 62 [(.c (.sl QX) l),(.c TI m)] (AW (QJ l m)):=by
 refine bD OS QZF QGy 0 0 20 AX kn (λK =>
 (E1 K l m 0)) (λhb=>?_)
 have OT:l.length<=9223372036854775807:=hb.1.1;refine Zd l (λr k=>Jr r m k=QJ l m->E1 (λr'=>r'=AW (QJ l m)) l m k) ?_ ?_ rfl
 ·intro he;refine Qx3 _ _ _ _ ⟨λh=>by simp at h,λ_=>?_⟩;grind[Jr]
 ·intro k x r hk aY hg ih he;refine Qx3 _ _ _ _ ⟨λ_=>?_,λh=>by simp at h;omega⟩;rw[Int.toNat_natCast,hg,Qy (by omega) (by omega)];grind[Jr]
theorem OU:Qf Tryz.prog AX:=Qh λx _=>QRN x.1 x.2.1
def AY(t:Int):aJ:=cd (aO t)
def AZ:aP:=Qg 71 [(.c (.sl QX)),(.c TI)] λx=>(none,AY (QJ x.1 x.2.1))
def OV:aN:=⟨[],false⟩
def QHS:af :=
 (ag [(.ae [az 10 .lss 9 8]),(.cond 10 .skip (.exit 0)),(.block 1 (ag [(.ae [ab 11 9,bn 12 7 9 QX,aZ 13 12 2,aD 6 (.new 108 (bC QX)),ab 5 11,a8 6 13 2]),(.ae [an 14 6 0,ar 15 14 1,ab 16 1,az 17 .eql 15 16]),(.cond 17 (ag [(.ae [ab 18 5,ab 4 18]),.ret]) .skip)])),(.ae [az 19 .add 9 (aw 1),ab 9 19])])
def QCa:List (Nat × Md):=ij [1,7,8,9]
def QG4:af :=
 (ag [(.ae [ab 4 (aw (-1))]),.ret])
def Q1m:af :=
 (ag [(.ae [ab 4 (aw 0)]),(ag [(.ae [ab 7 0,bh 8 7,ab 9 (aw 0)]),(.block 0 (.loop QCa QHS))]),QG4])
def QzT:List (bw × Md):=[(.t 4,.one .d)]
def QuO:Qb:=TQ 0 0 QzT K
def QQv:Qb:=ba (aU OV 0 QG4 (QuO K)) (QuO K)
def QVs:Qb:=bf 0 (QQv K)
def E2(l:List ZI)(m:Int)(x:Int):Prop:=Loop OV 0 QCa QHS (QVs K) ⟨[(1,(aO m)),(7,(bu QX l)),(8,(aO (l.length:Int))),(9,(aO x))],[],0⟩
theorem QBS(l:List ZI)(m:Int)(x:Int) (h :
 (aS (decide (x<(l.length:Int))) ((0<=x/\Int.toNat x<l.length)/\(aS (((aq Zb l (Int.toNat x)).1)==m) (K (AY x)) (E2 K l m (aI (x+1))))) (K (AY (-1:Int))))):E2 K l m x :=
 Loop.of h
theorem Q3p(l:List ZI)(m:Int):aR Tryz.prog 71 [(.c (.sl QX) l),(.c TI m)] (AY (QJ l m)):=by
 refine bD OV Q1m QzT 0 0 20 AZ kn (λK =>
 (E2 K l m 0)) (λhb=>?_)
 have OT:l.length<=9223372036854775807:=hb.1.1;refine Zd l (λr k=>Jr r m k=QJ l m->E2 (λr'=>r'=AY (QJ l m)) l m k) ?_ ?_ rfl
 ·intro he;refine QBS _ _ _ _ ⟨λh=>by simp at h,λ_=>?_⟩;grind[Jr]
 ·intro k x r hk aY hg ih he;refine QBS _ _ _ _ ⟨λ_=>?_,λh=>by simp at h;omega⟩;rw[Int.toNat_natCast,hg,Qy (by omega) (by omega)];grind[Jr]
theorem OW:Qf Tryz.prog AZ:=Qh λx _=>Q3p x.1 x.2.1
def OX(t:Bool):aJ:=cd (bH t)
def wR:aP:=Qg 195 [(.c (.sl [TI])),(.c (.sl [TI]))] λx=>(none,OX (ZG x.1 x.2.1))
def QJ6:aN:=⟨[p9,J1],false⟩
def QKV:af :=
 (ag [(.ae [ab 4 (bm false)]),(.ae [ab 5 0,aL 6 187 [5],ab 7 6,.bj 7 true [ab 8 1,ab 9 0,bh 10 9,aL 11 100 [8,10]] 12 11,ab 4 12]),.ret])
def Q1B:List (bw × Md):=[(.t 4,.one .d)]
theorem QNC(a:List Int)(b:List Int):aR Tryz.prog 195 [(.c (.sl [TI]) a),(.c (.sl [TI]) b)] (OX (ZG a b)):=by
 refine bD QJ6 QKV Q1B 0 0 13 wR (kc uv (kc nr kn)) (λK =>
 K (OX ((QH a)&&(Qr b (a.length:Int))))) (λhb=>?_)
 exact au rfl
theorem E3:Qf Tryz.prog wR:=Qh λx _=>QNC x.1 x.2.1
def OY(t:Bool):aJ:=cd (bH t)
def wS:aP:=Qg 191 [(.c (.sl [TI])),(.c (.sl [TI]))] λx=>(none,OY (ZG x.1 x.2.1))
def QRH:aN:=⟨[Y6],false⟩
def QJ5:af :=
 (ag [(.ae [ab 4 (bm false)]),(.ae [ab 5 0,aL 6 97 [5],ab 7 6,.bj 7 true [ab 8 1,aL 9 97 [8]] 10 9,ab 11 10,.bj 11 true [ab 12 0,bh 13 12,ab 14 1,bh 15 14,az 16 .eql 13 15] 17 16,ab 4 17]),.ret])
def QPH:List (bw × Md):=[(.t 4,.one .d)]
theorem QZt(a:List Int)(b:List Int):aR Tryz.prog 191 [(.c (.sl [TI]) a),(.c (.sl [TI]) b)] (OY (ZG a b)):=by
 refine bD QRH QJ5 QPH 0 0 18 wS (kc Ji kn) (λK =>
 K (OY (((QH a)&&(QH b))&&((a.length:Int)==(b.length:Int))))) (λhb=>?_)
 refine au ?_;rw[Bool.eq_iff_iff];unfold ZG Qr;simp only[Bool.and_eq_true,beq_iff_eq];constructor
 ·rintro⟨⟨h1,h2⟩,h3⟩;exact⟨h1,h2,by omega⟩
 ·rintro⟨h1,h2,h3⟩;exact⟨⟨h1,h2⟩,by omega⟩
theorem E4:Qf Tryz.prog wS:=Qh λx _=>QZt x.1 x.2.1
def A0(t:(List Int) × Bool):aJ:=⟨(.tp [(.r [TI] 0 0 ((t.1).length)),(bH t.2)]),[(.sl 3 [TI] (.dp 0 true []) t.1)],[],false,[]⟩
def E5:aP:=Qg 231 [(.c (.sl [TI])),(.c (.sl [TI]))] λx=>(none,A0 (Zt x.1 x.2.1))
def OZ:aN:=⟨[wR,wH],true⟩
def Qxx:af :=
 (ag [(.ae [az 19 .lss 18 17]),(.cond 19 .skip (.exit 0)),(.block 1 (ag [(.ae [ab 20 18,ab 8 20]),(.draw [ab 22 0,ab 23 8,bn 24 22 23 [TI],ar 25 24 1,ab 26 1,ab 27 8,bn 28 26 27 [TI],ar 29 28 1,aL 30 106 [25,29],ab 21 30,bF 31 21 0,bF 32 21 1,ab 9 31,ab 10 32] []),(.ae [ab 33 6,ab 34 9,aD 35 (.bO 3 [TI] [34]),aD 36 (.app 33 35 3 [TI]),ab 6 36]),(.ae [ab 37 7,ab 38 37,.bj 38 false [ab 39 10] 40 39,ab 7 40])])),(.ae [az 41 .add 18 (aw 1),ab 18 41])])
def QxA:List (Nat × Md):=[(0,.one .d),(1,.one .d),(6,.one .f),(7,.one .d),(17,.one .d),(18,.one .d)]
def QIV:af :=
 (ag [(.ae [ab 42 6,ab 43 7,ab 4 42,ab 5 43]),.ret])
def QKs:af :=
 (ag [(.ae [ab 4 (.k (.n [TI])),ab 5 (bm false)]),(ag [(.ae [ab 11 0,ab 12 1,aL 13 195 [11,12],bL 14 13]),(.cond 14 (ag [(.ae [ab 4 (.k (.n [TI])),ab 5 (bm false)]),.ret]) .skip)]),(.ae [aD 15 (.bO 3 [TI] []),ab 6 15]),(.ae [ab 7 (bm false)]),(ag [(.ae [ab 16 0,bh 17 16,ab 18 (aw 0)]),(.block 0 (.loop QxA Qxx))]),QIV])
def QC9:List (bw × Md):=[(.t 4,.one (.p 3)),(.t 5,.one .d)]
def QwR:Qb:=TQ 0 0 QC9 K
def QNt:Qb:=ba (aU OZ 0 QIV (QwR K)) (QwR K)
def Q4j:Qb:=bf 0 (QNt K)
def E6(a:List Int)(b:List Int)(out:Bool)(x:Int)(v:List Int):Prop:=Loop OZ 0 QxA Qxx (Q4j K) ⟨[(0,(bu [TI] a)),(1,(bu [TI] b)),(6,(.r [TI] 0 0 v.length)),(7,(bH out)),(17,(aO (a.length:Int))),(18,(aO x))],[(0,(.sl 3 [TI] (.dp 0 true []) v))],1⟩
theorem QHj(a:List Int)(b:List Int)(out:Bool)(x:Int)(v:List Int) (h :
 (aS (decide (x<(a.length:Int))) (((0<=x/\Int.toNat x<a.length)/\(0<=x/\Int.toNat x<b.length))/\(((v.length=v.length\/v.length+1<=v.length)/\v.length+1<=bP)/\(E6 K a b (out||((Q4 (aq (0:Int) a (Int.toNat x)) (aq (0:Int) b (Int.toNat x))).2)) (aI (x+1)) (List.take (v.length+1) ((List.take v.length v)++([(Q4 (aq (0:Int) a (Int.toNat x)) (aq (0:Int) b (Int.toNat x))).1])))))) (K (A0 ((List.take v.length v),out))))):E6 K a b out x v :=
 Loop.of h
theorem QR0(a:List Int)(b:List Int):aR Tryz.prog 231 [(.c (.sl [TI]) a),(.c (.sl [TI]) b)] (A0 (Zt a b)):=by
 refine bD OZ QKs QC9 0 0 44 E5 (kc E3 (kc Ei kn)) (λK =>
 (aS (!(ZG a b)) (K (A0 (([]:List Int),false))) (E6 K a b false 0 ([]:List Int)))) (λhb=>?_)
 refine⟨λh=>au (by unfold Zt;rw[if_neg (by simpa using h)]),λh=>?_⟩;have hp:ZG a b=true:=by simpa using h
 have hl:=JV.1 hp;have h6:=(ZY.1 hl.1).1;refine Zd a (λr k=>∀(v:List Int)(s:Bool),v.length=k->(v++(vz Q4 r (b.drop k)).1,s||(vz Q4 r (b.drop k)).2)=(Zt a b)->E6 (λr'=>r'=A0 (Zt a b)) a b s k v) ?_ ?_ [] false rfl (by unfold Zt;rw[if_pos hp];simp)
 ·intro v s hv he;refine QHj _ _ _ _ _ _ ⟨λh=>by simp at h,λ_=>au ?_⟩;rw[<- he];simp[vz]
 ·intro k x r hk aY hg ih v s hv he;obtain⟨y,q,hq⟩:=Y1 (l:=b) (k:=k) (by omega);refine QHj _ _ _ _ _ _ ⟨λ_=>?_,λh=>by simp at h;omega⟩;rw[Int.toNat_natCast,hg,Z2 hq,dv (by omega),Zc];refine⟨⟨⟨by omega,aY⟩,by omega,by omega⟩,room (by omega),ih _ _ (Yz hv) ?_⟩;rw[<- he,hq,vz,ZW hq];simp[Bool.or_assoc]
theorem Qxa:Qf Tryz.prog E5:=Qh λx _=>QR0 x.1 x.2.1
def E7(t:(List Int) × Bool):aJ:=f0 (.tp [(bu [TI] t.1),(bH t.2)])
def E8:aP:=Qg 225 [(.c (.sl [TI])),(.c (.sl [TI]))] λx=>(none,E7 (Zt x.1 x.2.1))
def O0:aN:=⟨[wS,uB],false⟩
def QzZ:af :=
 (ag [(ag [(.ae [ab 12 8,ab 13 0,bh 14 13,az 15 .lss 12 14,ab 16 15,.bj 16 true [ab 17 0,ab 18 1,aL 19 191 [17,18]] 20 19]),(.cond 20 .skip (.exit 0))]),(.block 1 (ag [(.draw [ab 24 0,ab 25 8,bn 26 24 25 [TI],ar 27 26 1,ab 28 1,ab 29 8,bn 30 28 29 [TI],ar 31 30 1,aL 32 99 [27,31],ab 23 32,bF 33 23 0,bF 34 23 1,ab 9 33,ab 10 34] []),(.ae [ab 35 6,ab 36 9,aD 37 (.bO 3 [TI] [36]),aD 38 (.app 35 37 3 [TI]),ab 6 38]),(.ae [ab 39 7,ab 40 39,.bj 40 false [ab 41 10] 42 41,ab 7 42])])),(.ae [ab 21 8,az 22 .add 21 (aw 1),ab 8 22])])
def Qwm:List (Nat × Md):=[(0,.one .d),(1,.one .d),(6,.one .f),(7,.one .d),(8,.one .d)]
def QEj:af :=
 (ag [(.ae [ab 43 6,ab 44 7,ab 4 43,ab 5 44]),.ret])
def QZ6:af :=
 (ag [(.ae [ab 4 (.k (.n [TI])),ab 5 (bm false)]),(.ae [aD 11 (.bO 3 [TI] []),ab 6 11]),(.ae [ab 7 (bm false)]),(ag [(.ae [ab 8 (aw 0)]),(.block 0 (.loop Qwm QzZ))]),QEj])
def QuE:List (bw × Md):=[(.t 4,.one .d),(.t 5,.one .d)]
def QAp:Qb:=TQ 0 0 QuE K
def QPB:Qb:=ba (aU O0 0 QEj (QAp K)) (QAp K)
def QVi:Qb:=bf 0 (QPB K)
def E9(a:List Int)(b:List Int)(sat:Bool)(i:Int)(out:List Int):Prop:=Loop O0 0 Qwm QzZ (QVi K) ⟨[(0,(bu [TI] a)),(1,(bu [TI] b)),(6,(.r [TI] 0 0 out.length)),(7,(bH sat)),(8,(aO i))],[(0,(.sl 3 [TI] .ow out))],1⟩
theorem O1(a:List Int)(b:List Int)(sat:Bool)(i:Int)(out:List Int) (h :
 (aS ((decide (i<(a.length:Int)))&&(ZG a b)) (((0<=i/\Int.toNat i<a.length)/\(0<=i/\Int.toNat i<b.length))/\(((out.length=out.length\/out.length+1<=out.length)/\out.length+1<=bP)/\(E9 K a b (sat||((Q4 (aq (0:Int) a (Int.toNat i)) (aq (0:Int) b (Int.toNat i))).2)) (aI (i+1)) (List.take (out.length+1) ((List.take out.length out)++([(Q4 (aq (0:Int) a (Int.toNat i)) (aq (0:Int) b (Int.toNat i))).1])))))) (K (E7 ((List.take out.length (List.drop 0 out)),sat))))):E9 K a b sat i out :=
 Loop.of h
theorem QPY(a:List Int)(b:List Int):aR Tryz.prog 225 [(.c (.sl [TI]) a),(.c (.sl [TI]) b)] (E7 (Zt a b)):=by
 refine bD O0 QZ6 QuE 0 0 45 E8 (kc E4 (kc Au kn)) (λK =>
 (E9 K a b false 0 ([]:List Int))) (λhb=>?_)
 by_cases hp:ZG a b=true;rotate_left
 ·refine O1 _ _ _ _ _ _ ⟨λh=>by simp[hp]at h,λ_=>au (by unfold Zt;rw[if_neg hp];rfl)⟩
 have hl:=JV.1 hp;have h6:=(ZY.1 hl.1).1;refine Zd a (λr k=>∀(v:List Int)(s:Bool),v.length=k->(v++(vz Q4 r (b.drop k)).1,s||(vz Q4 r (b.drop k)).2)=(Zt a b)->E9 (λr'=>r'=E7 (Zt a b)) a b s k v) ?_ ?_ [] false rfl (by unfold Zt;rw[if_pos hp];simp)
 ·intro v s hv he;refine O1 _ _ _ _ _ _ ⟨λh=>by simp at h,λ_=>au ?_⟩;rw[<- he];simp[vz]
 ·intro k x r hk aY hg ih v s hv he;obtain⟨y,q,hq⟩:=Y1 (l:=b) (k:=k) (by omega);refine O1 _ _ _ _ _ _ ⟨λ_=>?_,λh=>by simp[hp]at h;omega⟩;rw[Int.toNat_natCast,hg,Z2 hq,dv (by omega),Zc];refine⟨⟨⟨by omega,aY⟩,by omega,by omega⟩,room (by omega),ih _ _ (Yz hv) ?_⟩;rw[<- he,hq,vz,ZW hq];simp[Bool.or_assoc]
theorem QCS:Qf Tryz.prog E8:=Qh λx _=>QPY x.1 x.2.1
def A1(t:(List Int) × Bool):aJ:=⟨(.tp [(.r [TI] 0 0 ((t.1).length)),(bH t.2)]),[(.sl 3 [TI] (.dp 0 true []) t.1)],[],false,[]⟩
def Fa:aP:=Qg 111 [(.c (.sl [TI])),(.c (.sl [TI]))] λx=>(none,A1 (QV x.1 x.2.1))
def O2:aN:=⟨[wR,NG],true⟩
def QAo:af :=
 (ag [(.ae [az 19 .lss 18 17]),(.cond 19 .skip (.exit 0)),(.block 1 (ag [(.ae [ab 20 18,ab 8 20]),(.draw [ab 22 0,ab 23 8,bn 24 22 23 [TI],ar 25 24 1,ab 26 1,ab 27 8,bn 28 26 27 [TI],ar 29 28 1,aL 30 196 [25,29],ab 21 30,bF 31 21 0,bF 32 21 1,ab 9 31,ab 10 32] []),(.ae [ab 33 6,ab 34 9,aD 35 (.bO 3 [TI] [34]),aD 36 (.app 33 35 3 [TI]),ab 6 36]),(.ae [ab 37 7,ab 38 37,.bj 38 false [ab 39 10] 40 39,ab 7 40])])),(.ae [az 41 .add 18 (aw 1),ab 18 41])])
def Qt4:List (Nat × Md):=[(0,.one .d),(1,.one .d),(6,.one .f),(7,.one .d),(17,.one .d),(18,.one .d)]
def QH0:af :=
 (ag [(.ae [ab 42 6,ab 43 7,ab 4 42,ab 5 43]),.ret])
def QXX:af :=
 (ag [(.ae [ab 4 (.k (.n [TI])),ab 5 (bm false)]),(ag [(.ae [ab 11 0,ab 12 1,aL 13 195 [11,12],bL 14 13]),(.cond 14 (ag [(.ae [ab 4 (.k (.n [TI])),ab 5 (bm false)]),.ret]) .skip)]),(.ae [aD 15 (.bO 3 [TI] []),ab 6 15]),(.ae [ab 7 (bm false)]),(ag [(.ae [ab 16 0,bh 17 16,ab 18 (aw 0)]),(.block 0 (.loop Qt4 QAo))]),QH0])
def QzB:List (bw × Md):=[(.t 4,.one (.p 3)),(.t 5,.one .d)]
def QuV:Qb:=TQ 0 0 QzB K
def QPI:Qb:=ba (aU O2 0 QH0 (QuV K)) (QuV K)
def QRn:Qb:=bf 0 (QPI K)
def Fb(a:List Int)(b:List Int)(out:Bool)(x:Int)(v:List Int):Prop:=Loop O2 0 Qt4 QAo (QRn K) ⟨[(0,(bu [TI] a)),(1,(bu [TI] b)),(6,(.r [TI] 0 0 v.length)),(7,(bH out)),(17,(aO (a.length:Int))),(18,(aO x))],[(0,(.sl 3 [TI] (.dp 0 true []) v))],1⟩
theorem QBd(a:List Int)(b:List Int)(out:Bool)(x:Int)(v:List Int) (h :
 (aS (decide (x<(a.length:Int))) (((0<=x/\Int.toNat x<a.length)/\(0<=x/\Int.toNat x<b.length))/\(((v.length=v.length\/v.length+1<=v.length)/\v.length+1<=bP)/\(Fb K a b (out||((JU (aq (0:Int) a (Int.toNat x)) (aq (0:Int) b (Int.toNat x))).2)) (aI (x+1)) (List.take (v.length+1) ((List.take v.length v)++([(JU (aq (0:Int) a (Int.toNat x)) (aq (0:Int) b (Int.toNat x))).1])))))) (K (A1 ((List.take v.length v),out))))):Fb K a b out x v :=
 Loop.of h
theorem QPo(a:List Int)(b:List Int):aR Tryz.prog 111 [(.c (.sl [TI]) a),(.c (.sl [TI]) b)] (A1 (QV a b)):=by
 refine bD O2 QXX QzB 0 0 44 Fa (kc E3 (kc QV1 kn)) (λK =>
 (aS (!(ZG a b)) (K (A1 (([]:List Int),false))) (Fb K a b false 0 ([]:List Int)))) (λhb=>?_)
 refine⟨λh=>au (by unfold QV;rw[if_neg (by simpa using h)]),λh=>?_⟩;have hp:ZG a b=true:=by simpa using h
 have hl:=JV.1 hp;have h6:=(ZY.1 hl.1).1;refine Zd a (λr k=>∀(v:List Int)(s:Bool),v.length=k->(v++(vz JU r (b.drop k)).1,s||(vz JU r (b.drop k)).2)=(QV a b)->Fb (λr'=>r'=A1 (QV a b)) a b s k v) ?_ ?_ [] false rfl (by unfold QV;rw[if_pos hp];simp)
 ·intro v s hv he;refine QBd _ _ _ _ _ _ ⟨λh=>by simp at h,λ_=>au ?_⟩;rw[<- he];simp[vz]
 ·intro k x r hk aY hg ih v s hv he;obtain⟨y,q,hq⟩:=Y1 (l:=b) (k:=k) (by omega);refine QBd _ _ _ _ _ _ ⟨λ_=>?_,λh=>by simp at h;omega⟩;rw[Int.toNat_natCast,hg,Z2 hq,dv (by omega),Zc];refine⟨⟨⟨by omega,aY⟩,by omega,by omega⟩,room (by omega),ih _ _ (Yz hv) ?_⟩;rw[<- he,hq,vz,ZW hq];simp[Bool.or_assoc]
theorem QFP:Qf Tryz.prog Fa:=Qh λx _=>QPo x.1 x.2.1
def Fc(t:(List Int) × Bool):aJ:=f0 (.tp [(bu [TI] t.1),(bH t.2)])
def Fe:aP:=Qg 107 [(.c (.sl [TI])),(.c (.sl [TI]))] λx=>(none,Fc (QV x.1 x.2.1))
def O3:aN:=⟨[wS,NI],false⟩
def QDp:af :=
 (ag [(ag [(.ae [ab 12 8,ab 13 0,bh 14 13,az 15 .lss 12 14,ab 16 15,.bj 16 true [ab 17 0,ab 18 1,aL 19 191 [17,18]] 20 19]),(.cond 20 .skip (.exit 0))]),(.block 1 (ag [(.draw [ab 24 0,ab 25 8,bn 26 24 25 [TI],ar 27 26 1,ab 28 1,ab 29 8,bn 30 28 29 [TI],ar 31 30 1,aL 32 192 [27,31],ab 23 32,bF 33 23 0,bF 34 23 1,ab 9 33,ab 10 34] []),(.ae [ab 35 6,ab 36 9,aD 37 (.bO 3 [TI] [36]),aD 38 (.app 35 37 3 [TI]),ab 6 38]),(.ae [ab 39 7,ab 40 39,.bj 40 false [ab 41 10] 42 41,ab 7 42])])),(.ae [ab 21 8,az 22 .add 21 (aw 1),ab 8 22])])
def QDt:List (Nat × Md):=[(0,.one .d),(1,.one .d),(6,.one .f),(7,.one .d),(8,.one .d)]
def QCw:af :=
 (ag [(.ae [ab 43 6,ab 44 7,ab 4 43,ab 5 44]),.ret])
def QM1:af :=
 (ag [(.ae [ab 4 (.k (.n [TI])),ab 5 (bm false)]),(.ae [aD 11 (.bO 3 [TI] []),ab 6 11]),(.ae [ab 7 (bm false)]),(ag [(.ae [ab 8 (aw 0)]),(.block 0 (.loop QDt QDp))]),QCw])
def QvI:List (bw × Md):=[(.t 4,.one .d),(.t 5,.one .d)]
def QFG:Qb:=TQ 0 0 QvI K
def QNQ:Qb:=ba (aU O3 0 QCw (QFG K)) (QFG K)
def Q2W:Qb:=bf 0 (QNQ K)
def Ff(a:List Int)(b:List Int)(sat:Bool)(i:Int)(out:List Int):Prop:=Loop O3 0 QDt QDp (Q2W K) ⟨[(0,(bu [TI] a)),(1,(bu [TI] b)),(6,(.r [TI] 0 0 out.length)),(7,(bH sat)),(8,(aO i))],[(0,(.sl 3 [TI] .ow out))],1⟩
theorem O4(a:List Int)(b:List Int)(sat:Bool)(i:Int)(out:List Int) (h :
 (aS ((decide (i<(a.length:Int)))&&(ZG a b)) (((0<=i/\Int.toNat i<a.length)/\(0<=i/\Int.toNat i<b.length))/\(((out.length=out.length\/out.length+1<=out.length)/\out.length+1<=bP)/\(Ff K a b (sat||((JU (aq (0:Int) a (Int.toNat i)) (aq (0:Int) b (Int.toNat i))).2)) (aI (i+1)) (List.take (out.length+1) ((List.take out.length out)++([(JU (aq (0:Int) a (Int.toNat i)) (aq (0:Int) b (Int.toNat i))).1])))))) (K (Fc ((List.take out.length (List.drop 0 out)),sat))))):Ff K a b sat i out :=
 Loop.of h
theorem QPr(a:List Int)(b:List Int):aR Tryz.prog 107 [(.c (.sl [TI]) a),(.c (.sl [TI]) b)] (Fc (QV a b)):=by
 refine bD O3 QM1 QvI 0 0 45 Fe (kc E4 (kc QWG kn)) (λK =>
 (Ff K a b false 0 ([]:List Int))) (λhb=>?_)
 by_cases hp:ZG a b=true;rotate_left
 ·refine O4 _ _ _ _ _ _ ⟨λh=>by simp[hp]at h,λ_=>au (by unfold QV;rw[if_neg hp];rfl)⟩
 have hl:=JV.1 hp;have h6:=(ZY.1 hl.1).1;refine Zd a (λr k=>∀(v:List Int)(s:Bool),v.length=k->(v++(vz JU r (b.drop k)).1,s||(vz JU r (b.drop k)).2)=(QV a b)->Ff (λr'=>r'=Fc (QV a b)) a b s k v) ?_ ?_ [] false rfl (by unfold QV;rw[if_pos hp];simp)
 ·intro v s hv he;refine O4 _ _ _ _ _ _ ⟨λh=>by simp at h,λ_=>au ?_⟩;rw[<- he];simp[vz]
 ·intro k x r hk aY hg ih v s hv he;obtain⟨y,q,hq⟩:=Y1 (l:=b) (k:=k) (by omega);refine O4 _ _ _ _ _ _ ⟨λ_=>?_,λh=>by simp[hp]at h;omega⟩;rw[Int.toNat_natCast,hg,Z2 hq,dv (by omega),Zc];refine⟨⟨⟨by omega,aY⟩,by omega,by omega⟩,room (by omega),ih _ _ (Yz hv) ?_⟩;rw[<- he,hq,vz,ZW hq];simp[Bool.or_assoc]
theorem Qu3:Qf Tryz.prog Fe:=Qh λx _=>QPr x.1 x.2.1
def A2(t:(List Int) × Bool):aJ:=⟨(.tp [(.r [TI] 0 0 ((t.1).length)),(bH t.2)]),[(.sl 3 [TI] (.dp 0 true []) t.1)],[],false,[]⟩
def Fg:aP:=Qg 232 [(.c TI),(.c (.sl [TI]))] λx=>(none,A2 (ZQ x.1 x.2.1))
def O5:aN:=⟨[Ad,p9,Av],true⟩
def QBl:af :=
 (ag [(.ae [az 23 .lss 22 21]),(.cond 23 .skip (.exit 0)),(.block 1 (ag [(.ae [ab 24 22,ab 8 24]),(.ae [ab 26 0,ab 27 1,ab 28 8,bn 29 27 28 [TI],ar 30 29 1,aL 31 239 [26,30],ab 25 31,bF 32 25 0,bF 33 25 1,ab 9 32,ab 10 33]),(.ae [ab 34 6,ab 35 9,aD 36 (.bO 3 [TI] [35]),aD 37 (.app 34 36 3 [TI]),ab 6 37]),(.ae [ab 38 7,ab 39 38,.bj 39 false [ab 40 10] 41 40,ab 7 41])])),(.ae [az 42 .add 22 (aw 1),ab 22 42])])
def QwS:List (Nat × Md):=[(0,.one .d),(1,.one .d),(6,.one .f),(7,.one .d),(21,.one .d),(22,.one .d)]
def QBw:af :=
 (ag [(.ae [ab 43 6,ab 44 7,ab 4 43,ab 5 44]),.ret])
def Q1g:af :=
 (ag [(.ae [ab 4 (.k (.n [TI])),ab 5 (bm false)]),(ag [(.ae [ab 11 0,aL 12 240 [11],bL 13 12,ab 14 13,.bj 14 false [ab 15 1,aL 16 187 [15],bL 17 16] 18 17]),(.cond 18 (ag [(.ae [ab 4 (.k (.n [TI])),ab 5 (bm false)]),.ret]) .skip)]),(.ae [aD 19 (.bO 3 [TI] []),ab 6 19]),(.ae [ab 7 (bm false)]),(ag [(.ae [ab 20 1,bh 21 20,ab 22 (aw 0)]),(.block 0 (.loop QwS QBl))]),QBw])
def QIA:List (bw × Md):=[(.t 4,.one (.p 3)),(.t 5,.one .d)]
def Qvx:Qb:=TQ 0 0 QIA K
def QKf:Qb:=ba (aU O5 0 QBw (Qvx K)) (Qvx K)
def QKB:Qb:=bf 0 (QKf K)
def Fh(c:Int)(a:List Int)(out:Bool)(x:Int)(v:List Int):Prop:=Loop O5 0 QwS QBl (QKB K) ⟨[(0,(aO c)),(1,(bu [TI] a)),(6,(.r [TI] 0 0 v.length)),(7,(bH out)),(21,(aO (a.length:Int))),(22,(aO x))],[(0,(.sl 3 [TI] (.dp 0 true []) v))],1⟩
theorem QDV(c:Int)(a:List Int)(out:Bool)(x:Int)(v:List Int) (h :
 (aS (decide (x<(a.length:Int))) ((0<=x/\Int.toNat x<a.length)/\(((v.length=v.length\/v.length+1<=v.length)/\v.length+1<=bP)/\(Fh K c a (out||((Zm c (aq (0:Int) a (Int.toNat x))).2)) (aI (x+1)) (List.take (v.length+1) ((List.take v.length v)++([(Zm c (aq (0:Int) a (Int.toNat x))).1])))))) (K (A2 ((List.take v.length v),out))))):Fh K c a out x v :=
 Loop.of h
theorem QOF(c:Int)(a:List Int):aR Tryz.prog 232 [(.c TI c),(.c (.sl [TI]) a)] (A2 (ZQ c a)):=by
 refine bD O5 Q1g QIA 0 0 45 Fg (kc MA (kc uv (kc NK kn))) (λK =>
 (aS ((!(Zj c))||(!(QH a))) (K (A2 (([]:List Int),false))) (Fh K c a false 0 ([]:List Int)))) (λhb=>?_)
 refine⟨λh=>au (by unfold ZQ;rw[if_neg (by intro h2;simp at h2;simp[h2]at h)]),λh=>?_⟩;have hp:Zj c=true/\QH a=true:=by simpa using h
 have h6:=(ZY.1 hp.2).1;refine Zd a (λr k=>∀(v:List Int)(s:Bool),v.length=k->(v++(v1 (Zm c) r).1,s||(v1 (Zm c) r).2)=(ZQ c a)->Fh (λr'=>r'=A2 (ZQ c a)) c a s k v) ?_ ?_ [] false rfl (by unfold ZQ;rw[if_pos (by simp[hp])];simp)
 ·intro v s hv he;refine QDV _ _ _ _ _ _ ⟨λh=>by simp at h,λ_=>au ?_⟩;rw[<- he];simp[v1]
 ·intro k x r hk aY hg ih v s hv he;refine QDV _ _ _ _ _ _ ⟨λ_=>?_,λh=>by simp at h;omega⟩;rw[Int.toNat_natCast,hg,dv (by omega),Zc];refine⟨⟨by omega,aY⟩,room (by omega),ih _ _ (Yz hv) ?_⟩;rw[<- he,v1];simp[Bool.or_assoc]
theorem QuT:Qf Tryz.prog Fg:=Qh λx _=>QOF x.1 x.2.1
def Fi(t:(List Int) × Bool):aJ:=f0 (.tp [(bu [TI] t.1),(bH t.2)])
def Fj:aP:=Qg 227 [(.c TI),(.c (.sl [TI]))] λx=>(none,Fi (ZQ x.1 x.2.1))
def O6:aN:=⟨[Y6,wj,Aw],false⟩
def QIn:af :=
 (ag [(ag [(.ae [ab 12 8,ab 13 1,bh 14 13,az 15 .lss 12 14,ab 16 15,.bj 16 true [ab 17 1,aL 18 97 [17]] 19 18,ab 20 19,.bj 20 true [ab 21 0,aL 22 183 [21]] 23 22]),(.cond 23 .skip (.exit 0))]),(.block 1 (ag [(.ae [ab 27 0,ab 28 1,ab 29 8,bn 30 28 29 [TI],ar 31 30 1,aL 32 237 [27,31],ab 26 32,bF 33 26 0,bF 34 26 1,ab 9 33,ab 10 34]),(.ae [ab 35 6,ab 36 9,aD 37 (.bO 3 [TI] [36]),aD 38 (.app 35 37 3 [TI]),ab 6 38]),(.ae [ab 39 7,ab 40 39,.bj 40 false [ab 41 10] 42 41,ab 7 42])])),(.ae [ab 24 8,az 25 .add 24 (aw 1),ab 8 25])])
def QtA:List (Nat × Md):=[(0,.one .d),(1,.one .d),(6,.one .f),(7,.one .d),(8,.one .d)]
def QxI:af :=
 (ag [(.ae [ab 43 6,ab 44 7,ab 4 43,ab 5 44]),.ret])
def QWB:af :=
 (ag [(.ae [ab 4 (.k (.n [TI])),ab 5 (bm false)]),(.ae [aD 11 (.bO 3 [TI] []),ab 6 11]),(.ae [ab 7 (bm false)]),(ag [(.ae [ab 8 (aw 0)]),(.block 0 (.loop QtA QIn))]),QxI])
def QEa:List (bw × Md):=[(.t 4,.one .d),(.t 5,.one .d)]
def QF0:Qb:=TQ 0 0 QEa K
def Q1Y:Qb:=ba (aU O6 0 QxI (QF0 K)) (QF0 K)
def Q3q:Qb:=bf 0 (Q1Y K)
def Fk(c:Int)(a:List Int)(sat:Bool)(i:Int)(out:List Int):Prop:=Loop O6 0 QtA QIn (Q3q K) ⟨[(0,(aO c)),(1,(bu [TI] a)),(6,(.r [TI] 0 0 out.length)),(7,(bH sat)),(8,(aO i))],[(0,(.sl 3 [TI] .ow out))],1⟩
theorem O7(c:Int)(a:List Int)(sat:Bool)(i:Int)(out:List Int) (h :
 (aS (((decide (i<(a.length:Int)))&&(QH a))&&(Zj c)) ((0<=i/\Int.toNat i<a.length)/\(((out.length=out.length\/out.length+1<=out.length)/\out.length+1<=bP)/\(Fk K c a (sat||((Zm c (aq (0:Int) a (Int.toNat i))).2)) (aI (i+1)) (List.take (out.length+1) ((List.take out.length out)++([(Zm c (aq (0:Int) a (Int.toNat i))).1])))))) (K (Fi ((List.take out.length (List.drop 0 out)),sat))))):Fk K c a sat i out :=
 Loop.of h
theorem QZc(c:Int)(a:List Int):aR Tryz.prog 227 [(.c TI c),(.c (.sl [TI]) a)] (Fi (ZQ c a)):=by
 refine bD O6 QWB QEa 0 0 45 Fj (kc Ji (kc DH (kc NM kn))) (λK =>
 (Fk K c a false 0 ([]:List Int))) (λhb=>?_)
 by_cases hp:Zj c=true/\QH a=true;rotate_left
 ·refine O7 _ _ _ _ _ _ ⟨λh=>absurd (by simp at h;exact⟨h.2,h.1.2⟩) hp,λ_=>au (by unfold ZQ;rw[if_neg (by simpa using hp)];rfl)⟩
 have h6:=(ZY.1 hp.2).1;refine Zd a (λr k=>∀(v:List Int)(s:Bool),v.length=k->(v++(v1 (Zm c) r).1,s||(v1 (Zm c) r).2)=(ZQ c a)->Fk (λr'=>r'=Fi (ZQ c a)) c a s k v) ?_ ?_ [] false rfl (by unfold ZQ;rw[if_pos (by simp[hp])];simp)
 ·intro v s hv he;refine O7 _ _ _ _ _ _ ⟨λh=>by simp at h,λ_=>au ?_⟩;rw[<- he];simp[v1]
 ·intro k x r hk aY hg ih v s hv he;refine O7 _ _ _ _ _ _ ⟨λ_=>?_,λh=>by simp[hp]at h;omega⟩;rw[Int.toNat_natCast,hg,dv (by omega),Zc];refine⟨⟨by omega,aY⟩,room (by omega),ih _ _ (Yz hv) ?_⟩;rw[<- he,v1];simp[Bool.or_assoc]
theorem QHz:Qf Tryz.prog Fj:=Qh λx _=>QZc x.1 x.2.1
def A3(t:Int × Bool):aJ:=cd (.tp [(aO t.1),(bH t.2)])
def A4:aP:=Qg 188 [(.c (.sl [TI])),(.c (.sl [TI]))] λx=>(none,A3 (Q7 x.1 x.2.1))
def O8:aN:=⟨[wR,Av,wH],false⟩
def QFt:af :=
 (ag [(.ae [az 20 .lss 19 18]),(.cond 20 .skip (.exit 0)),(.block 1 (ag [(.ae [ab 21 19,ab 8 21]),(.draw [ab 23 0,ab 24 8,bn 25 23 24 [TI],ar 26 25 1,ab 27 1,ab 28 8,bn 29 27 28 [TI],ar 30 29 1,aL 31 239 [26,30],ab 22 31,bF 32 22 0,bF 33 22 1,ab 9 32,ab 10 33] []),(.ae [ab 35 6,ab 36 9,aL 37 106 [35,36],ab 34 37,bF 38 34 0,bF 39 34 1,ab 11 38,ab 12 39]),(.ae [ab 40 11,ab 6 40]),(.ae [ab 41 7,ab 42 41,.bj 42 false [ab 43 10] 44 43,ab 45 44,.bj 45 false [ab 46 12] 47 46,ab 7 47])])),(.ae [az 48 .add 19 (aw 1),ab 19 48])])
def QuZ:List (Nat × Md):=ij [0,1,6,7,18,19]
def QuL:af :=
 (ag [(.ae [ab 49 6,ab 50 7,ab 4 49,ab 5 50]),.ret])
def QU6:af :=
 (ag [(.ae [ab 4 (aw 0),ab 5 (bm false)]),(ag [(.ae [ab 13 0,ab 14 1,aL 15 195 [13,14],bL 16 15]),(.cond 16 (ag [(.ae [ab 4 (aw 0),ab 5 (bm false)]),.ret]) .skip)]),(.ae [ab 6 (aw 0)]),(.ae [ab 7 (bm false)]),(ag [(.ae [ab 17 0,bh 18 17,ab 19 (aw 0)]),(.block 0 (.loop QuZ QFt))]),QuL])
def Qzi:List (bw × Md):=[(.t 4,.one .d),(.t 5,.one .d)]
def QGq:Qb:=TQ 0 0 Qzi K
def Q2a:Qb:=ba (aU O8 0 QuL (QGq K)) (QGq K)
def QXg:Qb:=bf 0 (Q2a K)
def Fl(a:List Int)(b:List Int)(sum:Int)(out:Bool)(x:Int):Prop:=Loop O8 0 QuZ QFt (QXg K) ⟨[(0,(bu [TI] a)),(1,(bu [TI] b)),(6,(aO sum)),(7,(bH out)),(18,(aO (a.length:Int))),(19,(aO x))],[],0⟩
theorem Qxg(a:List Int)(b:List Int)(sum:Int)(out:Bool)(x:Int) (h :
 (aS (decide (x<(a.length:Int))) (((0<=x/\Int.toNat x<a.length)/\(0<=x/\Int.toNat x<b.length))/\(Fl K a b ((Q4 sum ((Zm (aq (0:Int) a (Int.toNat x)) (aq (0:Int) b (Int.toNat x))).1)).1) ((out||((Zm (aq (0:Int) a (Int.toNat x)) (aq (0:Int) b (Int.toNat x))).2))||((Q4 sum ((Zm (aq (0:Int) a (Int.toNat x)) (aq (0:Int) b (Int.toNat x))).1)).2)) (aI (x+1)))) (K (A3 (sum,out))))):Fl K a b sum out x :=
 Loop.of h
theorem QYJ(a:List Int)(b:List Int):aR Tryz.prog 188 [(.c (.sl [TI]) a),(.c (.sl [TI]) b)] (A3 (Q7 a b)):=by
 refine bD O8 QU6 Qzi 0 0 51 A4 (kc E3 (kc NK (kc Ei kn))) (λK =>
 (aS (!(ZG a b)) (K (A3 ((0:Int),false))) (Fl K a b 0 false 0))) (λhb=>?_)
 refine⟨λh=>au (by unfold Q7;rw[if_neg (by simpa using h)]),λh=>?_⟩;have hp:ZG a b=true:=by simpa using h
 have hl:=JV.1 hp;have h6:=(ZY.1 hl.1).1;refine Zd a (λr k=>∀(z:Int)(s:Bool),((Y3 r (b.drop k) z).1,s||(Y3 r (b.drop k) z).2)=(Q7 a b)->Fl (λr'=>r'=A3 (Q7 a b)) a b z s k) ?_ ?_ 0 false (by unfold Q7;rw[if_pos hp];simp)
 ·intro z s he;refine Qxg _ _ _ _ _ _ ⟨λh=>by simp at h,λ_=>au ?_⟩;rw[<- he];simp[Y3]
 ·intro k x r hk aY hg ih z s he;obtain⟨y,q,hq⟩:=Y1 (l:=b) (k:=k) (by omega);refine Qxg _ _ _ _ _ _ ⟨λ_=>?_,λh=>by simp at h;omega⟩;rw[Int.toNat_natCast,hg,Z2 hq,dv (by omega)];refine⟨⟨⟨by omega,aY⟩,by omega,by omega⟩,ih _ _ ?_⟩;rw[<- he,hq,Y3,ZW hq];simp[Bool.or_assoc]
theorem O9:Qf Tryz.prog A4:=Qh λx _=>QYJ x.1 x.2.1
def Fm(t:Int × Bool):aJ:=cd (.tp [(aO t.1),(bH t.2)])
def wT:aP:=Qg 184 [(.c (.sl [TI])),(.c (.sl [TI]))] λx=>(none,Fm (Q7 x.1 x.2.1))
def Pa:aN:=⟨[wS,Aw,uB],false⟩
def QCC:af :=
 (ag [(ag [(.ae [ab 13 8,ab 14 0,bh 15 14,az 16 .lss 13 15,ab 17 16,.bj 17 true [ab 18 0,ab 19 1,aL 20 191 [18,19]] 21 20]),(.cond 21 .skip (.exit 0))]),(.block 1 (ag [(.draw [ab 25 0,ab 26 8,bn 27 25 26 [TI],ar 28 27 1,ab 29 1,ab 30 8,bn 31 29 30 [TI],ar 32 31 1,aL 33 237 [28,32],ab 24 33,bF 34 24 0,bF 35 24 1,ab 9 34,ab 10 35] []),(.ae [ab 37 6,ab 38 9,aL 39 99 [37,38],ab 36 39,bF 40 36 0,bF 41 36 1,ab 11 40,ab 12 41]),(.ae [ab 42 11,ab 6 42]),(.ae [ab 43 7,ab 44 43,.bj 44 false [ab 45 10] 46 45,ab 47 46,.bj 47 false [ab 48 12] 49 48,ab 7 49])])),(.ae [ab 22 8,az 23 .add 22 (aw 1),ab 8 23])])
def QIu:List (Nat × Md):=ij [0,1,6,7,8]
def QyX:af :=
 (ag [(.ae [ab 50 6,ab 51 7,ab 4 50,ab 5 51]),.ret])
def QTL:af :=
 (ag [(.ae [ab 4 (aw 0),ab 5 (bm false)]),(.ae [ab 6 (aw 0)]),(.ae [ab 7 (bm false)]),(ag [(.ae [ab 8 (aw 0)]),(.block 0 (.loop QIu QCC))]),QyX])
def Qvj:List (bw × Md):=[(.t 4,.one .d),(.t 5,.one .d)]
def Qv0:Qb:=TQ 0 0 Qvj K
def QTR:Qb:=ba (aU Pa 0 QyX (Qv0 K)) (Qv0 K)
def Q1C:Qb:=bf 0 (QTR K)
def Fo(a:List Int)(b:List Int)(sum:Int)(sat:Bool)(i:Int):Prop:=Loop Pa 0 QIu QCC (Q1C K) ⟨[(0,(bu [TI] a)),(1,(bu [TI] b)),(6,(aO sum)),(7,(bH sat)),(8,(aO i))],[],0⟩
theorem Pb(a:List Int)(b:List Int)(sum:Int)(sat:Bool)(i:Int) (h :
 (aS ((decide (i<(a.length:Int)))&&(ZG a b)) (((0<=i/\Int.toNat i<a.length)/\(0<=i/\Int.toNat i<b.length))/\(Fo K a b ((Q4 sum ((Zm (aq (0:Int) a (Int.toNat i)) (aq (0:Int) b (Int.toNat i))).1)).1) ((sat||((Zm (aq (0:Int) a (Int.toNat i)) (aq (0:Int) b (Int.toNat i))).2))||((Q4 sum ((Zm (aq (0:Int) a (Int.toNat i)) (aq (0:Int) b (Int.toNat i))).1)).2)) (aI (i+1)))) (K (Fm (sum,sat))))):Fo K a b sum sat i :=
 Loop.of h
theorem QSU(a:List Int)(b:List Int):aR Tryz.prog 184 [(.c (.sl [TI]) a),(.c (.sl [TI]) b)] (Fm (Q7 a b)):=by
 refine bD Pa QTL Qvj 0 0 52 wT (kc E4 (kc NM (kc Au kn))) (λK =>
 (Fo K a b 0 false 0)) (λhb=>?_)
 by_cases hp:ZG a b=true;rotate_left
 ·refine Pb _ _ _ _ _ _ ⟨λh=>by simp[hp]at h,λ_=>au (by unfold Q7;rw[if_neg hp])⟩
 have hl:=JV.1 hp;have h6:=(ZY.1 hl.1).1;refine Zd a (λr k=>∀(z:Int)(s:Bool),((Y3 r (b.drop k) z).1,s||(Y3 r (b.drop k) z).2)=(Q7 a b)->Fo (λr'=>r'=Fm (Q7 a b)) a b z s k) ?_ ?_ 0 false (by unfold Q7;rw[if_pos hp];simp)
 ·intro z s he;refine Pb _ _ _ _ _ _ ⟨λh=>by simp at h,λ_=>au ?_⟩;rw[<- he];simp[Y3]
 ·intro k x r hk aY hg ih z s he;obtain⟨y,q,hq⟩:=Y1 (l:=b) (k:=k) (by omega);refine Pb _ _ _ _ _ _ ⟨λ_=>?_,λh=>by simp[hp]at h;omega⟩;rw[Int.toNat_natCast,hg,Z2 hq,dv (by omega)];refine⟨⟨⟨by omega,aY⟩,by omega,by omega⟩,ih _ _ ?_⟩;rw[<- he,hq,Y3,ZW hq];simp[Bool.or_assoc]
theorem Fp:Qf Tryz.prog wT:=Qh λx _=>QSU x.1 x.2.1
def A5(t:(List Int)):aJ:=⟨(.r [TI] 0 0 t.length),[(.sl 3 [TI] (.dp 0 true []) t)],[],false,[]⟩
def Pc:aP:=Qg 233 [(.c (.sl [TI]))] λx=>(none,A5 (Yx x.1))
def Pd:aN:=⟨[p9,NO],true⟩
def QAX:af :=
 (ag [(.ae [az 13 .lss 12 11]),(.cond 13 .skip (.exit 0)),(.block 1 (ag [(.ae [bn 14 10 12 [TI],ar 15 14 1,ab 5 15]),(.ae [ab 16 3,ab 17 5,aL 18 259 [17],aD 19 (.bO 3 [TI] [18]),aD 20 (.app 16 19 3 [TI]),ab 3 20])])),(.ae [az 21 .add 12 (aw 1),ab 12 21])])
def QE8:List (Nat × Md):=[(3,.one .f),(10,.one .d),(11,.one .d),(12,.one .d)]
def Qyh:af :=
 (ag [(.ae [ab 22 3,ab 2 22]),.ret])
def QLP:af :=
 (ag [(.ae [ab 2 (.k (.n [TI]))]),(ag [(.ae [ab 6 0,aL 7 187 [6],bL 8 7]),(.cond 8 (ag [(.ae [ab 2 (.k (.n [TI]))]),.ret]) .skip)]),(.ae [aD 9 (.bO 3 [TI] []),ab 3 9]),(ag [(.ae [ab 10 0,bh 11 10,ab 12 (aw 0)]),(.block 0 (.loop QE8 QAX))]),Qyh])
def QJb:List (bw × Md):=[(.t 2,.one (.p 3))]
def Qzh:Qb:=TQ 0 0 QJb K
def QLT:Qb:=ba (aU Pd 0 Qyh (Qzh K)) (Qzh K)
def QXj:Qb:=bf 0 (QLT K)
def Fq(a:List Int)(x:Int)(v:List Int):Prop:=Loop Pd 0 QE8 QAX (QXj K) ⟨[(3,(.r [TI] 0 0 v.length)),(10,(bu [TI] a)),(11,(aO (a.length:Int))),(12,(aO x))],[(0,(.sl 3 [TI] (.dp 0 true []) v))],1⟩
theorem Qxm(a:List Int)(x:Int)(v:List Int) (h :
 (aS (decide (x<(a.length:Int))) ((0<=x/\Int.toNat x<a.length)/\(((v.length=v.length\/v.length+1<=v.length)/\v.length+1<=bP)/\(Fq K a (aI (x+1)) (List.take (v.length+1) ((List.take v.length v)++([(nj (aq (0:Int) a (Int.toNat x)))])))))) (K (A5 (List.take v.length v))))):Fq K a x v :=
 Loop.of h
theorem QNO(a:List Int):aR Tryz.prog 233 [(.c (.sl [TI]) a)] (A5 (Yx a)):=by
 refine bD Pd QLP QJb 0 0 23 Pc (kc uv (kc QNi kn)) (λK =>
 (aS (!(QH a)) (K (A5 ([]:List Int))) (Fq K a 0 ([]:List Int)))) (λhb=>?_)
 refine⟨λh=>au (by unfold Yx;rw[if_neg (by simpa using h)]),λh=>?_⟩;have hp:QH a=true:=by simpa using h
 have h6:=(ZY.1 hp).1;refine Zd a (λr k=>∀(v:List Int),v.length=k->v++r.map nj=(Yx a)->Fq (λr'=>r'=A5 (Yx a)) a k v) ?_ ?_ [] rfl (by unfold Yx;rw[if_pos hp];simp)
 ·intro v hv he;refine Qxm _ _ _ _ ⟨λh=>by simp at h,λ_=>au ?_⟩;rw[<- he];simp
 ·intro k x r hk aY hg ih v hv he;refine Qxm _ _ _ _ ⟨λ_=>?_,λh=>by simp at h;omega⟩;rw[Int.toNat_natCast,hg,dv (by omega),Zc];refine⟨⟨by omega,aY⟩,room (by omega),ih _ (Yz hv) ?_⟩;rw[<- he];simp
theorem QSu:Qf Tryz.prog Pc:=Qh λx _=>QNO x.1
def Fs(t:(List Int)):aJ:=f0 (bu [TI] t)
def Pe:aP:=Qg 226 [(.c (.sl [TI]))] λx=>(none,Fs (Yx x.1))
def Pf:aN:=⟨[Y6,NQ],false⟩
def QDg:af :=
 (ag [(ag [(.ae [ab 6 4,ab 7 0,bh 8 7,az 9 .lss 6 8,ab 10 9,.bj 10 true [ab 11 0,aL 12 97 [11]] 13 12]),(.cond 13 .skip (.exit 0))]),(.block 1 (.ae [ab 16 3,ab 17 0,ab 18 4,bn 19 17 18 [TI],ar 20 19 1,aL 21 256 [20],aD 22 (.bO 3 [TI] [21]),aD 23 (.app 16 22 3 [TI]),ab 3 23])),(.ae [ab 14 4,az 15 .add 14 (aw 1),ab 4 15])])
def QEl:List (Nat × Md):=[(0,.one .d),(3,.one .f),(4,.one .d)]
def QBm:af :=
 (ag [(.ae [ab 24 3,ab 2 24]),.ret])
def QMI:af :=
 (ag [(.ae [ab 2 (.k (.n [TI]))]),(.ae [aD 5 (.bO 3 [TI] []),ab 3 5]),(ag [(.ae [ab 4 (aw 0)]),(.block 0 (.loop QEl QDg))]),QBm])
def Qzw:List (bw × Md):=[(.t 2,.one .d)]
def QBc:Qb:=TQ 0 0 Qzw K
def Q1z:Qb:=ba (aU Pf 0 QBm (QBc K)) (QBc K)
def QVt:Qb:=bf 0 (Q1z K)
def Ft(a:List Int)(i:Int)(out:List Int):Prop:=Loop Pf 0 QEl QDg (QVt K) ⟨[(0,(bu [TI] a)),(3,(.r [TI] 0 0 out.length)),(4,(aO i))],[(0,(.sl 3 [TI] .ow out))],1⟩
theorem Pg(a:List Int)(i:Int)(out:List Int) (h :
 (aS ((decide (i<(a.length:Int)))&&(QH a)) (((0<=i/\Int.toNat i<a.length)/\((out.length=out.length\/out.length+1<=out.length)/\out.length+1<=bP))/\(Ft K a (aI (i+1)) (List.take (out.length+1) ((List.take out.length out)++([(nj (aq (0:Int) a (Int.toNat i)))]))))) (K (Fs (List.take out.length (List.drop 0 out)))))):Ft K a i out :=
 Loop.of h
theorem QZO(a:List Int):aR Tryz.prog 226 [(.c (.sl [TI]) a)] (Fs (Yx a)):=by
 refine bD Pf QMI Qzw 0 0 25 Pe (kc Ji (kc QPg kn)) (λK =>
 (Ft K a 0 ([]:List Int))) (λhb=>?_)
 by_cases hp:QH a=true;rotate_left
 ·refine Pg _ _ _ _ ⟨λh=>by simp[hp]at h,λ_=>au (by unfold Yx;rw[if_neg hp];rfl)⟩
 have h6:=(ZY.1 hp).1;refine Zd a (λr k=>∀(v:List Int),v.length=k->v++r.map nj=(Yx a)->Ft (λr'=>r'=Fs (Yx a)) a k v) ?_ ?_ [] rfl (by unfold Yx;rw[if_pos hp];simp)
 ·intro v hv he;refine Pg _ _ _ _ ⟨λh=>by simp at h,λ_=>au ?_⟩;rw[<- he];simp
 ·intro k x r hk aY hg ih v hv he;refine Pg _ _ _ _ ⟨λ_=>?_,λh=>by simp[hp]at h;omega⟩;rw[Int.toNat_natCast,hg,dv (by omega),Zc];refine⟨⟨⟨by omega,aY⟩,room (by omega)⟩,ih _ (Yz hv) ?_⟩;rw[<- he];simp
theorem QW0:Qf Tryz.prog Pe:=Qh λx _=>QZO x.1
def A6(t:(List Int)):aJ:=⟨(.r [TI] 0 0 t.length),[(.sl 3 [TI] (.dp 0 true []) t)],[],false,[]⟩
def Ph:aP:=Qg 246 [(.c (.sl [TI])),(.c (.sl [TI]))] λx=>(none,A6 (Yw x.1 x.2.1))
def Pj:aN:=⟨[wR],true⟩
def QH2:af :=
 (ag [(.ae [az 15 .lss 14 13]),(.cond 15 .skip (.exit 0)),(.block 1 (ag [(.ae [ab 16 14,ab 6 16]),(.ae [ab 17 0,ab 18 6,bn 19 17 18 [TI],ar 20 19 1,az 21 .gtr 20 (aw 0)]),(.cond 21 (.ae [ab 22 5,ab 23 1,ab 24 6,bn 25 23 24 [TI],ar 26 25 1,aD 27 (.bO 3 [TI] [26]),aD 28 (.app 22 27 3 [TI]),ab 5 28]) (.ae [ab 29 5,aD 30 (.bO 3 [TI] [(aw 0)]),aD 31 (.app 29 30 3 [TI]),ab 5 31]))])),(.ae [az 32 .add 14 (aw 1),ab 14 32])])
def QEA:List (Nat × Md):=[(0,.one .d),(1,.one .d),(5,.one .f),(13,.one .d),(14,.one .d)]
def Qw8:af :=
 (ag [(.ae [ab 33 5,ab 4 33]),.ret])
def QRL:af :=
 (ag [(.ae [ab 4 (.k (.n [TI]))]),(ag [(.ae [ab 7 0,ab 8 1,aL 9 195 [7,8],bL 10 9]),(.cond 10 (ag [(.ae [ab 4 (.k (.n [TI]))]),.ret]) .skip)]),(.ae [aD 11 (.bO 3 [TI] []),ab 5 11]),(ag [(.ae [ab 12 0,bh 13 12,ab 14 (aw 0)]),(.block 0 (.loop QEA QH2))]),Qw8])
def QGY:List (bw × Md):=[(.t 4,.one (.p 3))]
def Qvp:Qb:=TQ 0 0 QGY K
def QVn:Qb:=ba (aU Pj 0 Qw8 (Qvp K)) (Qvp K)
def QVO:Qb:=bf 0 (QVn K)
def A7(x:List Int)(d:List Int)(x1:Int)(v:List Int):Prop:=Loop Pj 0 QEA QH2 (QVO K) ⟨[(0,(bu [TI] x)),(1,(bu [TI] d)),(5,(.r [TI] 0 0 v.length)),(13,(aO (x.length:Int))),(14,(aO x1))],[(0,(.sl 3 [TI] (.dp 0 true []) v))],1⟩
theorem QF4(x:List Int)(d:List Int)(x1:Int)(v:List Int) (h :
 (aS (decide (x1<(x.length:Int))) ((0<=x1/\Int.toNat x1<x.length)/\(aS (decide ((aq (0:Int) x (Int.toNat x1))>0)) (((0<=x1/\Int.toNat x1<d.length)/\((v.length=v.length\/v.length+1<=v.length)/\v.length+1<=bP))/\(A7 K x d (aI (x1+1)) (List.take (v.length+1) ((List.take v.length v)++([(aq (0:Int) d (Int.toNat x1))]))))) (((v.length=v.length\/v.length+1<=v.length)/\v.length+1<=bP)/\(A7 K x d (aI (x1+1)) (List.take (v.length+1) ((List.take v.length v)++([(0:Int)]))))))) (K (A6 (List.take v.length v))))):A7 K x d x1 v :=
 Loop.of h
theorem QJh(x:List Int)(d:List Int):aR Tryz.prog 246 [(.c (.sl [TI]) x),(.c (.sl [TI]) d)] (A6 (Yw x d)):=by
 refine bD Pj QRL QGY 0 0 34 Ph (kc E3 kn) (λK =>
 (aS (!(ZG x d)) (K (A6 ([]:List Int))) (A7 K x d 0 ([]:List Int)))) (λhb=>?_)
 refine⟨λh=>au (by unfold Yw;rw[if_neg (by simpa using h)]),λh=>?_⟩;have hp:ZG x d=true:=by simpa using h
 have hl:=JV.1 hp;have h6:=(ZY.1 hl.1).1;refine Zd x (λr k=>∀(v:List Int),v.length=k->v++List.zipWith (λa b=>if 0<a then b else 0) r (d.drop k)=(Yw x d)->A7 (λr'=>r'=A6 (Yw x d)) x d k v) ?_ ?_ [] rfl (by unfold Yw;rw[if_pos hp];simp)
 ·intro v hv he;refine QF4 _ _ _ _ _ ⟨λh=>by simp at h,λ_=>au ?_⟩;rw[<- he];simp
 ·intro k y r hk aY hg ih v hv he;obtain⟨z,q,hq⟩:=Y1 (l:=d) (k:=k) (by omega);refine QF4 _ _ _ _ _ ⟨λ_=>?_,λh=>by simp at h;omega⟩;rw[Int.toNat_natCast,hg,Z2 hq,dv (by omega),Zc,Zc];rw[hq,List.zipWith_cons_cons,<- ZW hq]at he;refine⟨⟨by omega,aY⟩,λh=>⟨⟨⟨by omega,by omega⟩,room (by omega)⟩,ih _ (Yz hv) ?_⟩,λh=>⟨room (by omega),ih _ (Yz hv) ?_⟩⟩
  ·rw[<- he,if_pos (by simpa using h)];simp
  ·rw[<- he,if_neg (by simpa using h)];simp
theorem Q0h:Qf Tryz.prog Ph:=Qh λx _=>QJh x.1 x.2.1
def Fu(t:(List Int)):aJ:=f0 (bu [TI] t)
def Pk:aP:=Qg 241 [(.c (.sl [TI])),(.c (.sl [TI]))] λx=>(none,Fu (Yw x.1 x.2.1))
def Pl:aN:=⟨[wS],false⟩
def QwF:af :=
 (ag [(ag [(.ae [ab 8 6,ab 9 0,bh 10 9,az 11 .lss 8 10,ab 12 11,.bj 12 true [ab 13 0,ab 14 1,aL 15 191 [13,14]] 16 15]),(.cond 16 .skip (.exit 0))]),(.block 1 (ag [(.ae [ab 19 0,ab 20 6,bn 21 19 20 [TI],ar 22 21 1,az 23 .gtr 22 (aw 0)]),(.cond 23 (.ae [ab 24 5,ab 25 1,ab 26 6,bn 27 25 26 [TI],ar 28 27 1,aD 29 (.bO 3 [TI] [28]),aD 30 (.app 24 29 3 [TI]),ab 5 30]) (.ae [ab 31 5,aD 32 (.bO 3 [TI] [(aw 0)]),aD 33 (.app 31 32 3 [TI]),ab 5 33]))])),(.ae [ab 17 6,az 18 .add 17 (aw 1),ab 6 18])])
def QAu:List (Nat × Md):=[(0,.one .d),(1,.one .d),(5,.one .f),(6,.one .d)]
def QwK:af :=
 (ag [(.ae [ab 34 5,ab 4 34]),.ret])
def QXS:af :=
 (ag [(.ae [ab 4 (.k (.n [TI]))]),(.ae [aD 7 (.bO 3 [TI] []),ab 5 7]),(ag [(.ae [ab 6 (aw 0)]),(.block 0 (.loop QAu QwF))]),QwK])
def Qvi:List (bw × Md):=[(.t 4,.one .d)]
def QFK:Qb:=TQ 0 0 Qvi K
def QVV:Qb:=ba (aU Pl 0 QwK (QFK K)) (QFK K)
def QOH:Qb:=bf 0 (QVV K)
def A8(x:List Int)(d:List Int)(i:Int)(out:List Int):Prop:=Loop Pl 0 QAu QwF (QOH K) ⟨[(0,(bu [TI] x)),(1,(bu [TI] d)),(5,(.r [TI] 0 0 out.length)),(6,(aO i))],[(0,(.sl 3 [TI] .ow out))],1⟩
theorem Pm(x:List Int)(d:List Int)(i:Int)(out:List Int) (h :
 (aS ((decide (i<(x.length:Int)))&&(ZG x d)) ((0<=i/\Int.toNat i<x.length)/\(aS (decide ((aq (0:Int) x (Int.toNat i))>0)) (((0<=i/\Int.toNat i<d.length)/\((out.length=out.length\/out.length+1<=out.length)/\out.length+1<=bP))/\(A8 K x d (aI (i+1)) (List.take (out.length+1) ((List.take out.length out)++([(aq (0:Int) d (Int.toNat i))]))))) (((out.length=out.length\/out.length+1<=out.length)/\out.length+1<=bP)/\(A8 K x d (aI (i+1)) (List.take (out.length+1) ((List.take out.length out)++([(0:Int)]))))))) (K (Fu (List.take out.length (List.drop 0 out)))))):A8 K x d i out :=
 Loop.of h
theorem QL4(x:List Int)(d:List Int):aR Tryz.prog 241 [(.c (.sl [TI]) x),(.c (.sl [TI]) d)] (Fu (Yw x d)):=by
 refine bD Pl QXS Qvi 0 0 35 Pk (kc E4 kn) (λK =>
 (A8 K x d 0 ([]:List Int))) (λhb=>?_)
 by_cases hp:ZG x d=true;rotate_left
 ·refine Pm _ _ _ _ _ ⟨λh=>by simp[hp]at h,λ_=>au (by unfold Yw;rw[if_neg hp];rfl)⟩
 have hl:=JV.1 hp;have h6:=(ZY.1 hl.1).1;refine Zd x (λr k=>∀(v:List Int),v.length=k->v++List.zipWith (λa b=>if 0<a then b else 0) r (d.drop k)=(Yw x d)->A8 (λr'=>r'=Fu (Yw x d)) x d k v) ?_ ?_ [] rfl (by unfold Yw;rw[if_pos hp];simp)
 ·intro v hv he;refine Pm _ _ _ _ _ ⟨λh=>by simp at h,λ_=>au ?_⟩;rw[<- he];simp
 ·intro k y r hk aY hg ih v hv he;obtain⟨z,q,hq⟩:=Y1 (l:=d) (k:=k) (by omega);refine Pm _ _ _ _ _ ⟨λ_=>?_,λh=>by simp[hp]at h;omega⟩;rw[Int.toNat_natCast,hg,Z2 hq,dv (by omega),Zc,Zc];rw[hq,List.zipWith_cons_cons,<- ZW hq]at he;refine⟨⟨by omega,aY⟩,λh=>⟨⟨⟨by omega,by omega⟩,room (by omega)⟩,ih _ (Yz hv) ?_⟩,λh=>⟨room (by omega),ih _ (Yz hv) ?_⟩⟩
  ·rw[<- he,if_pos (by simpa using h)];simp
  ·rw[<- he,if_neg (by simpa using h)];simp
theorem QPp:Qf Tryz.prog Pk:=Qh λx _=>QL4 x.1 x.2.1
def Fv(t:Bool):aJ:=cd (bH t)
def A9:aP:=Qg 258 [(.a [TI,TI,(.sl [TI])])] λx=>(none,Fv (Zw x.1))
def QNS:aN:=⟨[Ae],false⟩
def QOc:af :=
 (ag [(.ae [aD 1 (.box 235 0 3),ab 2 (bm false)]),(ag [(.ae [an 3 1 0,ar 4 3 1,az 5 .lss 4 (aw 1),ab 6 5,.bj 6 false [an 7 1 0,ar 8 7 1,az 9 .gtr 8 (aw 6)] 10 9,ab 11 10,.bj 11 false [an 12 1 1,ar 13 12 1,az 14 .lss 13 (aw 1)] 15 14,ab 16 15,.bj 16 false [an 17 1 1,ar 18 17 1,az 19 .gtr 18 (aw 6)] 20 19]),(.cond 20 (ag [(.ae [ab 2 (bm false)]),.ret]) .skip)]),(.ae [an 21 1 2,ar 22 21 1,bh 23 22,an 24 1 0,ar 25 24 1,an 26 1 1,ar 27 26 1,az 28 .mul 25 27,az 29 .eql 23 28,ab 30 29,.bj 30 true [an 31 1 2,ar 32 31 1,aL 33 238 [32]] 34 33,ab 2 34]),.ret])
def Q3r:List (bw × Md):=[(.t 2,.one .d)]
theorem QMG(m:cm):aR Tryz.prog 258 [(.a [(.c TI m.1),(.c TI m.2.1),(.c (.sl [TI]) m.2.2)])] (Fv (Zw m)):=by
 refine bD QNS QOc Q3r 0 0 35 A9 (kc MD kn) (λK =>
 (aS ((((decide (m.1<1))||(decide (m.1>6)))||(decide (m.2.1<1)))||(decide (m.2.1>6))) (K (Fv false)) (K (Fv ((((m.2.2).length:Int)==(aI (m.1*m.2.1)))&&(ZT m.2.2)))))) (λhb=>?_)
 refine⟨λh=>au ?_,λh=>au ?_⟩
 ·have:(aT m.1 1 6&&aT m.2.1 1 6)=false:=by simp[aT];simp at h;omega
  unfold Zw;rw[this];rfl
 ·have h':(1<=m.1/\m.1<=6)/\1<=m.2.1/\m.2.1<=6:=by simp at h;omega
  have hm:=tR h'.1.1 h'.1.2 h'.2.1 h'.2.2;rw[Qy (x:=m.1*m.2.1) (by omega) (by omega)];unfold Zw;rw[QW.2 h'.1,QW.2 h'.2];simp
theorem Pn:Qf Tryz.prog A9:=Qh λx _=>QMG x.1
def rK(t:Bool):aJ:=cd (bH t)
def Fw:aP:=Qg 254 [(.a [TI,TI,(.sl [TI])])] λx=>(none,rK (Zw x.1))
def Po:aN:=⟨[YF,wj],false⟩
def QAj:af :=
 (ag [(ag [(.ae [ab 25 3,an 26 1 2,ar 27 26 1,bh 28 27,az 29 .lss 25 28]),(.cond 29 .skip (.exit 0))]),(.block 1 (ag [(.ae [an 32 1 2,ar 33 32 1,ab 34 3,bn 35 33 34 [TI],ar 36 35 1,aL 37 183 [36],bL 38 37]),(.cond 38 (ag [(.ae [ab 2 (bm false)]),.ret]) .skip)])),(.ae [ab 30 3,az 31 .add 30 (aw 1),ab 3 31])])
def QGw:List (Nat × Md):=[(1,.b [.d,.d,.d]),(3,.one .d)]
def QHM:af :=
 (ag [(.ae [ab 2 (bm true)]),.ret])
def QTl:af :=
 (ag [(.ae [aD 1 (.box 235 0 3),ab 2 (bm false)]),(ag [(.ae [an 4 1 0,ar 5 4 1,aL 6 158 [5,(aw 1),(aw 6)],bL 7 6,ab 8 7,.bj 8 false [an 9 1 1,ar 10 9 1,aL 11 158 [10,(aw 1),(aw 6)],bL 12 11] 13 12,ab 14 13,.bj 14 false [an 15 1 2,ar 16 15 1,bh 17 16,an 18 1 0,ar 19 18 1,an 20 1 1,ar 21 20 1,az 22 .mul 19 21,az 23 .neq 17 22] 24 23]),(.cond 24 (ag [(.ae [ab 2 (bm false)]),.ret]) .skip)]),(ag [(.ae [ab 3 (aw 0)]),(.block 0 (.loop QGw QAj))]),QHM])
def QH6:List (bw × Md):=[(.t 2,.one .d)]
def QAL:Qb:=TQ 0 0 QH6 K
def QRO:Qb:=ba (aU Po 0 QHM (QAL K)) (QAL K)
def Q0s:Qb:=bf 0 (QRO K)
def Pp(m:cm)(i:Int):Prop:=Loop Po 0 QGw QAj (Q0s K) ⟨[(1,(.p 0 0 0)),(3,(aO i))],[(0,(.box [(aO m.1),(aO m.2.1),(bu [TI] m.2.2)]))],1⟩
theorem QKX(m:cm)(i:Int) (h :
 (aS (decide (i<((m.2.2).length:Int))) ((0<=i/\Int.toNat i<(m.2.2).length)/\(aS (!(Zj (aq (0:Int) m.2.2 (Int.toNat i)))) (K (rK false)) (Pp K m (aI (i+1))))) (K (rK true)))):Pp K m i :=
 Loop.of h
theorem QXw(m:cm):aR Tryz.prog 254 [(.a [(.c TI m.1),(.c TI m.2.1),(.c (.sl [TI]) m.2.2)])] (rK (Zw m)):=by
 refine bD Po QTl QH6 0 0 39 Fw (kc YV (kc DH kn)) (λK =>
 (aS (((!(aT m.1 (1:Int) (6:Int)))||(!(aT m.2.1 (1:Int) (6:Int))))||(((m.2.2).length:Int) != (aI (m.1*m.2.1)))) (K (rK false)) (Pp K m 0))) (λhb=>?_)
 have uN:(m.2.2).length<=9223372036854775807:=hb.1.2.2.1.1;refine⟨λh=>au ?_,λh=>?_⟩
 ·have:Zw m=false:=by
   cases hm:Zw m with
   | false=>rfl
   | true =>
    obtain⟨h1,h2,h3,h4,h5,h6,h7⟩:=ua hm;rw[QW.2 ⟨h1,h2⟩,QW.2 ⟨h3,h4⟩,Qy (x:=m.1*m.2.1) (by have:=tR h1 h2 h3 h4;omega) (by omega),<- h5]at h;simp at h
  exact this.symm
 ·have h':aT m.1 1 6=true/\aT m.2.1 1 6=true:=by simp at h;exact h.1
  have h1:=QW.1 h'.1;have h2:=QW.1 h'.2;have hm:=tR h1.1 h1.2 h2.1 h2.2;rw[Qy (x:=m.1*m.2.1) (by omega) (by omega)]at h;exact ox (Q:=λx=>rK x=rK (Zw m)) (p:=Zj) (c:=λx=>!(Zj x)) 0 uN (λ_=>rfl) (λi h=>QKX (λr'=>r'=rK (Zw m)) m i h) (au (by
   unfold Zw ZT;have h3:((m.2.2.length:Int)==m.1*m.2.1)=true:=by simp[h']at h;simp[h]
   rw[h'.1,h'.2,h3];simp))
theorem QBb:Qf Tryz.prog Fw:=Qh λx _=>QXw x.1
def Pq(t:(List Int)):aJ:=f0 (bu [TI] t)
def Pr:aP:=Qg 255 [(.a [TI,TI,(.sl [TI])]),(.c TI)] λx=>(some (Lv x.1 x.2.1),Pq (Y2 x.1 x.2.1))
def QU1:aN:=⟨[],false⟩
def QRd:af :=
 (ag [(.ae [aD 2 (.box 235 0 3),ab 4 (.k (.n [TI]))]),(.ae [an 5 2 2,ar 6 5 1,ab 7 1,an 8 2 1,ar 9 8 1,az 10 .mul 7 9,ab 11 1,az 12 .add 11 (aw 1),an 13 2 1,ar 14 13 1,az 15 .mul 12 14,aD 16 (.fO 6 (some 10) (some 15) [TI]),ab 4 16]),.ret])
def Q3Y:List (bw × Md):=[(.t 4,.one .d)]
theorem Q1l(m:cm)(i:Int)(hp:Lv m i):aR Tryz.prog 255 [(.a [(.c TI m.1),(.c TI m.2.1),(.c (.sl [TI]) m.2.2)]),(.c TI i)] (Pq (Y2 m i)):=by
 refine bD QU1 QRd Q3Y 0 0 17 Pr kn (λK =>
 ((0<=aI (i*m.2.1)/\aI (i*m.2.1)<=aI ((aI (i+1))*m.2.1)/\aI ((aI (i+1))*m.2.1)<=((m.2.2).length:Int))/\K (Pq (List.take (Int.toNat (aI ((aI (i+1))*m.2.1))-Int.toNat (aI (i*m.2.1))) (List.drop (Int.toNat (aI (i*m.2.1))) m.2.2))))) (λhb=>?_)
 obtain⟨h1,h2,h3,h4,h5,h6⟩:=hp;have hd:=idx h3 h4 h1;have h36:m.1*m.2.1<=36:=by
  have:=Int.mul_le_mul h5 h2 h1 (by omega:(0:Int)<=6);omega
 rw[Qy (x:=i+1) (by omega) (by omega),Qy (x:=i*m.2.1) (by omega) (by omega),Qy (x:=(i+1)*m.2.1) (by omega) (by omega)];exact⟨⟨by omega,by omega,by omega⟩,au rfl⟩
theorem QU5:Qf Tryz.prog Pr:=Qh λx h=>Q1l x.1 x.2.1 h
def Fx(t:(List Int)):aJ:=f0 (bu [TI] t)
def Ps:aP:=Qg 264 [(.a [TI,TI,(.sl [TI])]),(.c TI)] λx=>(some (Lw x.1 x.2.1),Fx (Yb x.1 x.2.1))
def Pt:aN:=⟨[],false⟩
def QvK:af :=
 (ag [(ag [(.ae [ab 8 6,an 9 2 0,ar 10 9 1,az 11 .lss 8 10]),(.cond 11 .skip (.exit 0))]),(.block 1 (.ae [ab 14 5,an 15 2 2,ar 16 15 1,ab 17 6,an 18 2 1,ar 19 18 1,az 20 .mul 17 19,ab 21 1,az 22 .add 20 21,bn 23 16 22 [TI],ar 24 23 1,aD 25 (.bO 3 [TI] [24]),aD 26 (.app 14 25 3 [TI]),ab 5 26])),(.ae [ab 12 6,az 13 .add 12 (aw 1),ab 6 13])])
def Qwn:List (Nat × Md):=[(1,.one .d),(2,.b [.d,.d,.d]),(5,.one .f),(6,.one .d)]
def QxJ:af :=
 (ag [(.ae [ab 27 5,ab 4 27]),.ret])
def QZP:af :=
 (ag [(.ae [aD 2 (.box 235 0 3),ab 4 (.k (.n [TI]))]),(.ae [aD 7 (.bO 3 [TI] []),ab 5 7]),(ag [(.ae [ab 6 (aw 0)]),(.block 0 (.loop Qwn QvK))]),QxJ])
def QED:List (bw × Md):=[(.t 4,.one .d)]
def QuS:Qb:=TQ 0 0 QED K
def QYy:Qb:=ba (aU Pt 0 QxJ (QuS K)) (QuS K)
def QS1:Qb:=bf 0 (QYy K)
def Fy(m:cm)(k:Int)(i:Int)(out:List Int):Prop:=Loop Pt 0 Qwn QvK (QS1 K) ⟨[(1,(aO k)),(2,(.p 0 0 0)),(5,(.r [TI] 1 0 out.length)),(6,(aO i))],[(0,(.box [(aO m.1),(aO m.2.1),(bu [TI] m.2.2)])),(1,(.sl 3 [TI] .ow out))],2⟩
theorem QDC(m:cm)(k:Int)(i:Int)(out:List Int) (h :
 (aS (decide (i<m.1)) (((0<=aI ((aI (i*m.2.1))+k)/\Int.toNat (aI ((aI (i*m.2.1))+k))<(m.2.2).length)/\((out.length=out.length\/out.length+1<=out.length)/\out.length+1<=bP))/\(Fy K m k (aI (i+1)) (List.take (out.length+1) ((List.take out.length out)++([(aq (0:Int) m.2.2 (Int.toNat (aI ((aI (i*m.2.1))+k))))]))))) (K (Fx (List.take out.length (List.drop 0 out)))))):Fy K m k i out :=
 Loop.of h
theorem QXk(m:cm)(k:Int)(hp:Lw m k):aR Tryz.prog 264 [(.a [(.c TI m.1),(.c TI m.2.1),(.c (.sl [TI]) m.2.2)]),(.c TI k)] (Fx (Yb m k)):=by
 refine bD Pt QZP QED 0 0 28 Ps kn (λK =>
 (Fy K m k 0 ([]:List Int))) (λhb=>?_)
 obtain⟨h2,h3,h4,h5,h6,h7⟩:=hp;have h36:m.1*m.2.1<=36:=by
  have:=Int.mul_le_mul h6 h2 (by omega) (by omega:(0:Int)<=6);omega
 refine JN m.1.toNat (λj=>Fy (λr'=>r'=Fx (Yb m k)) m k (j:Int) ((List.range j).map λi:Nat=>aq 0 m.2.2 ((i:Int)*m.2.1+k).toNat)) ?_ ?_
 ·refine QDC _ _ _ _ _ ⟨λh=>by simp at h;omega,λ_=>au ?_⟩;unfold Yb;rw[List.drop_zero,List.take_length]
 ·intro j hj ih;have hd:=idx (r:=j) (R:=m.1) (C:=m.2.1) (by omega) (by omega) (by omega);refine QDC _ _ _ _ _ ⟨λ_=>?_,λh=>by simp at h;omega⟩;rw[Qy (x:=(j:Int)*m.2.1) (by omega) (by omega),Qy (x:=(j:Int)*m.2.1+k) (by omega) (by omega),dv (by omega),Zc];rw[zR]at ih;exact⟨⟨⟨by omega,by omega⟩,room (by simp;omega)⟩,ih⟩
theorem QJX:Qf Tryz.prog Ps:=Qh λx h=>QXk x.1 x.2.1 h
def Ba(t:(List Int) × Bool):aJ:=⟨(.tp [(.r [TI] 0 0 ((t.1).length)),(bH t.2)]),[(.sl 3 [TI] (.dp 0 true []) t.1)],[],false,[]⟩
def FA:aP:=Qg 229 [(.a [TI,TI,(.sl [TI])]),(.c (.sl [TI]))] λx=>(none,Ba (Zi x.1 x.2.1))
def Pu:aN:=⟨[A9,J1,A4],true⟩
def QHE:af :=
 (ag [(ag [(.ae [ab 22 8,an 23 2 0,ar 24 23 1,az 25 .lss 22 24]),(.cond 25 .skip (.exit 0))]),(.block 1 (ag [(.ae [an 29 2 2,ar 30 29 1,ab 31 8,an 32 2 1,ar 33 32 1,az 34 .mul 31 33,ab 35 8,az 36 .add 35 (aw 1),an 37 2 1,ar 38 37 1,az 39 .mul 36 38,aD 40 (.fO 30 (some 34) (some 39) [TI]),ab 41 1,aL 42 188 [40,41],ab 28 42,bF 43 28 0,bF 44 28 1,ab 9 43,ab 10 44]),(.ae [ab 45 6,ab 46 9,aD 47 (.bO 3 [TI] [46]),aD 48 (.app 45 47 3 [TI]),ab 6 48]),(.ae [ab 49 7,ab 50 49,.bj 50 false [ab 51 10] 52 51,ab 7 52])])),(.ae [ab 26 8,az 27 .add 26 (aw 1),ab 8 27])])
def QCY:List (Nat × Md):=[(1,.one .d),(2,.b [.d,.d,.d]),(6,.one .f),(7,.one .d),(8,.one .d)]
def Qw6:af :=
 (ag [(.ae [ab 53 6,ab 54 7,ab 4 53,ab 5 54]),.ret])
def Q4q:af :=
 (ag [(.ae [aD 2 (.box 235 0 3),ab 4 (.k (.n [TI])),ab 5 (bm false)]),(ag [(.ae [aZ 11 2 3,aL 12 258 [11],bL 13 12,ab 14 13,.bj 14 false [ab 15 1,an 16 2 1,ar 17 16 1,aL 18 100 [15,17],bL 19 18] 20 19]),(.cond 20 (ag [(.ae [ab 4 (.k (.n [TI])),ab 5 (bm false)]),.ret]) .skip)]),(.ae [aD 21 (.bO 3 [TI] []),ab 6 21]),(.ae [ab 7 (bm false)]),(ag [(.ae [ab 8 (aw 0)]),(.block 0 (.loop QCY QHE))]),Qw6])
def QCt:List (bw × Md):=[(.t 4,.one (.p 3)),(.t 5,.one .d)]
def QDw:Qb:=TQ 0 0 QCt K
def QYw:Qb:=ba (aU Pu 0 Qw6 (QDw K)) (QDw K)
def QYR:Qb:=bf 0 (QYw K)
def FB(m:cm)(x:List Int)(out:Bool)(r:Int)(v:List Int):Prop:=Loop Pu 0 QCY QHE (QYR K) ⟨[(1,(bu [TI] x)),(2,(.p 0 0 0)),(6,(.r [TI] 1 0 v.length)),(7,(bH out)),(8,(aO r))],[(0,(.box [(aO m.1),(aO m.2.1),(bu [TI] m.2.2)])),(1,(.sl 3 [TI] (.dp 0 true []) v))],2⟩
theorem QDf(m:cm)(x:List Int)(out:Bool)(r:Int)(v:List Int) (h :
 (aS (decide (r<m.1)) ((0<=aI (r*m.2.1)/\aI (r*m.2.1)<=aI ((aI (r+1))*m.2.1)/\aI ((aI (r+1))*m.2.1)<=((m.2.2).length:Int))/\(((v.length=v.length\/v.length+1<=v.length)/\v.length+1<=bP)/\(FB K m x (out||((Q7 (List.take (Int.toNat (aI ((aI (r+1))*m.2.1))-Int.toNat (aI (r*m.2.1))) (List.drop (Int.toNat (aI (r*m.2.1))) m.2.2)) x).2)) (aI (r+1)) (List.take (v.length+1) ((List.take v.length v)++([(Q7 (List.take (Int.toNat (aI ((aI (r+1))*m.2.1))-Int.toNat (aI (r*m.2.1))) (List.drop (Int.toNat (aI (r*m.2.1))) m.2.2)) x).1])))))) (K (Ba ((List.take v.length v),out))))):FB K m x out r v :=
 Loop.of h
theorem QUl(m:cm)(x:List Int):aR Tryz.prog 229 [(.a [(.c TI m.1),(.c TI m.2.1),(.c (.sl [TI]) m.2.2)]),(.c (.sl [TI]) x)] (Ba (Zi m x)):=by
 refine bD Pu Q4q QCt 0 0 55 FA (kc Pn (kc nr (kc O9 kn))) (λK =>
 (aS ((!(Zw m))||(!(Qr x m.2.1))) (K (Ba (([]:List Int),false))) (FB K m x false 0 ([]:List Int)))) (λhb=>?_)
 refine⟨λh=>au (by rw[Xz];intro h2;simp[h2.1,h2.2]at h),λh=>?_⟩;have hp:Zw m=true/\Qr x m.2.1=true:=by simpa using h
 obtain⟨h1,h2,h3,h4,h5,h6,h7⟩:=ua hp.1;have hv:(Zi m x)=((List.range m.1.toNat).map λi:Nat=>(Q7 (Y2 m i) x).1,(List.range m.1.toNat).any λi:Nat=>(Q7 (Y2 m i) x).2):=by unfold Zi;rw[if_pos (by simp[hp])]
 refine JN m.1.toNat (λj=>FB (λr'=>r'=Ba (Zi m x)) m x ((List.range j).any λi:Nat=>(Q7 (Y2 m i) x).2) (j:Int) ((List.range j).map λi:Nat=>(Q7 (Y2 m i) x).1)) ?_ ?_
 ·refine QDf _ _ _ _ _ _ ⟨λh=>by simp at h;omega,λ_=>au ?_⟩;rw[hv,List.take_length]
 ·intro j hj ih;have hd:=idx (r:=j) (R:=m.1) (C:=m.2.1) (by omega) (by omega) (by omega);refine QDf _ _ _ _ _ _ ⟨λ_=>?_,λh=>by simp at h;omega⟩;rw[Qy (x:=(j:Int)+1) (by omega) (by omega),Qy (x:=(j:Int)*m.2.1) (by omega) (by omega),Qy (x:=((j:Int)+1)*m.2.1) (by omega) (by omega),Zc];rw[zR,Ly]at ih;exact⟨⟨by omega,by omega,by omega⟩,room (by simp;omega),ih⟩
theorem QuP:Qf Tryz.prog FA:=Qh λx _=>QUl x.1 x.2.1
def Bb(t:(List Int) × Bool):aJ:=f0 (.tp [(bu [TI] t.1),(bH t.2)])
def Pv:aP:=Qg 223 [(.a [TI,TI,(.sl [TI])]),(.c (.sl [TI]))] λx=>(none,Bb (Zi x.1 x.2.1))
def Pw:aN:=⟨[Fw,Y6,Pr,wT],false⟩
def QFX:af :=
 (ag [(ag [(.ae [ab 28 8,an 29 2 0,ar 30 29 1,az 31 .lss 28 30]),(.cond 31 .skip (.exit 0))]),(.block 1 (ag [(.ae [aZ 35 2 3,ab 36 8,aL 37 255 [35,36],ab 38 1,aL 39 184 [37,38],ab 34 39,bF 40 34 0,bF 41 34 1,ab 9 40,ab 10 41]),(.ae [ab 42 6,ab 43 9,aD 44 (.bO 3 [TI] [43]),aD 45 (.app 42 44 3 [TI]),ab 6 45]),(.ae [ab 46 7,ab 47 46,.bj 47 false [ab 48 10] 49 48,ab 7 49])])),(.ae [ab 32 8,az 33 .add 32 (aw 1),ab 8 33])])
def QGs:List (Nat × Md):=[(1,.one .d),(2,.b [.d,.d,.d]),(6,.one .f),(7,.one .d),(8,.one .d)]
def QBt:af :=
 (ag [(.ae [ab 50 6,ab 51 7,ab 4 50,ab 5 51]),.ret])
def QW8:af :=
 (ag [(.ae [aD 2 (.box 235 0 3),ab 4 (.k (.n [TI])),ab 5 (bm false)]),(.ae [aD 11 (.bO 3 [TI] []),ab 6 11]),(.ae [ab 7 (bm false)]),(ag [(.ae [aZ 12 2 3,aL 13 254 [12],bL 14 13,ab 15 14,.bj 15 false [ab 16 1,aL 17 97 [16],bL 18 17] 19 18,ab 20 19,.bj 20 false [ab 21 1,bh 22 21,an 23 2 1,ar 24 23 1,az 25 .neq 22 24] 26 25]),(.cond 26 (ag [(.ae [ab 27 6,ab 4 27,ab 5 (bm false)]),.ret]) .skip)]),(ag [(.ae [ab 8 (aw 0)]),(.block 0 (.loop QGs QFX))]),QBt])
def QF6:List (bw × Md):=[(.t 4,.one .d),(.t 5,.one .d)]
def Qwr:Qb:=TQ 0 0 QF6 K
def QKj:Qb:=ba (aU Pw 0 QBt (Qwr K)) (Qwr K)
def QYX:Qb:=bf 0 (QKj K)
def FC(m:cm)(x:List Int)(sat:Bool)(i:Int)(out:List Int):Prop:=Loop Pw 0 QGs QFX (QYX K) ⟨[(1,(bu [TI] x)),(2,(.p 0 0 0)),(6,(.r [TI] 1 0 out.length)),(7,(bH sat)),(8,(aO i))],[(0,(.box [(aO m.1),(aO m.2.1),(bu [TI] m.2.2)])),(1,(.sl 3 [TI] .ow out))],2⟩
theorem QzU(m:cm)(x:List Int)(sat:Bool)(i:Int)(out:List Int) (h :
 (aS (decide (i<m.1)) ((Lv m i)/\(((out.length=out.length\/out.length+1<=out.length)/\out.length+1<=bP)/\(FC K m x (sat||((Q7 (Y2 m i) x).2)) (aI (i+1)) (List.take (out.length+1) ((List.take out.length out)++([(Q7 (Y2 m i) x).1])))))) (K (Bb ((List.take out.length (List.drop 0 out)),sat))))):FC K m x sat i out :=
 Loop.of h
theorem QQ2(m:cm)(x:List Int):aR Tryz.prog 223 [(.a [(.c TI m.1),(.c TI m.2.1),(.c (.sl [TI]) m.2.2)]),(.c (.sl [TI]) x)] (Bb (Zi m x)):=by
 refine bD Pw QW8 QF6 0 0 52 Pv (kc QBb (kc Ji (kc QU5 (kc Fp kn)))) (λK =>
 (aS (((!(Zw m))||(!(QH x)))||((x.length:Int) != m.2.1)) (K (Bb (([]:List Int),false))) (FC K m x false 0 ([]:List Int)))) (λhb=>?_)
 have hg:∀ n:Int,(!(QH x)||((x.length:Int) != n)) = !(Qr x n):=λn=>by unfold Qr;simp[bne]
 rw[Bool.or_assoc,hg];refine⟨λh=>au (by rw[Xz];intro h2;simp[h2.1,h2.2]at h),λh=>?_⟩;have hp:Zw m=true/\Qr x m.2.1=true:=by simpa using h
 obtain⟨h1,h2,h3,h4,h5,h6,h7⟩:=ua hp.1;have hv:(Zi m x)=((List.range m.1.toNat).map λi:Nat=>(Q7 (Y2 m i) x).1,(List.range m.1.toNat).any λi:Nat=>(Q7 (Y2 m i) x).2):=by unfold Zi;rw[if_pos (by simp[hp])]
 refine JN m.1.toNat (λj=>FC (λr'=>r'=Bb (Zi m x)) m x ((List.range j).any λi:Nat=>(Q7 (Y2 m i) x).2) (j:Int) ((List.range j).map λi:Nat=>(Q7 (Y2 m i) x).1)) ?_ ?_
 ·refine QzU _ _ _ _ _ _ ⟨λh=>by simp at h;omega,λ_=>au ?_⟩;rw[hv,List.drop_zero,List.take_length]
 ·intro j hj ih;have hd:=idx (r:=j) (R:=m.1) (C:=m.2.1) (by omega) (by omega) (by omega);refine QzU _ _ _ _ _ _ ⟨λ_=>?_,λh=>by simp at h;omega⟩;rw[dv (by omega),Zc];rw[zR,Ly]at ih;exact⟨⟨by omega,by omega,by omega,by omega,by omega,h5⟩,room (by simp;omega),ih⟩
theorem Q0w:Qf Tryz.prog Pv:=Qh λx _=>QQ2 x.1 x.2.1
def wU(t:cm):aJ:=f0 (.a [(aO t.1),(aO t.2.1),(bu [TI] t.2.2)])
def Px:aP:=Qg 265 [(.a [TI,TI,(.sl [TI])])] λx=>(none,wU (Y7 x.1))
def wV:aN:=⟨[A9],false⟩
def QBk:af :=
 (ag [(ag [(.ae [ab 21 5,an 22 1 0,ar 23 22 1,az 24 .lss 21 23]),(.cond 24 .skip (.exit 2))]),(.block 3 (.draw [an 27 3 2,ar 28 27 1,an 29 1 2,ar 30 29 1,ab 31 5,an 32 1 1,ar 33 32 1,az 34 .mul 31 33,ab 35 4,az 36 .add 34 35,bn 37 30 36 [TI],ar 38 37 1,aD 39 (.bO 3 [TI] [38]),aD 40 (.app 28 39 3 [TI]),an 41 3 2,a8 41 40 1] [(0,12),(1,12)])),(.ae [ab 25 5,az 26 .add 25 (aw 1),ab 5 26])])
def QFr:List (Nat × Md):=[(1,.b [.d,.d,.d]),(2,.b [.d,.d,.d]),(3,.b [.d,.d,.f]),(4,.one .d),(5,.one .d)]
def QyT:af :=
 (.ae [ab 19 4,az 20 .add 19 (aw 1),ab 4 20])
def Py:af :=
 (ag [(ag [(.ae [ab 15 4,an 16 1 1,ar 17 16 1,az 18 .lss 15 17]),(.cond 18 .skip (.exit 0))]),(.block 1 (ag [(.ae [ab 5 (aw 0)]),(.block 2 (.loop QFr QBk))])),QyT])
def FD:List (Nat × Md):=[(1,.b [.d,.d,.d]),(2,.b [.d,.d,.d]),(3,.b [.d,.d,.o 3]),(4,.one .d)]
def QIs:af :=
 (ag [(.ae [aZ 42 3 3,a8 2 42 3]),.ret])
def QRj:af :=
 (ag [(.ae [aD 1 (.box 235 0 3),aD 2 (.new 235 (bC [TI,TI,(.sl [TI])]))]),(ag [(.ae [aZ 6 1 3,aL 7 258 [6],bL 8 7]),(.cond 8 (ag [(.ae [aD 9 (.build (bC [TI,TI,(.sl [TI])]) []),a8 2 9 3]),.ret]) .skip)]),(.ae [an 10 1 1,ar 11 10 1,an 12 1 0,ar 13 12 1,aD 14 (.build (bC [TI,TI,(.sl [TI])]) [(0,1,11),(1,1,13)]),aD 3 (.new 235 (bC [TI,TI,(.sl [TI])])),a8 3 14 3]),(ag [(.ae [ab 4 (aw 0)]),(.block 0 (.loop FD Py))]),QIs])
def QGO:List (bw × Md):=[(.l 2 3 true,.b [.d,.d,.d])]
def QvL:Qb:=TQ 0 0 QGO K
def QWr:Qb:=ba (aU wV 0 QIs (QvL K)) (QvL K)
def Pz:Qb:=bf 0 (QWr K)
def QBJ:Qb:=ba (λs'=>Loop wV 0 FD Py (Pz K) (gc 0 FD s')) (Pz K)
def QXh:Qb:=ba (aU wV 0 QyT (QBJ K)) (QBJ K)
def QVC:Qb:=bf 1 (QXh K)
def QY4:Qb:=bf 2 (QVC K)
def FE(m:cm)(r:Int)(t2:List Int)(c:Int):Prop:=Loop wV 0 QFr QBk (QY4 K) ⟨[(1,(.p 0 0 0)),(2,(.p 1 0 0)),(3,(.p 3 0 0)),(4,(aO c)),(5,(aO r))],[(0,(.box [(aO m.1),(aO m.2.1),(bu [TI] m.2.2)])),(1,(.box [(aO 0),(aO 0),(bu [TI] ([]))])),(2,(.sl 3 [TI] .ow t2)),(3,(.box [(aO m.2.1),(aO m.1),(.r [TI] 2 0 t2.length)]))],4⟩
def FF(m:cm)(c:Int)(rL:List Int):Prop:=Loop wV 0 FD Py (Pz K) ⟨[(1,(.p 0 0 0)),(2,(.p 1 0 0)),(3,(.p 3 0 0)),(4,(aO c))],[(0,(.box [(aO m.1),(aO m.2.1),(bu [TI] m.2.2)])),(1,(.box [(aO 0),(aO 0),(bu [TI] ([]))])),(2,(.sl 3 [TI] .ow rL)),(3,(.box [(aO m.2.1),(aO m.1),(.r [TI] 2 0 rL.length)]))],4⟩
theorem QHt(m:cm)(r:Int)(t2:List Int)(c:Int) (h :
 (aS (decide (r<m.1)) (((0<=aI ((aI (r*m.2.1))+c)/\Int.toNat (aI ((aI (r*m.2.1))+c))<(m.2.2).length)/\((t2.length=t2.length\/t2.length+1<=t2.length)/\t2.length+1<=bP))/\(FE K m (aI (r+1)) (List.take (t2.length+1) ((List.take t2.length t2)++([(aq (0:Int) m.2.2 (Int.toNat (aI ((aI (r*m.2.1))+c))))]))) c)) (FF K m (aI (c+1)) (List.take t2.length t2)))):FE K m r t2 c :=
 Loop.of h
theorem QAx(m:cm)(c:Int)(rL:List Int) (h :
 (aS (decide (c<m.2.1)) (FE K m 0 (List.take rL.length rL) c) (K (wU (m.2.1,m.1,(List.take rL.length (List.drop 0 rL))))))):FF K m c rL :=
 Loop.of h
theorem QS2(m:cm):aR Tryz.prog 265 [(.a [(.c TI m.1),(.c TI m.2.1),(.c (.sl [TI]) m.2.2)])] (wU (Y7 m)):=by
 refine bD wV QRj QGO 0 0 43 Px (kc Pn kn) (λK =>
 (aS (!(Zw m)) (K (wU ((0:Int),(0:Int),[]))) (FF K m 0 ([]:List Int)))) (λhb=>?_)
 refine⟨λh=>au (by unfold Y7;rw[if_neg (by simpa using h)]),λh=>?_⟩;have hp:Zw m=true:=by simpa using h
 obtain⟨h1,h2,h3,h4,h5,h6,h7⟩:=ua hp;refine JN m.2.1.toNat (λk=>FF (λr'=>r'=wU (Y7 m)) m (k:Int) ((List.range k).flatMap λk:Nat=>Yb m k)) ?_ ?_
 ·refine QAx _ _ _ _ ⟨λh=>by simp at h;omega,λ_=>au ?_⟩;rw[List.drop_zero,List.take_length];unfold Y7;rw[if_pos hp]
 ·intro k hk ih;refine QAx _ _ _ _ ⟨λ_=>?_,λh=>by simp at h;omega⟩;rw[List.take_length];have aCi:((List.range k).flatMap λk:Nat=>Yb m k).length<=36:=by
   rw[Lz (R:=m.1.toNat) k (λj _=>LB m j)];have:k*m.1.toNat<=6*6:=Nat.mul_le_mul (by omega) (by omega);omega
  have inner:=JN m.1.toNat (λj=>FE (λr'=>r'=wU (Y7 m)) m (j:Int) (((List.range k).flatMap λk:Nat=>Yb m k)++(List.range j).map λi:Nat=>aq 0 m.2.2 ((i:Int)*m.2.1+(k:Nat)).toNat) (k:Int)) ?_ ?_
  ·simpa using inner
  ·refine QHt _ _ _ _ _ ⟨λh=>by simp at h;omega,λ_=>?_⟩;rw[List.take_length,dv (by omega)];rw[v7]at ih;exact ih
  ·intro j hj nu;have hd:=idx (r:=j) (R:=m.1) (C:=m.2.1) (by omega) (by omega) (by omega);refine QHt _ _ _ _ _ ⟨λ_=>?_,λh=>by simp at h;omega⟩;rw[Qy (x:=(j:Int)*m.2.1) (by omega) (by omega),Qy (x:=(j:Int)*m.2.1+(k:Int)) (by omega) (by omega),dv (by omega),Zc];rw[zR,<- List.append_assoc]at nu;exact⟨⟨⟨by omega,by omega⟩,room (by rw[List.length_append];simp only[List.length_map,List.length_range];omega)⟩,nu⟩
theorem Q2m:Qf Tryz.prog Px:=Qh λx _=>QS2 x.1
def FG(t:(List Int) × Bool):aJ:=⟨(.tp [(.r [TI] 0 0 ((t.1).length)),(bH t.2)]),[(.sl 3 [TI] (.dp 0 true []) t.1)],[],false,[]⟩
def PA:aP:=Qg 244 [(.a [TI,TI,(.sl [TI])]),(.c (.sl [TI]))] λx=>(none,FG (ZB x.1 x.2.1))
def QSc:aN:=⟨[A9,J1,Px,FA],true⟩
def QQC:af :=
 (ag [(.ae [aD 2 (.box 235 0 3),ab 4 (.k (.n [TI])),ab 5 (bm false)]),(ag [(.ae [aZ 6 2 3,aL 7 258 [6],bL 8 7,ab 9 8,.bj 9 false [ab 10 1,an 11 2 0,ar 12 11 1,aL 13 100 [10,12],bL 14 13] 15 14]),(.cond 15 (ag [(.ae [ab 4 (.k (.n [TI])),ab 5 (bm false)]),.ret]) .skip)]),(.ae [aZ 16 2 3,aL 17 265 [16],ab 18 1,aL 19 229 [17,18],bF 20 19 0,bF 21 19 1,ab 4 20,ab 5 21]),.ret])
def QS4:List (bw × Md):=[(.t 4,.one (.p 3)),(.t 5,.one .d)]
theorem QTY(m:cm)(d:List Int):aR Tryz.prog 244 [(.a [(.c TI m.1),(.c TI m.2.1),(.c (.sl [TI]) m.2.2)]),(.c (.sl [TI]) d)] (FG (ZB m d)):=by
 refine bD QSc QQC QS4 0 0 22 PA (kc Pn (kc nr (kc Q2m (kc QuP kn)))) (λK =>
 (aS ((!(Zw m))||(!(Qr d m.1))) (K (FG (([]:List Int),false))) (K (FG ((List.take (((Zi (Y7 m) d).1).length) ((Zi (Y7 m) d).1)),(Zi (Y7 m) d).2))))) (λhb=>?_)
 refine⟨λh=>au (by rw[Xy];intro h2;simp[h2.1,h2.2]at h),λh=>?_⟩;have hp:Zw m=true/\Qr d m.1=true:=by simpa using h
 exact au (by rw[List.take_length];exact QOr hp.1 hp.2)
theorem QWY:Qf Tryz.prog PA:=Qh λx _=>QTY x.1 x.2.1
def Bc(t:(List Int) × Bool):aJ:=f0 (.tp [(bu [TI] t.1),(bH t.2)])
def PB:aP:=Qg 242 [(.a [TI,TI,(.sl [TI])]),(.c (.sl [TI]))] λx=>(none,Bc (ZB x.1 x.2.1))
def PC:aN:=⟨[Fw,Y6,Ps,wT],false⟩
def Qu1:af :=
 (ag [(ag [(.ae [ab 28 8,an 29 2 1,ar 30 29 1,az 31 .lss 28 30]),(.cond 31 .skip (.exit 0))]),(.block 1 (ag [(.ae [aZ 35 2 3,ab 36 8,aL 37 264 [35,36],ab 38 1,aL 39 184 [37,38],ab 34 39,bF 40 34 0,bF 41 34 1,ab 9 40,ab 10 41]),(.ae [ab 42 6,ab 43 9,aD 44 (.bO 3 [TI] [43]),aD 45 (.app 42 44 3 [TI]),ab 6 45]),(.ae [ab 46 7,ab 47 46,.bj 47 false [ab 48 10] 49 48,ab 7 49])])),(.ae [ab 32 8,az 33 .add 32 (aw 1),ab 8 33])])
def QCh:List (Nat × Md):=[(1,.one .d),(2,.b [.d,.d,.d]),(6,.one .f),(7,.one .d),(8,.one .d)]
def Qtx:af :=
 (ag [(.ae [ab 50 6,ab 51 7,ab 4 50,ab 5 51]),.ret])
def QNF:af :=
 (ag [(.ae [aD 2 (.box 235 0 3),ab 4 (.k (.n [TI])),ab 5 (bm false)]),(.ae [aD 11 (.bO 3 [TI] []),ab 6 11]),(.ae [ab 7 (bm false)]),(ag [(.ae [aZ 12 2 3,aL 13 254 [12],bL 14 13,ab 15 14,.bj 15 false [ab 16 1,aL 17 97 [16],bL 18 17] 19 18,ab 20 19,.bj 20 false [ab 21 1,bh 22 21,an 23 2 0,ar 24 23 1,az 25 .neq 22 24] 26 25]),(.cond 26 (ag [(.ae [ab 27 6,ab 4 27,ab 5 (bm false)]),.ret]) .skip)]),(ag [(.ae [ab 8 (aw 0)]),(.block 0 (.loop QCh Qu1))]),Qtx])
def QvV:List (bw × Md):=[(.t 4,.one .d),(.t 5,.one .d)]
def QHo:Qb:=TQ 0 0 QvV K
def QJJ:Qb:=ba (aU PC 0 Qtx (QHo K)) (QHo K)
def QUz:Qb:=bf 0 (QJJ K)
def FH(m:cm)(d:List Int)(sat:Bool)(k:Int)(out:List Int):Prop:=Loop PC 0 QCh Qu1 (QUz K) ⟨[(1,(bu [TI] d)),(2,(.p 0 0 0)),(6,(.r [TI] 1 0 out.length)),(7,(bH sat)),(8,(aO k))],[(0,(.box [(aO m.1),(aO m.2.1),(bu [TI] m.2.2)])),(1,(.sl 3 [TI] .ow out))],2⟩
theorem QIv(m:cm)(d:List Int)(sat:Bool)(k:Int)(out:List Int) (h :
 (aS (decide (k<m.2.1)) ((Lw m k)/\(((out.length=out.length\/out.length+1<=out.length)/\out.length+1<=bP)/\(FH K m d (sat||((Q7 (Yb m k) d).2)) (aI (k+1)) (List.take (out.length+1) ((List.take out.length out)++([(Q7 (Yb m k) d).1])))))) (K (Bc ((List.take out.length (List.drop 0 out)),sat))))):FH K m d sat k out :=
 Loop.of h
theorem QV7(m:cm)(d:List Int):aR Tryz.prog 242 [(.a [(.c TI m.1),(.c TI m.2.1),(.c (.sl [TI]) m.2.2)]),(.c (.sl [TI]) d)] (Bc (ZB m d)):=by
 refine bD PC QNF QvV 0 0 52 PB (kc QBb (kc Ji (kc QJX (kc Fp kn)))) (λK =>
 (aS (((!(Zw m))||(!(QH d)))||((d.length:Int) != m.1)) (K (Bc (([]:List Int),false))) (FH K m d false 0 ([]:List Int)))) (λhb=>?_)
 have hg:∀ n:Int,(!(QH d)||((d.length:Int) != n)) = !(Qr d n):=λn=>by unfold Qr;simp[bne]
 rw[Bool.or_assoc,hg];refine⟨λh=>au (by rw[Xy];intro h2;simp[h2.1,h2.2]at h),λh=>?_⟩;have hp:Zw m=true/\Qr d m.1=true:=by simpa using h
 obtain⟨h1,h2,h3,h4,h5,h6,h7⟩:=ua hp.1;have hv:(ZB m d)=((List.range m.2.1.toNat).map λk:Nat=>(Q7 (Yb m k) d).1,(List.range m.2.1.toNat).any λk:Nat=>(Q7 (Yb m k) d).2):=by unfold ZB;rw[if_pos (by simp[hp])]
 refine JN m.2.1.toNat (λj=>FH (λr'=>r'=Bc (ZB m d)) m d ((List.range j).any λk:Nat=>(Q7 (Yb m k) d).2) (j:Int) ((List.range j).map λk:Nat=>(Q7 (Yb m k) d).1)) ?_ ?_
 ·refine QIv _ _ _ _ _ _ ⟨λh=>by simp at h;omega,λ_=>au ?_⟩;rw[hv,List.drop_zero,List.take_length]
 ·intro j hj ih;refine QIv _ _ _ _ _ _ ⟨λ_=>?_,λh=>by simp at h;omega⟩;rw[dv (by omega),Zc];rw[zR,Ly]at ih;exact⟨⟨by omega,by omega,by omega,by omega,by omega,h5⟩,room (by simp;omega),ih⟩
theorem Q2G:Qf Tryz.prog PB:=Qh λx _=>QV7 x.1 x.2.1
def wW(t:cm × Bool):aJ:=⟨(.tp [(.a [(aO t.1.1),(aO t.1.2.1),(.r [TI] 0 0 ((t.1.2.2).length))]),(bH t.2)]),[(.sl 3 [TI] (.dp 0 true []) t.1.2.2)],[],false,[]⟩
def PD:aP:=Qg 245 [(.c (.sl [TI])),(.c (.sl [TI]))] λx=>(none,wW (Zy x.1 x.2.1))
def wX:aN:=⟨[p9,Av],true⟩
def QI2:af :=
 (ag [(.ae [az 37 .lss 36 35]),(.cond 37 .skip (.exit 2)),(.block 3 (ag [(.ae [bn 38 34 36 [TI],ar 39 38 1,ab 11 39]),(.ae [ab 41 9,ab 42 11,aL 43 239 [41,42],ab 40 43,bF 44 40 0,bF 45 40 1,ab 12 44,ab 13 45]),(.ae [an 46 6 2,ar 47 46 1,ab 48 12,aD 49 (.bO 3 [TI] [48]),aD 50 (.app 47 49 3 [TI]),an 51 6 2,a8 51 50 1]),(.ae [ab 52 7,ab 53 52,.bj 53 false [ab 54 13] 55 54,ab 7 55])])),(.ae [az 56 .add 36 (aw 1),ab 36 56])])
def Qx9:List (Nat × Md):=[(1,.one .d),(4,.b [.d,.d,.f]),(6,.b [.d,.d,.f]),(7,.one .d),(9,.one .d),(28,.one .d),(29,.one .d),(30,.one .d),(34,.one .d),(35,.one .d),(36,.one .d)]
def QGV:af :=
 (.ae [az 57 .add 30 (aw 1),ab 30 57])
def PE:af :=
 (ag [(.ae [az 31 .lss 30 29]),(.cond 31 .skip (.exit 0)),(.block 1 (ag [(.ae [bn 32 28 30 [TI],ar 33 32 1,ab 9 33]),(.ae [ab 34 1,bh 35 34,ab 36 (aw 0)]),(.block 2 (.loop Qx9 QI2))])),QGV])
def FI:List (Nat × Md):=[(1,.one .d),(4,.b [.d,.d,.f]),(6,.b [.d,.d,.p 3]),(7,.one .d),(28,.one .d),(29,.one .d),(30,.one .d)]
def Qy1:af :=
 (ag [(.ae [aZ 58 6 3,ab 59 7,a8 4 58 3,ab 5 59]),.ret])
def QOO:af :=
 (ag [(.ae [aD 4 (.new 235 (bC [TI,TI,(.sl [TI])])),ab 5 (bm false)]),(ag [(.ae [ab 14 0,aL 15 187 [14],bL 16 15,ab 17 16,.bj 17 false [ab 18 1,aL 19 187 [18],bL 20 19] 21 20]),(.cond 21 (ag [(.ae [aD 22 (.build (bC [TI,TI,(.sl [TI])]) []),a8 4 22 3,ab 5 (bm false)]),.ret]) .skip)]),(.ae [ab 23 0,bh 24 23,ab 25 1,bh 26 25,aD 27 (.build (bC [TI,TI,(.sl [TI])]) [(0,1,24),(1,1,26)]),aD 6 (.new 235 (bC [TI,TI,(.sl [TI])])),a8 6 27 3]),(.ae [ab 7 (bm false)]),(ag [(.ae [ab 28 0,bh 29 28,ab 30 (aw 0)]),(.block 0 (.loop FI PE))]),Qy1])
def QDF:List (bw × Md):=[(.l 4 3 true,.b [.d,.d,.p 3]),(.t 5,.one .d)]
def QDG:Qb:=TQ 0 0 QDF K
def QMo:Qb:=ba (aU wX 0 Qy1 (QDG K)) (QDG K)
def PF:Qb:=bf 0 (QMo K)
def QHN:Qb:=ba (λs'=>Loop wX 0 FI PE (PF K) (gc 0 FI s')) (PF K)
def QUv:Qb:=ba (aU wX 0 QGV (QHN K)) (QHN K)
def QMc:Qb:=bf 1 (QUv K)
def QXD:Qb:=bf 2 (QMc K)
def FJ(d:List Int)(x:List Int)(out:Bool)(x1:Int)(m2:List Int)(x2:Int):Prop:=Loop wX 0 Qx9 QI2 (QXD K) ⟨[(1,(bu [TI] x)),(4,(.p 0 0 0)),(6,(.p 2 0 0)),(7,(bH out)),(9,(aO (aq (0:Int) d (Int.toNat x2)))),(28,(bu [TI] d)),(29,(aO (d.length:Int))),(30,(aO x2)),(34,(bu [TI] x)),(35,(aO (x.length:Int))),(36,(aO x1))],[(0,(.box [(aO 0),(aO 0),(.n [TI])])),(1,(.sl 3 [TI] (.dp 0 true []) m2)),(2,(.box [(aO (d.length:Int)),(aO (x.length:Int)),(.r [TI] 1 0 m2.length)]))],3⟩
def FK(d:List Int)(x:List Int)(nw:Bool)(x2:Int)(jY:List Int):Prop:=Loop wX 0 FI PE (PF K) ⟨[(1,(bu [TI] x)),(4,(.p 0 0 0)),(6,(.p 2 0 0)),(7,(bH nw)),(28,(bu [TI] d)),(29,(aO (d.length:Int))),(30,(aO x2))],[(0,(.box [(aO 0),(aO 0),(.n [TI])])),(1,(.sl 3 [TI] (.dp 0 true []) jY)),(2,(.box [(aO (d.length:Int)),(aO (x.length:Int)),(.r [TI] 1 0 jY.length)]))],3⟩
theorem QCj(d:List Int)(x:List Int)(out:Bool)(x1:Int)(m2:List Int)(x2:Int) (h :
 (aS (decide (x1<(x.length:Int))) ((0<=x1/\Int.toNat x1<x.length)/\(((m2.length=m2.length\/m2.length+1<=m2.length)/\m2.length+1<=bP)/\(FJ K d x (out||((Zm (aq (0:Int) d (Int.toNat x2)) (aq (0:Int) x (Int.toNat x1))).2)) (aI (x1+1)) (List.take (m2.length+1) ((List.take m2.length m2)++([(Zm (aq (0:Int) d (Int.toNat x2)) (aq (0:Int) x (Int.toNat x1))).1]))) x2))) (FK K d x out (aI (x2+1)) (List.take m2.length m2)))):FJ K d x out x1 m2 x2 :=
 Loop.of h
theorem QyH(d:List Int)(x:List Int)(nw:Bool)(x2:Int)(jY:List Int) (h :
 (aS (decide (x2<(d.length:Int))) ((0<=x2/\Int.toNat x2<d.length)/\(FJ K d x nw 0 (List.take jY.length jY) x2)) (K (wW (((d.length:Int),(x.length:Int),(List.take jY.length jY)),nw))))):FK K d x nw x2 jY :=
 Loop.of h
theorem QYb(d:List Int)(x:List Int):aR Tryz.prog 245 [(.c (.sl [TI]) d),(.c (.sl [TI]) x)] (wW (Zy d x)):=by
 refine bD wX QOO QDF 0 0 60 PD (kc uv (kc NK kn)) (λK =>
 (aS ((!(QH d))||(!(QH x))) (K (wW (((0:Int),(0:Int),([]:List Int)),false))) (FK K d x false 0 ([]:List Int)))) (λhb=>?_)
 refine⟨λh=>au (by unfold Zy;rw[if_neg (by simpa[Classical.or_iff_not_imp_left]using h)]),λh=>?_⟩;have hp:QH d=true/\QH x=true:=by simpa using h
 have h6:=(ZY.1 hp.1).1;have h7:=(ZY.1 hp.2).1;refine Zd d (λr j=>∀(v:List Int)(z:Bool),v.length<=6*j->((((d.length:Int),(x.length:Int),v++r.flatMap λa=>x.map λb=>(Zm a b).1),z||r.any λa=>x.any λb=>(Zm a b).2):cm × Bool)=(Zy d x)->FK (λr'=>r'=wW (Zy d x)) d x z j v) ?_ ?_ [] false (Nat.zero_le _) (by unfold Zy;rw[if_pos (by simp[hp])];simp)
 ·intro v z hv he;refine QyH _ _ _ _ _ _ ⟨λh=>by simp at h,λ_=>au ?_⟩;rw[<- he];simp
 ·intro j y r hj aY hg ih v z hv he;refine QyH _ _ _ _ _ _ ⟨λ_=>?_,λh=>by simp at h;omega⟩;rw[List.take_length];refine⟨⟨by omega,by omega⟩,Zd x (λr2 k=>∀(v2:List Int)(z2:Bool),v2.length=v.length+k->v2++r2.map (λb=>(Zm y b).1)=v++x.map (λb=>(Zm y b).1)->(z2||r2.any λb=>(Zm y b).2)=(z||x.any λb=>(Zm y b).2)->FJ (λr'=>r'=wW (Zy d x)) d x z2 k v2 j) ?_ ?_ v z (by omega) rfl rfl⟩
  ·intro v2 z2 pc eZ jX;refine QCj _ _ _ _ _ _ _ ⟨λh=>by simp at h,λ_=>?_⟩;rw[List.take_length,dv (by omega)];simp only[List.map_nil,List.append_nil,List.any_nil,Bool.or_false]at eZ jX;refine ih _ _ (by rw[pc];omega) ?_;rw[<- he,eZ,jX];simp[Bool.or_assoc]
  ·intro k w r2 hk mT iT nu v2 z2 pc eZ jX;refine QCj _ _ _ _ _ _ _ ⟨λ_=>?_,λh=>by simp at h;omega⟩;rw[Int.toNat_natCast,Int.toNat_natCast,hg,iT,dv (by omega),Zc];refine⟨⟨by omega,by omega⟩,room (by omega),nu _ _ (by simp;omega) ?_ ?_⟩
   ·rw[<- eZ];simp
   ·rw[<- jX];simp[Bool.or_assoc]
theorem Q2w:Qf Tryz.prog PD:=Qh λx _=>QYb x.1 x.2.1
def wY(t:cm × Bool):aJ:=f0 (.tp [(.a [(aO t.1.1),(aO t.1.2.1),(bu [TI] t.1.2.2)]),(bH t.2)])
def PG:aP:=Qg 243 [(.c (.sl [TI])),(.c (.sl [TI]))] λx=>(none,wY (Zy x.1 x.2.1))
def wZ:aN:=⟨[Y6,Aw],false⟩
def QxZ:af :=
 (ag [(ag [(.ae [ab 32 9,ab 33 1,bh 34 33,az 35 .lss 32 34]),(.cond 35 .skip (.exit 2))]),(.block 3 (ag [(.draw [ab 39 0,ab 40 8,bn 41 39 40 [TI],ar 42 41 1,ab 43 1,ab 44 9,bn 45 43 44 [TI],ar 46 45 1,aL 47 237 [42,46],ab 38 47,bF 48 38 0,bF 49 38 1,ab 10 48,ab 11 49] []),(.ae [an 50 6 2,ar 51 50 1,ab 52 10,aD 53 (.bO 3 [TI] [52]),aD 54 (.app 51 53 3 [TI]),an 55 6 2,a8 55 54 1]),(.ae [ab 56 7,ab 57 56,.bj 57 false [ab 58 11] 59 58,ab 7 59])])),(.ae [ab 36 9,az 37 .add 36 (aw 1),ab 9 37])])
def QIf:List (Nat × Md):=[(0,.one .d),(1,.one .d),(4,.b [.d,.d,.d]),(6,.b [.d,.d,.f]),(7,.one .d),(8,.one .d),(9,.one .d)]
def QCD:af :=
 (.ae [ab 30 8,az 31 .add 30 (aw 1),ab 8 31])
def PH:af :=
 (ag [(ag [(.ae [ab 26 8,ab 27 0,bh 28 27,az 29 .lss 26 28]),(.cond 29 .skip (.exit 0))]),(.block 1 (ag [(.ae [ab 9 (aw 0)]),(.block 2 (.loop QIf QxZ))])),QCD])
def FL:List (Nat × Md):=[(0,.one .d),(1,.one .d),(4,.b [.d,.d,.d]),(6,.b [.d,.d,.o 3]),(7,.one .d),(8,.one .d)]
def QEo:af :=
 (ag [(.ae [aZ 60 6 3,ab 61 7,a8 4 60 3,ab 5 61]),.ret])
def QJO:af :=
 (ag [(.ae [aD 4 (.new 235 (bC [TI,TI,(.sl [TI])])),ab 5 (bm false)]),(ag [(.ae [ab 12 0,aL 13 97 [12],bL 14 13,ab 15 14,.bj 15 false [ab 16 1,aL 17 97 [16],bL 18 17] 19 18]),(.cond 19 (ag [(.ae [aD 20 (.build (bC [TI,TI,(.sl [TI])]) []),a8 4 20 3,ab 5 (bm false)]),.ret]) .skip)]),(.ae [ab 21 0,bh 22 21,ab 23 1,bh 24 23,aD 25 (.build (bC [TI,TI,(.sl [TI])]) [(0,1,22),(1,1,24)]),aD 6 (.new 235 (bC [TI,TI,(.sl [TI])])),a8 6 25 3]),(.ae [ab 7 (bm false)]),(ag [(.ae [ab 8 (aw 0)]),(.block 0 (.loop FL PH))]),QEo])
def QAR:List (bw × Md):=[(.l 4 3 true,.b [.d,.d,.d]),(.t 5,.one .d)]
def QEW:Qb:=TQ 0 0 QAR K
def QZe:Qb:=ba (aU wZ 0 QEo (QEW K)) (QEW K)
def PI:Qb:=bf 0 (QZe K)
def QCA:Qb:=ba (λs'=>Loop wZ 0 FL PH (PI K) (gc 0 FL s')) (PI K)
def QLE:Qb:=ba (aU wZ 0 QCD (QCA K)) (QCA K)
def QL1:Qb:=bf 1 (QLE K)
def Q1S:Qb:=bf 2 (QL1 K)
def FM(d:List Int)(x:List Int)(sat:Bool)(k:Int)(m2:List Int)(i:Int):Prop:=Loop wZ 0 QIf QxZ (Q1S K) ⟨[(0,(bu [TI] d)),(1,(bu [TI] x)),(4,(.p 0 0 0)),(6,(.p 2 0 0)),(7,(bH sat)),(8,(aO i)),(9,(aO k))],[(0,(.box [(aO 0),(aO 0),(bu [TI] ([]))])),(1,(.sl 3 [TI] .ow m2)),(2,(.box [(aO (d.length:Int)),(aO (x.length:Int)),(.r [TI] 1 0 m2.length)]))],3⟩
def FN(d:List Int)(x:List Int)(ny:Bool)(i:Int)(jY:List Int):Prop:=Loop wZ 0 FL PH (PI K) ⟨[(0,(bu [TI] d)),(1,(bu [TI] x)),(4,(.p 0 0 0)),(6,(.p 2 0 0)),(7,(bH ny)),(8,(aO i))],[(0,(.box [(aO 0),(aO 0),(bu [TI] ([]))])),(1,(.sl 3 [TI] .ow jY)),(2,(.box [(aO (d.length:Int)),(aO (x.length:Int)),(.r [TI] 1 0 jY.length)]))],3⟩
theorem QBL(d:List Int)(x:List Int)(sat:Bool)(k:Int)(m2:List Int)(i:Int) (h :
 (aS (decide (k<(x.length:Int))) (((0<=i/\Int.toNat i<d.length)/\(0<=k/\Int.toNat k<x.length))/\(((m2.length=m2.length\/m2.length+1<=m2.length)/\m2.length+1<=bP)/\(FM K d x (sat||((Zm (aq (0:Int) d (Int.toNat i)) (aq (0:Int) x (Int.toNat k))).2)) (aI (k+1)) (List.take (m2.length+1) ((List.take m2.length m2)++([(Zm (aq (0:Int) d (Int.toNat i)) (aq (0:Int) x (Int.toNat k))).1]))) i))) (FN K d x sat (aI (i+1)) (List.take m2.length m2)))):FM K d x sat k m2 i :=
 Loop.of h
theorem Que(d:List Int)(x:List Int)(ny:Bool)(i:Int)(jY:List Int) (h :
 (aS (decide (i<(d.length:Int))) (FM K d x ny 0 (List.take jY.length jY) i) (K (wY (((d.length:Int),(x.length:Int),(List.take jY.length (List.drop 0 jY))),ny))))):FN K d x ny i jY :=
 Loop.of h
theorem QN5(d:List Int)(x:List Int):aR Tryz.prog 243 [(.c (.sl [TI]) d),(.c (.sl [TI]) x)] (wY (Zy d x)):=by
 refine bD wZ QJO QAR 0 0 62 PG (kc Ji (kc NM kn)) (λK =>
 (aS ((!(QH d))||(!(QH x))) (K (wY (((0:Int),(0:Int),[]),false))) (FN K d x false 0 ([]:List Int)))) (λhb=>?_)
 refine⟨λh=>au (by unfold Zy;rw[if_neg (by simpa[Classical.or_iff_not_imp_left]using h)]),λh=>?_⟩;have hp:QH d=true/\QH x=true:=by simpa using h
 have h6:=(ZY.1 hp.1).1;have h7:=(ZY.1 hp.2).1;refine Zd d (λr j=>∀(v:List Int)(z:Bool),v.length<=6*j->((((d.length:Int),(x.length:Int),v++r.flatMap λa=>x.map λb=>(Zm a b).1),z||r.any λa=>x.any λb=>(Zm a b).2):cm × Bool)=(Zy d x)->FN (λr'=>r'=wY (Zy d x)) d x z j v) ?_ ?_ [] false (Nat.zero_le _) (by unfold Zy;rw[if_pos (by simp[hp])];simp)
 ·intro v z hv he;refine Que _ _ _ _ _ _ ⟨λh=>by simp at h,λ_=>au ?_⟩;rw[<- he];simp
 ·intro j y r hj aY hg ih v z hv he;refine Que _ _ _ _ _ _ ⟨λ_=>?_,λh=>by simp at h;omega⟩;rw[List.take_length];refine Zd x (λr2 k=>∀(v2:List Int)(z2:Bool),v2.length=v.length+k->v2++r2.map (λb=>(Zm y b).1)=v++x.map (λb=>(Zm y b).1)->(z2||r2.any λb=>(Zm y b).2)=(z||x.any λb=>(Zm y b).2)->FM (λr'=>r'=wY (Zy d x)) d x z2 k v2 j) ?_ ?_ v z (by omega) rfl rfl
  ·intro v2 z2 pc eZ jX;refine QBL _ _ _ _ _ _ _ ⟨λh=>by simp at h,λ_=>?_⟩;rw[List.take_length,dv (by omega)];simp only[List.map_nil,List.append_nil,List.any_nil,Bool.or_false]at eZ jX;refine ih _ _ (by rw[pc];omega) ?_;rw[<- he,eZ,jX];simp[Bool.or_assoc]
  ·intro k w r2 hk mT iT nu v2 z2 pc eZ jX;refine QBL _ _ _ _ _ _ _ ⟨λ_=>?_,λh=>by simp at h;omega⟩;rw[Int.toNat_natCast,Int.toNat_natCast,hg,iT,dv (by omega),Zc];refine⟨⟨⟨by omega,by omega⟩,by omega,by omega⟩,room (by omega),nu _ _ (by simp;omega) ?_ ?_⟩
   ·rw[<- eZ];simp
   ·rw[<- jX];simp[Bool.or_assoc]
theorem Q2f:Qf Tryz.prog PG:=Qh λx _=>QN5 x.1 x.2.1
def PJ(t:cm):aJ:=f0 (.a [(aO t.1),(aO t.2.1),(bu [TI] t.2.2)])
def FO:aP:=Qg 230 [(.a aK)] λx=>(none,PJ (Q0 x.1))
def QRh:aN:=⟨[],false⟩
def QV2:af :=
 (ag [(.ae [aD 1 (.box 134 0 4),aD 2 (.new 235 (bC [TI,TI,(.sl [TI])]))]),(.ae [an 3 1 2,ar 4 3 1,an 5 1 1,ar 6 5 1,an 7 1 3,ar 8 7 1,aD 9 (.build (bC [TI,TI,(.sl [TI])]) [(0,1,4),(1,1,6),(2,1,8)]),a8 2 9 3]),.ret])
def QLu:List (bw × Md):=[(.l 2 3 true,.b [.d,.d,.d])]
theorem QMq(o:aE):aR Tryz.prog 230 [(.a (aV.cells aK o))] (PJ (Q0 o)):=by
 refine bD QRh QV2 QLu 0 0 10 FO kn (λK =>
 K (PJ (o.2.2.1,o.2.1,o.2.2.2))) (λhb=>?_)
 exact au rfl
theorem QGW:Qf Tryz.prog FO:=Qh λx _=>QMq x.1
def PK(t:cm):aJ:=f0 (.a [(aO t.1),(aO t.2.1),(bu [TI] t.2.2)])
def FP:aP:=Qg 224 [(.a aK)] λx=>(none,PK (Q0 x.1))
def QTF:aN:=⟨[],false⟩
def QWV:af :=
 (ag [(.ae [aD 1 (.box 134 0 4),aD 2 (.new 235 (bC [TI,TI,(.sl [TI])]))]),(.ae [an 3 1 2,ar 4 3 1,an 5 1 1,ar 6 5 1,an 7 1 3,ar 8 7 1,aD 9 (.build (bC [TI,TI,(.sl [TI])]) [(0,1,4),(1,1,6),(2,1,8)]),a8 2 9 3]),.ret])
def QWu:List (bw × Md):=[(.l 2 3 true,.b [.d,.d,.d])]
theorem QW6(o:aE):aR Tryz.prog 224 [(.a (aV.cells aK o))] (PK (Q0 o)):=by
 refine bD QTF QWV QWu 0 0 10 FP kn (λK =>
 K (PK (o.2.2.1,o.2.1,o.2.2.2))) (λhb=>?_)
 exact au rfl
theorem QHI:Qf Tryz.prog FP:=Qh λx _=>QW6 x.1
def rM(t:(List Int) × Bool):aJ:=⟨(.tp [(.r [TI] 0 0 ((t.1).length)),(bH t.2)]),[(.sl 3 [TI] (.dp 0 true []) t.1)],[],false,[]⟩
def PL:aP:=Qg 170 [(.a aK),(.c (.sl [TI]))] λx=>(none,rM (Yr x.1 x.2.1))
def Q37:aN:=⟨[Ah,J1,FO,FA,E5,Fg,Pc],true⟩
def QJF:af :=
 (ag [(.ae [aD 2 (.box 134 0 4),ab 4 (.k (.n [TI])),ab 5 (bm false)]),(ag [(.ae [aZ 10 2 4,aL 11 228 [10],bL 12 11,ab 13 12,.bj 13 false [ab 14 1,an 15 2 1,ar 16 15 1,aL 17 100 [14,16],bL 18 17] 19 18]),(.cond 19 (ag [(.ae [ab 4 (.k (.n [TI])),ab 5 (bm false)]),.ret]) .skip)]),(ag [(.ae [an 20 2 0,ar 21 20 1]),(.block 0 (ag [(.ae [az 23 .eql 21 (aw 1),ab 22 23]),(.cond 22 (ag [(.ae [aZ 24 2 4,aL 25 230 [24],ab 26 1,aL 27 229 [25,26],bF 28 27 0,bF 29 27 1,ab 4 28,ab 5 29]),.ret]) (ag [(.ae [az 31 .eql 21 (aw 2),ab 30 31]),(.cond 30 (ag [(.ae [ab 32 1,an 33 2 3,ar 34 33 1,aL 35 231 [32,34],bF 36 35 0,bF 37 35 1,ab 4 36,ab 5 37]),.ret]) (ag [(.ae [az 39 .eql 21 (aw 4),ab 38 39]),(.cond 38 (ag [(.ae [an 40 2 3,ar 41 40 1,bn 42 41 (aw 0) [TI],ar 43 42 1,ab 44 1,aL 45 232 [43,44],bF 46 45 0,bF 47 45 1,ab 4 46,ab 5 47]),.ret]) (ag [(.ae [az 49 .eql 21 (aw 5),ab 48 49]),(.cond 48 (ag [(.ae [aZ 51 2 4,aL 52 230 [51],ab 53 1,aL 54 229 [52,53],ab 50 54,bF 55 50 0,bF 56 50 1,ab 6 55,ab 7 56]),(.ae [ab 58 1,ab 59 6,aL 60 231 [58,59],ab 57 60,bF 61 57 0,bF 62 57 1,ab 8 61,ab 9 62]),(.ae [ab 63 8,ab 64 7,ab 65 64,.bj 65 false [ab 66 9] 67 66,ab 4 63,ab 5 67]),.ret]) .skip)]))]))]))]))]),(.ae [ab 68 1,aL 69 233 [68],ab 4 69,ab 5 (bm false)]),.ret])
def QUM:List (bw × Md):=[(.t 4,.one (.p 3)),(.t 5,.one .d)]
theorem QNu(o:aE)(x:List Int):aR Tryz.prog 170 [(.a (aV.cells aK o)),(.c (.sl [TI]) x)] (rM (Yr o x)):=by
 refine bD Q37 QJF QUM 0 0 70 PL (kc MV (kc nr (kc QGW (kc QuP (kc Qxa (kc QuT (kc QSu kn))))))) (λK =>
 (aS ((!(Zk o))||(!(Qr x o.2.1))) (K (rM (([]:List Int),false))) (aS (o.1==1) (K (rM ((List.take (((Zi (Q0 o) x).1).length) ((Zi (Q0 o) x).1)),(Zi (Q0 o) x).2))) (aS (o.1==2) (K (rM ((List.take (((Zt x o.2.2.2).1).length) ((Zt x o.2.2.2).1)),(Zt x o.2.2.2).2))) (aS (o.1==4) (((0:Int)<=0/\Int.toNat 0<(o.2.2.2).length)/\K (rM ((List.take (((ZQ (aq (0:Int) o.2.2.2 (Int.toNat 0)) x).1).length) ((ZQ (aq (0:Int) o.2.2.2 (Int.toNat 0)) x).1)),(ZQ (aq (0:Int) o.2.2.2 (Int.toNat 0)) x).2))) (aS (o.1==5) (K (rM ((List.take (((Zt x (List.take (((Zi (Q0 o) x).1).length) (List.drop 0 ((Zi (Q0 o) x).1)))).1).length) ((Zt x (List.take (((Zi (Q0 o) x).1).length) (List.drop 0 ((Zi (Q0 o) x).1)))).1)),(((Zi (Q0 o) x).2)||((Zt x (List.take (((Zi (Q0 o) x).1).length) (List.drop 0 ((Zi (Q0 o) x).1)))).2))))) (K (rM ((List.take ((Yx x).length) (Yx x)),false))))))))) (λhb=>?_)
 refine⟨λh=>au (by rw[XB];intro h2;simp[h2.1,h2.2]at h),λh=>?_⟩;have hp:Zk o=true/\Qr x o.2.1=true:=by simpa using h
 have hk:=Dm hp.1;have hv:(Yr o x)=(if o.1=1 then Zi (Q0 o) x else if o.1=2 then Zt x o.2.2.2 else if o.1=4 then ZQ (aq 0 o.2.2.2 0) x
    else if o.1=5 then((Zt x (Zi (Q0 o) x).1).1,(Zi (Q0 o) x).2||(Zt x (Zi (Q0 o) x).1).2) else(Yx x,false)):=by
  unfold Yr;rw[if_pos (by rw[hp.1,hp.2];rfl)]
 refine⟨λh1=>au ?_,λh1=>⟨λh2=>au ?_,λh2=>⟨λh4=>⟨⟨by omega,Dl hp.1 (by simpa using h4)⟩,au ?_⟩,λh4=>⟨λh5=>au ?_,λh5=>au ?_⟩⟩⟩⟩
 all_goals (rw[hv];clear hv;simp at *;simp[*])
theorem QLL:Qf Tryz.prog PL:=Qh λx _=>QNu x.1 x.2.1
def rN(t:(List Int) × Bool):aJ:=f0 (.tp [(bu [TI] t.1),(bH t.2)])
def PM:aP:=Qg 160 [(.a aK),(.c (.sl [TI]))] λx=>(none,rN (Yr x.1 x.2.1))
def Q4s:aN:=⟨[Af,Y6,FP,Pv,E8,Pe,Fj],false⟩
def QSB:af :=
 (ag [(.ae [aD 2 (.box 134 0 4),ab 4 (.k (.n [TI])),ab 5 (bm false)]),(ag [(.ae [aZ 10 2 4,aL 11 222 [10],bL 12 11,ab 13 12,.bj 13 false [ab 14 1,aL 15 97 [14],bL 16 15] 17 16,ab 18 17,.bj 18 false [ab 19 1,bh 20 19,an 21 2 1,ar 22 21 1,az 23 .neq 20 22] 24 23]),(.cond 24 (ag [(.ae [aD 25 (.bO 3 [TI] []),ab 4 25,ab 5 (bm false)]),.ret]) .skip)]),(ag [(.ae [an 26 2 0,ar 27 26 1]),(.block 0 (ag [(.ae [az 29 .eql 27 (aw 1),ab 28 29]),(.cond 28 (ag [(.ae [aZ 30 2 4,aL 31 224 [30],ab 32 1,aL 33 223 [31,32],bF 34 33 0,bF 35 33 1,ab 4 34,ab 5 35]),.ret]) (ag [(.ae [az 37 .eql 27 (aw 2),ab 36 37]),(.cond 36 (ag [(.ae [ab 38 1,an 39 2 3,ar 40 39 1,aL 41 225 [38,40],bF 42 41 0,bF 43 41 1,ab 4 42,ab 5 43]),.ret]) (ag [(.ae [az 45 .eql 27 (aw 3),ab 44 45]),(.cond 44 (ag [(.ae [ab 46 1,aL 47 226 [46],ab 4 47,ab 5 (bm false)]),.ret]) (ag [(.ae [az 49 .eql 27 (aw 4),ab 48 49]),(.cond 48 (ag [(.ae [an 50 2 3,ar 51 50 1,bn 52 51 (aw 0) [TI],ar 53 52 1,ab 54 1,aL 55 227 [53,54],bF 56 55 0,bF 57 55 1,ab 4 56,ab 5 57]),.ret]) .skip)]))]))]))]))]),(.ae [aZ 59 2 4,aL 60 224 [59],ab 61 1,aL 62 223 [60,61],ab 58 62,bF 63 58 0,bF 64 58 1,ab 6 63,ab 7 64]),(.ae [ab 66 1,ab 67 6,aL 68 225 [66,67],ab 65 68,bF 69 65 0,bF 70 65 1,ab 8 69,ab 9 70]),(.ae [ab 71 8,ab 72 7,ab 73 72,.bj 73 false [ab 74 9] 75 74,ab 4 71,ab 5 75]),.ret])
def QQF:List (bw × Md):=[(.t 4,.one .d),(.t 5,.one .d)]
theorem QLJ(o:aE)(x:List Int):aR Tryz.prog 160 [(.a (aV.cells aK o)),(.c (.sl [TI]) x)] (rN (Yr o x)):=by
 refine bD Q4s QSB QQF 0 0 76 PM (kc MU (kc Ji (kc QHI (kc Q0w (kc QCS (kc QW0 (kc QHz kn))))))) (λK =>
 (aS (((!(Zk o))||(!(QH x)))||((x.length:Int) != o.2.1)) (K (rN (([]:List Int),false))) (aS (o.1==1) (K (rN ((Zi (Q0 o) x).1,(Zi (Q0 o) x).2))) (aS (o.1==2) (K (rN ((Zt x o.2.2.2).1,(Zt x o.2.2.2).2))) (aS (o.1==3) (K (rN ((Yx x),false))) (aS (o.1==4) (((0:Int)<=0/\Int.toNat 0<(o.2.2.2).length)/\K (rN ((ZQ (aq (0:Int) o.2.2.2 (Int.toNat 0)) x).1,(ZQ (aq (0:Int) o.2.2.2 (Int.toNat 0)) x).2))) (K (rN ((Zt x ((Zi (Q0 o) x).1)).1,(((Zi (Q0 o) x).2)||((Zt x ((Zi (Q0 o) x).1)).2))))))))))) (λhb=>?_)
 rw[Bool.or_assoc,LC];refine⟨λh=>au (by rw[XB];intro h2;simp[h2.1,h2.2]at h),λh=>?_⟩;have hp:Zk o=true/\Qr x o.2.1=true:=by simpa using h
 have hk:=Dm hp.1;have hv:(Yr o x)=(if o.1=1 then Zi (Q0 o) x else if o.1=2 then Zt x o.2.2.2 else if o.1=4 then ZQ (aq 0 o.2.2.2 0) x
    else if o.1=5 then((Zt x (Zi (Q0 o) x).1).1,(Zi (Q0 o) x).2||(Zt x (Zi (Q0 o) x).1).2) else(Yx x,false)):=by
  unfold Yr;rw[if_pos (by rw[hp.1,hp.2];rfl)]
 refine⟨λh1=>au ?_,λh1=>⟨λh2=>au ?_,λh2=>⟨λh3=>au ?_,λh3=>⟨λh4=>⟨⟨by omega,Dl hp.1 (by simpa using h4)⟩,au ?_⟩,λh4=>au ?_⟩⟩⟩⟩
 all_goals (rw[hv];clear hv;simp at *)
 ·simp[*]
 ·simp[*]
 ·simp[*]
 ·simp[*]
 ·have h5:o.1=5:=by omega
  simp[h5]
theorem QZK:Qf Tryz.prog PM:=Qh λx _=>QLJ x.1 x.2.1
def rO(t:(List Int) × (List Int) × Bool):aJ:=⟨(.tp [(.r [TI] 0 0 ((t.1).length)),(.r [TI] 1 0 ((t.2.1).length)),(bH t.2.2)]),[(.sl 3 [TI] (.dp 0 true []) t.1),(.sl 3 [TI] (.dp 0 true []) t.2.1)],[],false,[]⟩
def PN:aP:=Qg 197 [(.a aK),(.c (.sl [TI])),(.c (.sl [TI]))] λx=>(none,rO (Ym x.1 x.2.1 x.2.2.1))
def QR7:aN:=⟨[Ah,J1,FO,PA,PD,nt,Fg,A4,E5,Ph],true⟩
def QQ7:af :=
 (ag [(.ae [aD 3 (.box 134 0 4),ab 6 (.k (.n [TI])),ab 7 (.k (.n [TI])),ab 8 (bm false)]),(ag [(.ae [aZ 23 3 4,aL 24 228 [23],bL 25 24,ab 26 25,.bj 26 false [ab 27 1,an 28 3 1,ar 29 28 1,aL 30 100 [27,29],bL 31 30] 32 31,ab 33 32,.bj 33 false [ab 34 2,an 35 3 2,ar 36 35 1,aL 37 100 [34,36],bL 38 37] 39 38]),(.cond 39 (ag [(.ae [ab 6 (.k (.n [TI])),ab 7 (.k (.n [TI])),ab 8 (bm false)]),.ret]) .skip)]),(ag [(.ae [an 40 3 0,ar 41 40 1]),(.block 0 (ag [(.ae [az 43 .eql 41 (aw 1),ab 42 43]),(.cond 42 (ag [(.ae [aZ 45 3 4,aL 46 230 [45],ab 47 2,aL 48 244 [46,47],ab 44 48,bF 49 44 0,bF 50 44 1,ab 9 49,ab 10 50]),(.ae [ab 52 2,ab 53 1,aL 54 245 [52,53],ab 51 54,bF 55 51 0,bF 56 51 1,aD 11 (.new 235 (bC [TI,TI,(.sl [TI])])),a8 11 55 3,ab 12 56]),(.draw [ab 57 9,an 58 11 2,ar 59 58 1,ab 60 10,ab 61 60,.bj 61 false [ab 62 12] 63 62,ab 6 57,ab 7 59,ab 8 63] []),.ret]) (ag [(.ae [az 65 .eql 41 (aw 2),ab 64 65]),(.cond 64 (ag [(.ae [ab 66 2,aL 67 104 [66],ab 68 2,aL 69 104 [68],ab 6 67,ab 7 69,ab 8 (bm false)]),.ret]) (ag [(.ae [az 71 .eql 41 (aw 4),ab 70 71]),(.cond 70 (ag [(.ae [an 73 3 3,ar 74 73 1,bn 75 74 (aw 0) [TI],ar 76 75 1,ab 77 2,aL 78 232 [76,77],ab 72 78,bF 79 72 0,bF 80 72 1,ab 13 79,ab 14 80]),(.ae [ab 82 2,ab 83 1,aL 84 188 [82,83],ab 81 84,bF 85 81 0,bF 86 81 1,ab 15 85,ab 16 86]),(.ae [ab 87 13,ab 88 15,aD 89 (.bO 3 [TI] [88]),ab 90 14,ab 91 90,.bj 91 false [ab 92 16] 93 92,ab 6 87,ab 7 89,ab 8 93]),.ret]) (ag [(.ae [az 95 .eql 41 (aw 5),ab 94 95]),(.cond 94 (ag [(.ae [aZ 97 3 4,aL 98 230 [97],ab 99 2,aL 100 244 [98,99],ab 96 100,bF 101 96 0,bF 102 96 1,ab 17 101,ab 18 102]),(.ae [ab 104 2,ab 105 17,aL 106 231 [104,105],ab 103 106,bF 107 103 0,bF 108 103 1,ab 19 107,ab 20 108]),(.ae [ab 110 2,ab 111 1,aL 112 245 [110,111],ab 109 112,bF 113 109 0,bF 114 109 1,aD 21 (.new 235 (bC [TI,TI,(.sl [TI])])),a8 21 113 3,ab 22 114]),(.draw [ab 115 19,an 116 21 2,ar 117 116 1,ab 118 18,ab 119 118,.bj 119 false [ab 120 20] 121 120,ab 122 121,.bj 122 false [ab 123 22] 124 123,ab 6 115,ab 7 117,ab 8 124] []),.ret]) .skip)]))]))]))]))]),(.ae [ab 125 1,ab 126 2,aL 127 246 [125,126],ab 6 127,ab 7 (.k (.n [TI])),ab 8 (bm false)]),.ret])
def QTf:List (bw × Md):=[(.t 6,.one (.p 3)),(.t 7,.one (.p 3)),(.t 8,.one .d)]
theorem QVw(o:aE)(x:List Int)(d:List Int):aR Tryz.prog 197 [(.a (aV.cells aK o)),(.c (.sl [TI]) x),(.c (.sl [TI]) d)] (rO (Ym o x d)):=by
 refine bD QR7 QQ7 QTf 0 0 128 PN (kc MV (kc nr (kc QGW (kc QWY (kc Q2w (kc qg (kc QuT (kc O9 (kc Qxa (kc Q0h kn)))))))))) (λK =>
 let z2:=ZQ (aq (0:Int) o.2.2.2 (Int.toNat 0)) d
 let z3:=ZB (Q0 o) d
 let z1:=Zt d (List.take ((z3.1).length) (List.drop 0 (z3.1)))
 let z4:=List.take ((((Zy d x).1).2.2).length) (((Zy d x).1).2.2)
 let z5:=List.take ((id (α:=List Int) d).length) (id (α:=List Int) d)
 (aS (((!(Zk o))||(!(Qr x o.2.1)))||(!(Qr d o.2.2.1))) (K (rO (([]:List Int),([]:List Int),false))) (aS (o.1==1) (K (rO ((List.take ((z3.1).length) (z3.1)),z4,((z3.2)||((Zy d x).2))))) (aS (o.1==2) (((QA (α:=List Int) d)/\(QA (α:=List Int) d))/\K (rO (z5,z5,false))) (aS (o.1==4) (((0:Int)<=0/\Int.toNat 0<(o.2.2.2).length)/\K (rO ((List.take ((z2.1).length) (z2.1)),[(Q7 d x).1],((z2.2)||((Q7 d x).2))))) (aS (o.1==5) (K (rO ((List.take ((z1.1).length) (z1.1)),z4,(((z3.2)||(z1.2))||((Zy d x).2))))) (K (rO ((List.take ((Yw x d).length) (Yw x d)),([]:List Int),false))))))))) (λhb=>?_)
 conv=>zeta
 refine⟨λh=>au (by rw[XC];intro h2;simp[h2.1,h2.2]at h),λh=>?_⟩;have hp:(Zk o=true/\Qr x o.2.1=true)/\Qr d o.2.2.1=true:=by simpa using h
 have hk:=Dm hp.1.1;have hdl:=(ZY.1 (YN.1 hp.2).1).1;have hv:(Ym o x d)=(if o.1=1 then((ZB (Q0 o) d).1,(Zy d x).1.2.2,(ZB (Q0 o) d).2||(Zy d x).2)
    else if o.1=2 then(d,d,false)
    else if o.1=4 then((ZQ (aq 0 o.2.2.2 0) d).1,[(Q7 d x).1],(ZQ (aq 0 o.2.2.2 0) d).2||(Q7 d x).2)
    else if o.1=5 then((Zt d (ZB (Q0 o) d).1).1,(Zy d x).1.2.2,(ZB (Q0 o) d).2||(Zy d x).2||(Zt d (ZB (Q0 o) d).1).2)
    else(Yw x d,[],false)):=by
  unfold Ym;rw[if_pos (by rw[hp.1.1,hp.1.2,hp.2];rfl)]
 have fT:QA (α:=List Int) d:=by unfold QA;rw[ZR];omega
 refine⟨λh1=>au ?_,λh1=>⟨λh2=>⟨⟨fT,fT⟩,au ?_⟩,λh2=>⟨λh4=>⟨⟨by omega,Dl hp.1.1 (by simpa using h4)⟩,au ?_⟩,λh4=>⟨λh5=>au ?_,λh5=>au ?_⟩⟩⟩⟩
 all_goals (rw[hv];clear hv;simp at *)
 ·simp[*]
 ·simp[*]
 ·simp[*]
 ·simp[*,Bool.or_assoc,Bool.or_comm,Bool.or_left_comm]
 ·simp[*]
theorem QRl:Qf Tryz.prog PN:=Qh λx _=>QVw x.1 x.2.1 x.2.2.1
def rP(t:(List Int) × (List Int) × Bool):aJ:=f0 (.tp [(bu [TI] t.1),(bu [TI] t.2.1),(bH t.2.2)])
def PO:aP:=Qg 193 [(.a aK),(.c (.sl [TI])),(.c (.sl [TI]))] λx=>(none,rP (Ym x.1 x.2.1 x.2.2.1))
def Q1O:aN:=⟨[Af,Y6,Pk,Fj,wT,FP,PB,PG,E8],false⟩
def QWe:af :=
 (ag [(.ae [aD 3 (.box 134 0 4),ab 6 (.k (.n [TI])),ab 7 (.k (.n [TI])),ab 8 (bm false)]),(ag [(.ae [aZ 19 3 4,aL 20 222 [19],bL 21 20,ab 22 21,.bj 22 false [ab 23 1,aL 24 97 [23],bL 25 24] 26 25,ab 27 26,.bj 27 false [ab 28 1,bh 29 28,an 30 3 1,ar 31 30 1,az 32 .neq 29 31] 33 32,ab 34 33,.bj 34 false [ab 35 2,aL 36 97 [35],bL 37 36] 38 37,ab 39 38,.bj 39 false [ab 40 2,bh 41 40,an 42 3 2,ar 43 42 1,az 44 .neq 41 43] 45 44]),(.cond 45 (ag [(.ae [aD 46 (.bO 3 [TI] []),aD 47 (.bO 3 [TI] []),ab 6 46,ab 7 47,ab 8 (bm false)]),.ret]) .skip)]),(ag [(.ae [an 48 3 0,ar 49 48 1]),(.block 0 (ag [(.ae [az 51 .eql 49 (aw 2),ab 50 51]),(.cond 50 (ag [(.ae [aD 52 (.bO 3 [TI] []),ab 53 2,aD 54 (.app 52 53 3 [TI]),aD 55 (.bO 3 [TI] []),ab 56 2,aD 57 (.app 55 56 3 [TI]),ab 6 54,ab 7 57,ab 8 (bm false)]),.ret]) (ag [(.ae [az 59 .eql 49 (aw 3),ab 58 59]),(.cond 58 (ag [(.ae [ab 60 1,ab 61 2,aL 62 241 [60,61],aD 63 (.bO 3 [TI] []),ab 6 62,ab 7 63,ab 8 (bm false)]),.ret]) (ag [(.ae [az 65 .eql 49 (aw 4),ab 64 65]),(.cond 64 (ag [(.ae [an 67 3 3,ar 68 67 1,bn 69 68 (aw 0) [TI],ar 70 69 1,ab 71 2,aL 72 227 [70,71],ab 66 72,bF 73 66 0,bF 74 66 1,ab 9 73,ab 10 74]),(.ae [ab 76 2,ab 77 1,aL 78 184 [76,77],ab 75 78,bF 79 75 0,bF 80 75 1,ab 11 79,ab 12 80]),(.ae [ab 81 9,ab 82 11,aD 83 (.bO 3 [TI] [82]),ab 84 10,ab 85 84,.bj 85 false [ab 86 12] 87 86,ab 6 81,ab 7 83,ab 8 87]),.ret]) .skip)]))]))]))]),(.ae [aZ 89 3 4,aL 90 224 [89],ab 91 2,aL 92 242 [90,91],ab 88 92,bF 93 88 0,bF 94 88 1,ab 13 93,ab 14 94]),(.ae [ab 96 2,ab 97 1,aL 98 243 [96,97],ab 95 98,bF 99 95 0,bF 100 95 1,aD 15 (.new 235 (bC [TI,TI,(.sl [TI])])),a8 15 99 3,ab 16 100]),(ag [(.ae [an 101 3 0,ar 102 101 1,az 103 .eql 102 (aw 1)]),(.cond 103 (ag [(.draw [ab 104 13,an 105 15 2,ar 106 105 1,ab 107 14,ab 108 107,.bj 108 false [ab 109 16] 110 109,ab 6 104,ab 7 106,ab 8 110] []),.ret]) .skip)]),(.ae [ab 112 2,ab 113 13,aL 114 225 [112,113],ab 111 114,bF 115 111 0,bF 116 111 1,ab 17 115,ab 18 116]),(.draw [ab 117 17,an 118 15 2,ar 119 118 1,ab 120 14,ab 121 120,.bj 121 false [ab 122 16] 123 122,ab 124 123,.bj 124 false [ab 125 18] 126 125,ab 6 117,ab 7 119,ab 8 126] []),.ret])
def QWM:List (bw × Md):=[(.t 6,.one .d),(.t 7,.one .d),(.t 8,.one .d)]
theorem Q18(o:aE)(x:List Int)(d:List Int):aR Tryz.prog 193 [(.a (aV.cells aK o)),(.c (.sl [TI]) x),(.c (.sl [TI]) d)] (rP (Ym o x d)):=by
 refine bD Q1O QWe QWM 0 0 127 PO (kc MU (kc Ji (kc QPp (kc QHz (kc Fp (kc QHI (kc Q2G (kc Q2f (kc QCS kn))))))))) (λK =>
 (aS (((((!(Zk o))||(!(QH x)))||((x.length:Int) != o.2.1))||(!(QH d)))||((d.length:Int) != o.2.2.1)) (K (rP (([]:List Int),([]:List Int),false))) (aS (o.1==2) ((((0=0\/0+d.length<=0)/\0+d.length<=bP)/\((0=0\/0+d.length<=0)/\0+d.length<=bP))/\K (rP ((List.take (0+d.length) (List.drop 0 (d:List Int))),(List.take (0+d.length) (List.drop 0 (d:List Int))),false))) (aS (o.1==3) (K (rP ((Yw x d),([]:List Int),false))) (aS (o.1==4) (((0:Int)<=0/\Int.toNat 0<(o.2.2.2).length)/\K (rP ((ZQ (aq (0:Int) o.2.2.2 (Int.toNat 0)) d).1,[(Q7 d x).1],(((ZQ (aq (0:Int) o.2.2.2 (Int.toNat 0)) d).2)||((Q7 d x).2))))) (aS (o.1==1) (K (rP ((ZB (Q0 o) d).1,((Zy d x).1).2.2,(((ZB (Q0 o) d).2)||((Zy d x).2))))) (K (rP ((Zt d ((ZB (Q0 o) d).1)).1,((Zy d x).1).2.2,((((ZB (Q0 o) d).2)||((Zy d x).2))||((Zt d ((ZB (Q0 o) d).1)).2))))))))))) (λhb=>?_)
 rw[show(!(Zk o)||!(QH x)||((x.length:Int) != o.2.1)||!(QH d)||((d.length:Int) != o.2.2.1))=(!(Zk o)||!(Qr x o.2.1)||!(Qr d o.2.2.1)) by rw[<- LC,<- LC];simp only[Bool.or_assoc]];refine⟨λh=>au (by rw[XC];intro h2;simp[h2.1,h2.2]at h),λh=>?_⟩;have hp:(Zk o=true/\Qr x o.2.1=true)/\Qr d o.2.2.1=true:=by simpa using h
 have hk:=Dm hp.1.1;have hdl:=(ZY.1 (YN.1 hp.2).1).1;have hv:(Ym o x d)=(if o.1=1 then((ZB (Q0 o) d).1,(Zy d x).1.2.2,(ZB (Q0 o) d).2||(Zy d x).2)
    else if o.1=2 then(d,d,false)
    else if o.1=4 then((ZQ (aq 0 o.2.2.2 0) d).1,[(Q7 d x).1],(ZQ (aq 0 o.2.2.2 0) d).2||(Q7 d x).2)
    else if o.1=5 then((Zt d (ZB (Q0 o) d).1).1,(Zy d x).1.2.2,(ZB (Q0 o) d).2||(Zy d x).2||(Zt d (ZB (Q0 o) d).1).2)
    else(Yw x d,[],false)):=by
  unfold Ym;rw[if_pos (by rw[hp.1.1,hp.1.2,hp.2];rfl)]
 refine⟨λh2=>⟨⟨⟨.inl rfl,by rw[QY];omega⟩,.inl rfl,by rw[QY];omega⟩,au ?_⟩,λh2=>⟨λh3=>au ?_,λh3=>⟨λh4=>⟨⟨by omega,Dl hp.1.1 (by simpa using h4)⟩,au ?_⟩,λh4=>⟨λh1=>au ?_,λh1=>au ?_⟩⟩⟩⟩
 all_goals (rw[hv];clear hv;simp at *)
 ·simp[*]
 ·simp[*]
 ·simp[*]
 ·simp[*]
 ·have h5:o.1=5:=by omega
  simp[h5]
theorem QWT:Qf Tryz.prog PO:=Qh λx _=>Q18 x.1 x.2.1 x.2.2.1
def PQ(t:Int × Bool):aJ:=cd (.tp [(aO t.1),(bH t.2)])
def PR:aP:=Qg 105 [(.c (.sl [TI])),(.c (.sl [TI]))] λx=>(none,PQ (ZO x.1 x.2.1))
def QSM:aN:=⟨[Fa,A4],false⟩
def QRr:af :=
 (ag [(.ae [ab 4 (aw 0),ab 5 (bm false)]),(.ae [ab 11 0,ab 12 1,aL 13 111 [11,12],ab 10 13,bF 14 10 0,bF 15 10 1,ab 6 14,ab 7 15]),(.ae [ab 17 6,ab 18 6,aL 19 188 [17,18],ab 16 19,bF 20 16 0,bF 21 16 1,ab 8 20,ab 9 21]),(.ae [ab 22 8,az 23 .shr 22 (.k (.c (.int .u64) (1:Int))),ab 24 7,ab 25 24,.bj 25 false [ab 26 9] 27 26,ab 4 23,ab 5 27]),.ret])
def QLf:List (bw × Md):=[(.t 4,.one .d),(.t 5,.one .d)]
theorem Q3E(y:List Int)(t:List Int):aR Tryz.prog 105 [(.c (.sl [TI]) y),(.c (.sl [TI]) t)] (PQ (ZO y t)):=by
 refine bD QSM QRr QLf 0 0 28 PR (kc QFP (kc O9 kn)) (λK =>
 (((0:Int)<=1)/\K (PQ ((Int.fdiv ((Q7 (List.take (((QV y t).1).length) (List.drop 0 ((QV y t).1))) (List.take (((QV y t).1).length) (List.drop 0 ((QV y t).1)))).1) (2 ^ (min (Int.toNat 1) (IntKind.i64.bits)))),(((QV y t).2)||((Q7 (List.take (((QV y t).1).length) (List.drop 0 ((QV y t).1))) (List.take (((QV y t).1).length) (List.drop 0 ((QV y t).1)))).2)))))) (λhb=>?_)
 exact⟨by omega,au (by simp only[List.drop_zero,List.take_length];rfl)⟩
theorem Q1M:Qf Tryz.prog PR:=Qh λx _=>Q3E x.1 x.2.1
def PS(t:Int × Bool):aJ:=cd (.tp [(aO t.1),(bH t.2)])
def PT:aP:=Qg 98 [(.c (.sl [TI])),(.c (.sl [TI]))] λx=>(none,PS (ZO x.1 x.2.1))
def QWF:aN:=⟨[Fe,wT],false⟩
def QU2:af :=
 (ag [(.ae [ab 4 (aw 0),ab 5 (bm false)]),(.ae [ab 11 0,ab 12 1,aL 13 107 [11,12],ab 10 13,bF 14 10 0,bF 15 10 1,ab 6 14,ab 7 15]),(.ae [ab 17 6,ab 18 6,aL 19 184 [17,18],ab 16 19,bF 20 16 0,bF 21 16 1,ab 8 20,ab 9 21]),(.ae [ab 22 8,az 23 .quo 22 (aw 2),ab 24 7,ab 25 24,.bj 25 false [ab 26 9] 27 26,ab 4 23,ab 5 27]),.ret])
def QLY:List (bw × Md):=[(.t 4,.one .d),(.t 5,.one .d)]
theorem QWI(y:List Int)(t:List Int):aR Tryz.prog 98 [(.c (.sl [TI]) y),(.c (.sl [TI]) t)] (PS (ZO y t)):=by
 refine bD QWF QU2 QLY 0 0 28 PT (kc Qu3 (kc Fp kn)) (λK =>
 ((¬ ((2:Int):Int)=0)/\K (PS (aI (Int.tdiv ((Q7 ((QV y t).1) ((QV y t).1)).1) (2:Int)),(((QV y t).2)||((Q7 ((QV y t).1) ((QV y t).1)).2)))))) (λhb=>?_)
 have h:=QQc (QV y t).1;have hf:=Dd.1 (Ll (QV y t).1 (QV y t).1);refine⟨by omega,au ?_⟩;unfold ZO;generalize(Q7 (QV y t).1 (QV y t).1).1=q at *;rw[Int.tdiv_eq_ediv_of_nonneg h,Qy (x:=q / 2) (by omega) (by omega),Int.fdiv_eq_ediv_of_nonneg _ (by omega)]
theorem QUT:Qf Tryz.prog PT:=Qh λx _=>QWI x.1 x.2.1
def Bd(t:(List (List Int)) × Bool):aJ:=⟨(.tp [(.r [(.sl [TI])] 0 0 ((t.1).length)),(bH t.2)]),[(.sl 106 [(.sl [TI])] (.dp 0 true []) t.1)],[],false,[]⟩
def FQ:aP:=Qg 73 [(.a [(.sl aK)]),(.c (.sl [TI]))] λx=>(none,Bd (oD x.1 x.2.1))
def PU:aN:=⟨[J4,wv,J1,nt,PL],true⟩
def QtB:af :=
 (ag [(.ae [az 30 .lss 29 28]),(.cond 30 .skip (.exit 0)),(.block 1 (ag [(.ae [ab 31 29,bn 32 27 29 aK,aZ 33 32 4,aD 9 (.new 134 (bC aK)),ab 8 31,a8 9 33 4]),(.draw [aZ 35 9 4,ab 36 6,ab 37 8,bn 38 36 37 [(.sl [TI])],an 39 38 0,ar 40 39 1,aL 41 170 [35,40],ab 34 41,bF 42 34 0,bF 43 34 1,ab 10 42,ab 11 43] []),(.ae [ab 44 6,ab 45 10,aD 46 (.build [(.n [TI])] [(0,1,45)]),aD 47 (.bO 106 [(.sl [TI])] [46]),aD 48 (.app 44 47 106 [(.sl [TI])]),ab 6 48]),(.ae [ab 49 7,ab 50 49,.bj 50 false [ab 51 11] 52 51,ab 7 52])])),(.ae [az 53 .add 29 (aw 1),ab 29 53])])
def Qvw:List (Nat × Md):=[(6,.one .f),(7,.one .d),(27,.one .d),(28,.one .d),(29,.one .d)]
def Qv1:af :=
 (ag [(.ae [ab 54 6,ab 55 7,ab 4 54,ab 5 55]),.ret])
def QJM:af :=
 (ag [(.ae [aD 2 (.box 77 0 1),ab 4 (.k (.n [(.sl [TI])])),ab 5 (bm false)]),(ag [(.ae [aZ 12 2 1,aL 13 167 [12],bL 14 13,ab 15 14,.bj 15 false [ab 16 1,aZ 17 2 1,aL 18 101 [17],aL 19 100 [16,18],bL 20 19] 21 20]),(.cond 21 (ag [(.ae [ab 4 (.k (.n [(.sl [TI])])),ab 5 (bm false)]),.ret]) .skip)]),(.ae [ab 22 1,aL 23 104 [22],aD 24 (.build [(.n [TI])] [(0,1,23)]),aD 25 (.bO 106 [(.sl [TI])] [24]),ab 6 25]),(.ae [ab 7 (bm false)]),(ag [(.ae [an 26 2 0,ar 27 26 1,bh 28 27,ab 29 (aw 0)]),(.block 0 (.loop Qvw QtB))]),Qv1])
def Qt2:List (bw × Md):=[(.t 4,.one (.p 106)),(.t 5,.one .d)]
def Qx7:Qb:=TQ 0 0 Qt2 K
def QMl:Qb:=ba (aU PU 0 Qv1 (Qx7 K)) (Qx7 K)
def QSS:Qb:=bf 0 (QMl K)
def FR(m:List aE)(out:Bool)(x1:Int)(rows:List (List Int)):Prop:=Loop PU 0 Qvw QtB (QSS K) ⟨[(6,(.r [(.sl [TI])] 0 0 rows.length)),(7,(bH out)),(27,(bu aK m)),(28,(aO (m.length:Int))),(29,(aO x1))],[(0,(.sl 106 [(.sl [TI])] (.dp 0 true []) rows))],1⟩
theorem QGv(m:List aE)(out:Bool)(x1:Int)(rows:List (List Int)) (h :
 (aS (decide (x1<(m.length:Int))) ((0<=x1/\Int.toNat x1<m.length)/\(((0<=x1/\Int.toNat x1<rows.length)/\((0+(Int.toNat x1))<rows.length))/\(((rows.length=rows.length\/rows.length+1<=rows.length)/\rows.length+1<=bP)/\(FR K m (out||((Yr (aq bY m (Int.toNat x1)) (aq ([]:List Int) rows (0+(Int.toNat x1)))).2)) (aI (x1+1)) (List.take (rows.length+1) ((List.take rows.length rows)++([(List.take (((Yr (aq bY m (Int.toNat x1)) (aq ([]:List Int) rows (0+(Int.toNat x1)))).1).length) (List.drop 0 ((Yr (aq bY m (Int.toNat x1)) (aq ([]:List Int) rows (0+(Int.toNat x1)))).1)))]))))))) (K (Bd ((List.take rows.length rows),out))))):FR K m out x1 rows :=
 Loop.of h
theorem QJP(m:List aE)(x:List Int):aR Tryz.prog 73 [(.a [(.c (.sl aK) m)]),(.c (.sl [TI]) x)] (Bd (oD m x)):=by
 refine bD PU QJM Qt2 0 0 56 FQ (kc oG (kc DL (kc nr (kc qg (kc QLL kn))))) (λK =>
 (aS ((!(QS m))||(!(Qr x (Zn m)))) (K (Bd (([]:List (List Int)),false))) ((QA (α:=List Int) x)/\(FR K m false 0 ([(List.take ((id (α:=List Int) x).length) (List.drop 0 (id (α:=List Int) x)))]))))) (λhb=>?_)
 refine⟨λh=>au (by unfold oD;rw[if_neg (by intro h2;simp at h2;simp[h2.1,h2.2]at h)]),λh=>?_⟩;have hp:QS m=true/\Qr x (Zn m)=true:=by simpa using h
 have hl:=Yp hp.1;have hx:=(ZY.1 (YN.1 hp.2).1).1;have hm:=LF hp.1 hp.2;rw[ub];refine⟨by unfold QA;rw[ZR];omega,?_⟩;refine Zd m (λr k=>∀(v:List (List Int))(z:Bool),v.length=k+1->(v.take k++(QF r (aq [] v k)).1,z||(QF r (aq [] v k)).2)=QF m x->FR (λr'=>r'=Bd (oD m x)) m z k v) ?_ ?_ [x] false rfl (by simp[aq])
 ·intro v z hv he;refine QGv _ _ _ _ _ ⟨λh=>by simp at h,λ_=>au ?_⟩;rw[hm,<- he,List.take_length];simp only[QF,Bool.or_false];rw[Dp [] hv]
 ·intro k o r hk aY hg ih v z hv he;refine QGv _ _ _ _ _ ⟨λ_=>?_,λh=>by simp at h;omega⟩;rw[Int.toNat_natCast,hg,Nat.zero_add,dv (by omega),Zc,uc];refine⟨⟨by omega,aY⟩,⟨⟨by omega,by omega⟩,by omega⟩,room (by omega),ih _ _ (Yz hv) ?_⟩;rw[XF [] _ hv,XG _ hv,<- he,QF];have:=Dp [] hv;simp only[Bool.or_assoc];rw[List.append_cons,this]
theorem QAM:Qf Tryz.prog FQ:=Qh λx _=>QJP x.1 x.2.1
def FT(t:(List (List Int)) × Bool):aJ:=f0 (.tp [(bu [(.sl [TI])] t.1),(bH t.2)])
def FU:aP:=Qg 64 [(.c (.sl aK)),(.c (.sl [TI]))] λx=>(some (Dj x.1 x.2.1),FT (QF x.1 x.2.1))
def PV:aN:=⟨[PM],false⟩
def QGT:af :=
 (ag [(ag [(.ae [ab 16 8,ab 17 0,bh 18 17,az 19 .lss 16 18]),(.cond 19 .skip (.exit 0))]),(.block 1 (ag [(.draw [ab 23 0,ab 24 8,bn 25 23 24 aK,aZ 26 25 4,ab 27 6,ab 28 8,bn 29 27 28 [(.sl [TI])],an 30 29 0,ar 31 30 1,aL 32 160 [26,31],ab 22 32,bF 33 22 0,bF 34 22 1,ab 9 33,ab 10 34] []),(.ae [ab 35 6,ab 36 9,aD 37 (.build [(.n [TI])] [(0,1,36)]),aD 38 (.bO 106 [(.sl [TI])] [37]),aD 39 (.app 35 38 106 [(.sl [TI])]),ab 6 39]),(.ae [ab 40 7,ab 41 40,.bj 41 false [ab 42 10] 43 42,ab 7 43])])),(.ae [ab 20 8,az 21 .add 20 (aw 1),ab 8 21])])
def QBT:List (Nat × Md):=[(0,.one .d),(6,.one .f),(7,.one .d),(8,.one .d)]
def Qul:af :=
 (ag [(.ae [ab 44 6,ab 45 7,ab 4 44,ab 5 45]),.ret])
def QJV:af :=
 (ag [(.ae [ab 4 (.k (.n [(.sl [TI])])),ab 5 (bm false)]),(.ae [aD 11 (.bO 3 [TI] []),ab 12 1,aD 13 (.app 11 12 3 [TI]),aD 14 (.build [(.n [TI])] [(0,1,13)]),aD 15 (.bO 106 [(.sl [TI])] [14]),ab 6 15]),(.ae [ab 7 (bm false)]),(ag [(.ae [ab 8 (aw 0)]),(.block 0 (.loop QBT QGT))]),Qul])
def Qui:List (bw × Md):=[(.t 4,.one .d),(.t 5,.one .d)]
def Qxc:Qb:=TQ 0 0 Qui K
def QKg:Qb:=ba (aU PV 0 Qul (Qxc K)) (Qxc K)
def Q0r:Qb:=bf 0 (QKg K)
def FV(ops:List aE)(sat:Bool)(i:Int)(out:List (List Int)):Prop:=Loop PV 0 QBT QGT (Q0r K) ⟨[(0,(bu aK ops)),(6,(.r [(.sl [TI])] 0 0 out.length)),(7,(bH sat)),(8,(aO i))],[(0,(.sl 106 [(.sl [TI])] .ow out))],1⟩
theorem QBK(ops:List aE)(sat:Bool)(i:Int)(out:List (List Int)) (h :
 (aS (decide (i<(ops.length:Int))) (((0<=i/\Int.toNat i<ops.length)/\((0<=i/\Int.toNat i<out.length)/\((0+(Int.toNat i))<out.length)))/\(((out.length=out.length\/out.length+1<=out.length)/\out.length+1<=bP)/\(FV K ops (sat||((Yr (aq bY ops (Int.toNat i)) (aq ([]:List Int) out (0+(Int.toNat i)))).2)) (aI (i+1)) (List.take (out.length+1) ((List.take out.length out)++([(Yr (aq bY ops (Int.toNat i)) (aq ([]:List Int) out (0+(Int.toNat i)))).1])))))) (K (FT ((List.take out.length (List.drop 0 out)),sat))))):FV K ops sat i out :=
 Loop.of h
theorem QXI(ops:List aE)(x:List Int)(hp:Dj ops x):aR Tryz.prog 64 [(.c (.sl aK) ops),(.c (.sl [TI]) x)] (FT (QF ops x)):=by
 refine bD PV QJV Qui 0 0 46 FU (kc QZK kn) (λK =>
 (((0=0\/0+x.length<=0)/\0+x.length<=bP)/\(FV K ops false 0 ([(List.take (0+x.length) (List.drop 0 (x:List Int)))])))) (λhb=>?_)
 obtain⟨gC,ig⟩:=hp;rw[ru];refine⟨⟨.inl rfl,by rw[QY];omega⟩,?_⟩;refine Zd ops (λr k=>∀(v:List (List Int))(z:Bool),v.length=k+1->(v.take k++(QF r (aq [] v k)).1,z||(QF r (aq [] v k)).2)=QF ops x->FV (λr'=>r'=FT (QF ops x)) ops z k v) ?_ ?_ [x] false rfl (by simp[aq])
 ·intro v z hv he;refine QBK _ _ _ _ _ ⟨λh=>by simp at h,λ_=>au ?_⟩;rw[<- he,uc];simp only[QF,Bool.or_false];rw[Dp [] hv]
 ·intro k o r hk aY hg ih v z hv he;refine QBK _ _ _ _ _ ⟨λ_=>?_,λh=>by simp at h;omega⟩;rw[Int.toNat_natCast,hg,Nat.zero_add,dv (by omega),Zc];refine⟨⟨⟨by omega,aY⟩,⟨by omega,by omega⟩,by omega⟩,room (by omega),ih _ _ (Yz hv) ?_⟩;rw[XF [] _ hv,XG _ hv,<- he,QF];have:=Dp [] hv;simp only[Bool.or_assoc];rw[List.append_cons,this]
theorem Qya:Qf Tryz.prog FU:=Qh λx h=>QXI x.1 x.2.1 h
def FW(t:(List (List Int)) × (List Int) × Bool):aJ:=⟨(.tp [(.r [(.sl [TI])] 0 0 ((t.1).length)),(.r [TI] 1 0 ((t.2.1).length)),(bH t.2.2)]),[(.sl 106 [(.sl [TI])] (.dp 0 true []) t.1),(.sl 3 [TI] (.dp 0 true []) t.2.1)],[],false,[]⟩
def PW:aP:=Qg 112 [(.c (.sl aK)),(.c (.sl [(.sl [TI])])),(.c (.sl [TI]))] λx=>(some (vZ x.1 x.2.1 x.2.2.1),FW (QN x.1 x.2.1 x.2.2.1))
def FX:aN:=⟨[PN],true⟩
def PX:af :=
 (ag [(ag [(.ae [ab 21 11,az 22 .geq 21 (aw 0)]),(.cond 22 .skip (.exit 0))]),(.block 1 (ag [(.draw [ab 26 0,ab 27 11,bn 28 26 27 aK,aZ 29 28 4,ab 30 1,ab 31 11,bn 32 30 31 [(.sl [TI])],an 33 32 0,ar 34 33 1,ab 35 2,aL 36 197 [29,34,35],ab 25 36,bF 37 25 0,bF 38 25 1,bF 39 25 2,ab 12 37,ab 13 38,ab 14 39] []),(.ae [ab 40 9,ab 41 11,ab 42 13,aD 43 (.build [(.n [TI])] [(0,1,42)]),bn 44 40 41 [(.sl [TI])],a8 44 43 1]),(.ae [ab 45 12,ab 2 45]),(.ae [ab 46 10,ab 47 46,.bj 47 false [ab 48 14] 49 48,ab 10 49])])),(.ae [ab 23 11,az 24 .sub 23 (aw 1),ab 11 24])])
def PY:List (Nat × Md):=[(0,.one .f),(1,.one .f),(2,.one .f),(9,.one .f),(10,.one .d),(11,.one .d)]
def QFf:af :=
 (ag [(.ae [ab 50 9,ab 51 2,ab 52 10,ab 6 50,ab 7 51,ab 8 52]),.ret])
def QQz:af :=
 (ag [(.ae [ab 6 (.k (.n [(.sl [TI])])),ab 7 (.k (.n [TI])),ab 8 (bm false)]),(.ae [ab 15 0,bh 16 15,aD 17 (.mk 106 [(.sl [TI])] [(.n [TI])] 16),ab 9 17]),(.ae [ab 10 (bm false)]),(ag [(.ae [ab 18 0,bh 19 18,az 20 .sub 19 (aw 1),ab 11 20]),(.block 0 (.loop PY PX))]),QFf])
def QIY:List (bw × Md):=[(.t 6,.one (.p 106)),(.t 7,.one (.p 3)),(.t 8,.one .d)]
def QvN:Qb:=TQ 0 0 QIY K
def QJ1:Qb:=ba (aU FX 0 QFf (QvN K)) (QvN K)
def QzG:Qb:=bf 0 (QJ1 K)
def FY(ops:List aE)(rows:List (List Int))(out:Bool)(i:Int)(d1:List Int)(fW:List (List Int)):Prop:=Loop FX 0 PY PX (QzG K) ⟨[(0,(bu aK ops)),(1,(bu [(.sl [TI])] rows)),(2,(.r [TI] 0 0 d1.length)),(9,(.r [(.sl [TI])] 1 0 fW.length)),(10,(bH out)),(11,(aO i))],[(0,(.sl 3 [TI] (.dp 0 true []) d1)),(1,(.sl 106 [(.sl [TI])] (.dp 0 true []) fW))],2⟩
def QH1(ops:List aE)(rows:List (List Int))(d:List Int):Prop:=Loop FX 0 PY PX (QzG K) ⟨[(0,(bu aK ops)),(1,(bu [(.sl [TI])] rows)),(2,(bu [TI] d)),(9,(.r [(.sl [TI])] 0 0 ((List.take (Int.toNat (ops.length:Int)) (List.replicate (Int.toNat (ops.length:Int)) ([]:List Int))).length))),(10,(bH false)),(11,(aO (aI ((ops.length:Int)-1))))],[(0,(.sl 106 [(.sl [TI])] (.dp 0 true []) (List.take (Int.toNat (ops.length:Int)) (List.replicate (Int.toNat (ops.length:Int)) ([]:List Int)))))],1⟩
theorem QCL(ops:List aE)(rows:List (List Int))(out:Bool)(i:Int)(d1:List Int)(fW:List (List Int)) (h :
 let z1:=Ym (aq bY ops (Int.toNat i)) (aq ([]:List Int) rows (Int.toNat i)) (List.take d1.length (List.drop 0 d1))
 (aS (decide (i>=0)) (((0<=i/\Int.toNat i<ops.length)/\(0<=i/\Int.toNat i<rows.length))/\(((0<=i/\Int.toNat i<fW.length)/\((0+(Int.toNat i))<fW.length))/\(FY K ops rows (out||(z1.2.2)) (aI (i-1)) (List.take ((z1.1).length) (z1.1)) (List.take fW.length ((fW).set (0+(Int.toNat i)) (List.take ((z1.2.1).length) (List.drop 0 (z1.2.1)))))))) (K (FW ((List.take fW.length fW),(List.take d1.length d1),out))))):FY K ops rows out i d1 fW :=
 Loop.of h
theorem QTb(ops:List aE)(rows:List (List Int))(d:List Int) (h :
 let z1:=List.take (Int.toNat (ops.length:Int)) (List.replicate (Int.toNat (ops.length:Int)) ([]:List Int))
 let z3:=aI ((ops.length:Int)-1)
 let z2:=Ym (aq bY ops (Int.toNat z3)) (aq ([]:List Int) rows (Int.toNat z3)) d
 (aS (decide (z3>=0)) (((0<=aI ((ops.length:Int)-1)/\Int.toNat z3<ops.length)/\(0<=aI ((ops.length:Int)-1)/\Int.toNat z3<rows.length))/\(((0<=aI ((ops.length:Int)-1)/\Int.toNat z3<z1.length)/\((0+(Int.toNat z3))<z1.length))/\(FY K ops rows (false||(z2.2.2)) (aI (z3-1)) (List.take ((z2.1).length) (z2.1)) (List.take (z1.length) ((z1).set (0+(Int.toNat z3)) (List.take ((z2.2.1).length) (List.drop 0 (z2.2.1)))))))) (K (⟨(.tp [(.r [(.sl [TI])] 0 0 ((List.take (z1.length) z1).length)),(bu [TI] d),(bH false)]),[(.sl 106 [(.sl [TI])] (.dp 0 true []) (List.take (z1.length) z1))],[],true,[]⟩)))):QH1 K ops rows d :=
 Loop.of h
theorem QQy(ops:List aE)(rows:List (List Int))(d:List Int)(hp:vZ ops rows d):aR Tryz.prog 112 [(.c (.sl aK) ops),(.c (.sl [(.sl [TI])]) rows),(.c (.sl [TI]) d)] (FW (QN ops rows d)):=by
 refine bD FX QQz QIY 0 0 53 PW (kc QRl kn) (λK =>
 ((0<=(ops.length:Int)/\(ops.length:Int)<=bP)/\(QH1 K ops rows d))) (λhb=>?_)
 obtain⟨⟨gC,ig⟩,hp3⟩:=hp;have Cu:ops.length<=4294967296:=ig;refine⟨⟨by omega,by rw[jV];omega⟩,?_⟩;have key:∀ j,j<ops.length->FY (λr'=>r'=FW (QN ops rows d)) ops rows ((QN (ops.drop j) (rows.drop j) d).2.2) ((j:Int)-1) ((QN (ops.drop j) (rows.drop j) d).2.1) (List.replicate j ([]:List Int)++(QN (ops.drop j) (rows.drop j) d).1):=by
  intro j
  induction j with
  | zero =>
   intro _;refine QCL _ _ _ _ _ _ _ ⟨λh=>by simp at h,λ_=>au ?_⟩;simp
  | succ j ih =>
   intro hj;obtain⟨a,s,ha⟩:=Y1 (l:=ops) (k:=j) (by omega);obtain⟨e,t,he⟩:=Y1 (l:=rows) (k:=j) (by omega);have jO:(QN (ops.drop (j+1)) (rows.drop (j+1)) d).1.length=ops.length-(j+1):=by rw[Dh _ _ _ (by simp;omega)];simp
   refine QCL _ _ _ _ _ _ _ ⟨λ_=>?_,λh=>by simp at h⟩;simp only[List.drop_zero,List.take_length];rw[show Int.toNat (((j+1:Nat):Int)-1)=j by omega,Nat.zero_add,Z2 ha,Z2 he,Qy (x:=((j+1:Nat):Int)-1-1) (by omega) (by omega),LD];have ih:=ih (by omega);rw[ha,he,<- ZW ha,<- ZW he,QN]at ih;refine⟨⟨⟨by omega,by omega⟩,by omega,by omega⟩,⟨⟨by omega,by simp[jO];omega⟩,by simp[jO];omega⟩,?_⟩;rw[List.take_of_length_le (by simp[jO];omega),Bool.or_comm,show((j+1:Nat):Int)-1-1=(j:Int)-1 by omega];exact ih
 obtain⟨j,hj⟩:∃ j,ops.length=j+1:=⟨ops.length-1,by omega⟩
 have h0:=key j (by omega);obtain⟨a,s,ha⟩:=Y1 (l:=ops) (k:=j) (by omega);obtain⟨e,t,he⟩:=Y1 (l:=rows) (k:=j) (by omega);have hs:s=[]:=by rw[<- ZW ha];exact List.drop_eq_nil_of_le (by omega)
 rw[ha,hs,he]at h0;simp only[QN,Bool.or_false]at h0;have hw:aI ((ops.length:Int)-1)=(j:Int):=by rw[Qy (by omega) (by omega)];omega
 have hr:List.take ops.length (List.replicate ops.length ([]:List Int))=List.replicate (j+1) []++[]:=by rw[List.take_of_length_le (by simp),hj];simp
 refine QTb _ _ _ _ ?_
 conv=>zeta
 simp only[hw,Int.toNat_natCast,hr,Nat.zero_add,Z2 ha,Z2 he,LD,List.take_length,List.drop_zero,Bool.false_or];rw[Qy (x:=(j:Int)-1) (by omega) (by omega)];refine⟨λ_=>?_,λh=>absurd h (by simp)⟩;refine⟨⟨⟨by omega,by omega⟩,by omega,by omega⟩,⟨⟨by omega,by simp⟩,by simp⟩,?_⟩;rw[List.take_of_length_le (by simp)];exact h0
theorem QOB:Qf Tryz.prog PW:=Qh λx h=>QQy x.1 x.2.1 x.2.2.1 h
def FZ(t:(List (List Int)) × (List Int) × Bool):aJ:=f0 (.tp [(bu [(.sl [TI])] t.1),(bu [TI] t.2.1),(bH t.2.2)])
def PZ:aP:=Qg 108 [(.c (.sl aK)),(.c (.sl [(.sl [TI])])),(.c (.sl [TI]))] λx=>(some (Le x.1 x.2.1 x.2.2.1),FZ (QN x.1 x.2.1 x.2.2.1))
def P0:aN:=⟨[PO],false⟩
def QB8:af :=
 (ag [(ag [(.ae [ab 21 11,az 22 .geq 21 (aw 0)]),(.cond 22 .skip (.exit 0))]),(.block 1 (ag [(.draw [ab 26 0,ab 27 11,bn 28 26 27 aK,aZ 29 28 4,ab 30 1,ab 31 11,bn 32 30 31 [(.sl [TI])],an 33 32 0,ar 34 33 1,ab 35 2,aL 36 193 [29,34,35],ab 25 36,bF 37 25 0,bF 38 25 1,bF 39 25 2,ab 12 37,ab 13 38,ab 14 39] []),(.ae [ab 40 9,ab 41 11,ab 42 13,aD 43 (.build [(.n [TI])] [(0,1,42)]),bn 44 40 41 [(.sl [TI])],a8 44 43 1]),(.ae [ab 45 12,ab 2 45]),(.ae [ab 46 10,ab 47 46,.bj 47 false [ab 48 14] 49 48,ab 10 49])])),(.ae [ab 23 11,az 24 .sub 23 (aw 1),ab 11 24])])
def QFb:List (Nat × Md):=[(0,.one .d),(1,.one .d),(2,.one .d),(9,.one .f),(10,.one .d),(11,.one .d)]
def QBN:af :=
 (ag [(.ae [ab 50 9,ab 51 2,ab 52 10,ab 6 50,ab 7 51,ab 8 52]),.ret])
def Q36:af :=
 (ag [(.ae [ab 6 (.k (.n [(.sl [TI])])),ab 7 (.k (.n [TI])),ab 8 (bm false)]),(.ae [ab 15 0,bh 16 15,aD 17 (.mk 106 [(.sl [TI])] [(.n [TI])] 16),ab 9 17]),(.ae [ab 10 (bm false)]),(ag [(.ae [ab 18 0,bh 19 18,az 20 .sub 19 (aw 1),ab 11 20]),(.block 0 (.loop QFb QB8))]),QBN])
def QAC:List (bw × Md):=[(.t 6,.one .d),(.t 7,.one .d),(.t 8,.one .d)]
def QEi:Qb:=TQ 0 0 QAC K
def QWZ:Qb:=ba (aU P0 0 QBN (QEi K)) (QEi K)
def QZ4:Qb:=bf 0 (QWZ K)
def F1(ops:List aE)(dF:List (List Int))(d1:List Int)(sat:Bool)(i:Int)(g:List (List Int)):Prop:=Loop P0 0 QFb QB8 (QZ4 K) ⟨[(0,(bu aK ops)),(1,(bu [(.sl [TI])] dF)),(2,(bu [TI] d1)),(9,(.r [(.sl [TI])] 0 0 g.length)),(10,(bH sat)),(11,(aO i))],[(0,(.sl 106 [(.sl [TI])] .ow g))],1⟩
theorem Qye(ops:List aE)(dF:List (List Int))(d1:List Int)(sat:Bool)(i:Int)(g:List (List Int)) (h :
 (aS (decide (i>=0)) (((0<=i/\Int.toNat i<ops.length)/\(0<=i/\Int.toNat i<dF.length))/\(((0<=i/\Int.toNat i<g.length)/\((0+(Int.toNat i))<g.length))/\(F1 K ops dF ((Ym (aq bY ops (Int.toNat i)) (aq ([]:List Int) dF (Int.toNat i)) d1).1) (sat||((Ym (aq bY ops (Int.toNat i)) (aq ([]:List Int) dF (Int.toNat i)) d1).2.2)) (aI (i-1)) (List.take g.length ((g).set (0+(Int.toNat i)) ((Ym (aq bY ops (Int.toNat i)) (aq ([]:List Int) dF (Int.toNat i)) d1).2.1)))))) (K (FZ ((List.take g.length (List.drop 0 g)),d1,sat))))):F1 K ops dF d1 sat i g :=
 Loop.of h
theorem QJt(ops:List aE)(dF:List (List Int))(d:List Int)(hp:Le ops dF d):aR Tryz.prog 108 [(.c (.sl aK) ops),(.c (.sl [(.sl [TI])]) dF),(.c (.sl [TI]) d)] (FZ (QN ops dF d)):=by
 refine bD P0 Q36 QAC 0 0 53 PZ (kc QWT kn) (λK =>
 ((0<=(ops.length:Int)/\(ops.length:Int)<=bP)/\(F1 K ops dF d false (aI ((ops.length:Int)-1)) (List.take (Int.toNat (ops.length:Int)) (List.replicate (Int.toNat (ops.length:Int)) ([]:List Int)))))) (λhb=>?_)
 obtain⟨gC,ig⟩:=hp;have Cu:ops.length<=4294967296:=ig;refine⟨⟨by omega,by rw[jV];omega⟩,?_⟩;rw[Qy (x:=(ops.length:Int)-1) (by omega) (by omega),Int.toNat_natCast,List.take_of_length_le (by simp)];have key:∀ j,j<=ops.length->F1 (λr'=>r'=FZ (QN ops dF d)) ops dF ((QN (ops.drop j) (dF.drop j) d).2.1) ((QN (ops.drop j) (dF.drop j) d).2.2) ((j:Int)-1) (List.replicate j ([]:List Int)++(QN (ops.drop j) (dF.drop j) d).1):=by
  intro j
  induction j with
  | zero =>
   intro _;refine Qye _ _ _ _ _ _ _ ⟨λh=>by simp at h,λ_=>au ?_⟩;simp
  | succ j ih =>
   intro hj;obtain⟨a,s,ha⟩:=Y1 (l:=ops) (k:=j) (by omega);obtain⟨e,t,he⟩:=Y1 (l:=dF) (k:=j) (by omega);have jO:(QN (ops.drop (j+1)) (dF.drop (j+1)) d).1.length=ops.length-(j+1):=by rw[Dh _ _ _ (by simp;omega)];simp
   refine Qye _ _ _ _ _ _ _ ⟨λ_=>?_,λh=>by simp at h⟩;rw[show Int.toNat (((j+1:Nat):Int)-1)=j by omega,Nat.zero_add,Z2 ha,Z2 he,Qy (x:=((j+1:Nat):Int)-1-1) (by omega) (by omega),LD];have ih:=ih (by omega);rw[ha,he,<- ZW ha,<- ZW he,QN]at ih;refine⟨⟨⟨by omega,by omega⟩,by omega,by omega⟩,⟨⟨by omega,by simp[jO];omega⟩,by simp[jO];omega⟩,?_⟩;rw[List.take_of_length_le (by simp[jO];omega),Bool.or_comm,show((j+1:Nat):Int)-1-1=(j:Int)-1 by omega];exact ih
 have h0:=key ops.length (Nat.le_refl _);rw[List.drop_length]at h0;simpa[QN]using h0
theorem QTn:Qf Tryz.prog PZ:=Qh λx h=>QJt x.1 x.2.1 x.2.2.1 h
end
end Go.Proofs.YtdplaepmjogjjaaGreat.Am

set_option linter.all false
namespace Go.Proofs.YtdplaepmjogjjaaGreat.Am
open Go Sz
def Zv(m:Zo)(aA:List Int)(s:Nat):Nat:=if s=0 then 0 else if s<=aA.length then(aq 0 aA (s-1)).toNat else m.length
def Yj(m:Zo)(aA:List Int)(s:Nat):List aE:=(m.drop (Zv m aA s)).take (Zv m aA (s+1)-Zv m aA s)
section
variable {m:Zo} {aA:List Int} (hc:Zr m aA=true)
include hc
theorem F2{s:Nat}(hs:s<=aA.length):Zv m aA s<Zv m aA (s+1):=by
 have hl:=oB hc;have hg:YH (m.length-1) none aA=true:=by have:=hc;simp only[Zr,Bool.and_eq_true]at this;exact this.2
 have h1:∀ k:Nat,k<aA.length->1<=aq 0 aA k/\aq 0 aA k<=(m.length:Int)-1:=λk hk=>by
  have:=tT hg k _ (Y4 hk 0);omega
 have h2:∀ k:Nat,k+1<aA.length->aq 0 aA k<aq 0 aA (k+1):=λk hk=>K6 hg k _ _ (Y4 (by omega) 0) (Y4 hk 0);unfold Zv;rw[if_neg (Nat.succ_ne_zero s)];by_cases h0:s=0
 ·subst h0;rw[if_pos rfl]
  split
  ·have:=h1 0 (by omega);simp;omega
  ·omega
 ·rw[if_neg h0,if_pos hs];have h3:=h1 (s-1) (by omega)
  split
  ·have h4:=h2 (s-1) (by omega);rw[show s-1+1=s by omega]at h4;rw[show s+1-1=s by omega];omega
  ·omega
theorem QzV{s:Nat}:Zv m aA s<=m.length:=by
 have hl:=oB hc;have hg:YH (m.length-1) none aA=true:=by have:=hc;simp only[Zr,Bool.and_eq_true]at this;exact this.2
 unfold Zv
 split
 ·omega
 ·split
  ·have:=tT hg (s-1) _ (Y4 (by omega) 0);omega
  ·omega
theorem uO:Zv m aA (aA.length+1)=m.length:=by have _:=hc;unfold Zv;rw[if_neg (by omega),if_neg (by omega)]
theorem QOm{s:Nat}(hs:s<=aA.length):QG m aA (s:Int)=((Zv m aA s:Int),(Zv m aA (s+1):Int)):=by
 have hl:=oB hc;have hg:YH (m.length-1) none aA=true:=by have:=hc;simp only[Zr,Bool.and_eq_true]at this;exact this.2
 have h1:∀ k:Nat,k<aA.length->1<=aq 0 aA k/\aq 0 aA k<=(m.length:Int)-1:=λk hk=>by
  have:=tT hg k _ (Y4 hk 0);omega
 unfold QG;rw[if_pos (by rw[hc,Bool.true_and,QW];omega)];unfold Zv;refine Prod.ext ?_ ?_
 ·dsimp only;by_cases h0:s=0
  ·subst h0;simp
  ·rw[if_pos (by omega),if_neg h0,if_pos hs,Int.toNat_natCast];have:=h1 (s-1) (by omega);omega
 ·dsimp only;rw[if_neg (Nat.succ_ne_zero s)];by_cases h2:s<aA.length
  ·rw[if_pos (by omega),if_pos (by omega),Int.toNat_natCast,show s+1-1=s by omega];have:=h1 s h2;omega
  ·rw[if_neg (by omega),if_neg (by omega)]
theorem QTz{s:Nat}(hs:s<=aA.length):slice m (QG m aA (s:Int)).1 (QG m aA (s:Int)).2=Yj m aA s:=by
 rw[QOm hc hs];simp[slice,Yj]
theorem Q0Z{s:Nat}(hs:s<=aA.length):(Yj m aA s).length=Zv m aA (s+1)-Zv m aA s:=by
 have:=QzV hc (s:=s+1);have:=F2 hc hs;unfold Yj;simp;omega
theorem F3{s:Nat}(hs:s<=aA.length):1<=(Yj m aA s).length/\(Yj m aA s).length<=8:=by
 rw[Q0Z hc hs];have:=QzV hc (s:=s+1);have:=F2 hc hs;have:=(oB hc).2.1;omega
theorem Q1A{s:Nat}(hs:s<=aA.length):m.take (Zv m aA (s+1))=m.take (Zv m aA s)++Yj m aA s:=by
 have:=F2 hc hs;unfold Yj;rw[<- List.take_add,show Zv m aA s+(Zv m aA (s+1)-Zv m aA s)=Zv m aA (s+1) by omega]
theorem w1{s:Nat}(hs:s<=aA.length):m.drop (Zv m aA s)=Yj m aA s++m.drop (Zv m aA (s+1)):=by
 have:=F2 hc hs;unfold Yj;have h:=List.take_append_drop (Zv m aA (s+1)-Zv m aA s) (m.drop (Zv m aA s));rw[List.drop_drop,show Zv m aA s+(Zv m aA (s+1)-Zv m aA s)=Zv m aA (s+1) by omega]at h;exact h.symm
end
def jZ(m:Zo)(aA:List Int)(x:List Int)(s:Nat):List Int:=ZX (m.take (Zv m aA s)) x
def rQ(m:Zo)(aA:List Int)(x:List Int)(s:Nat):List (List Int):=(QF (Yj m aA s) (jZ m aA x s)).1
def nz(m:Zo)(aA:List Int)(x:List Int)(s:Nat):Bool:=(QF (Yj m aA s) (jZ m aA x s)).2
def J9(m:Zo)(aA:List Int)(p:Qi)(s:Nat):List (List Int) × List Int × Bool :=
 QN (m.drop (Zv m aA s)) (QF (m.drop (Zv m aA s)) (jZ m aA p.1 s)).1 (QV (ZX m p.1) p.2).1
def jl(m:Zo)(aA:List Int)(p:Qi)(s:Nat):List Int:=(J9 m aA p s).2.1
def nA(m:Zo)(aA:List Int)(p:Qi)(s:Nat):List (List Int) × List Int × Bool:=QN (Yj m aA s) (rQ m aA p.1 s) (jl m aA p (s+1))
section
variable {m:Zo} {aA:List Int} (hc:Zr m aA=true)
include hc
theorem Qwh(x:List Int):jZ m aA x 0=x:=by have _:=hc;unfold jZ Zv;simp[Dg]
theorem F4(x:List Int):jZ m aA x (aA.length+1)=ZX m x:=by unfold jZ;rw[uO hc,List.take_length]
theorem P1{s:Nat}(hs:s<=aA.length)(x:List Int):jZ m aA x (s+1)=ZX (Yj m aA s) (jZ m aA x s):=by
 unfold jZ;rw[Q1A hc hs,QOD]
theorem Qv6{s:Nat}(hs:s<=aA.length)(p:Qi) :
  J9 m aA p s=((nA m aA p s).1++(J9 m aA p (s+1)).1,(nA m aA p s).2.1,(nA m aA p s).2.2||(J9 m aA p (s+1)).2.2):=by
 unfold nA rQ jl;have e:=P1 hc hs p.1
 conv=>lhs;unfold J9
 rw[w1 hc hs,QWm];unfold J9;rw[e]
theorem QSK{s:Nat}(hs:s<=aA.length)(p:Qi):jl m aA p s=(nA m aA p s).2.1:=by unfold jl;rw[Qv6 hc hs]
theorem QLD(p:Qi):jl m aA p (aA.length+1)=(QV (ZX m p.1) p.2).1:=by
 unfold jl J9;rw[uO hc,List.drop_length];simp[QN]
theorem Qw4(p:Qi):∀(k s:Nat),s+k=aA.length+1->
  (J9 m aA p s).1=(List.range' s k).flatMap (λj=>(nA m aA p j).1)/\(J9 m aA p s).2.2=(List.range' s k).any (λj=>(nA m aA p j).2.2)
 | 0,s,h=>by
  have:s=aA.length+1:=by omega
  subst this;unfold J9;rw[uO hc,List.drop_length];simp[QN]
 | k+1,s,h=>by
  have ih:=Qw4 p k (s+1) (by omega);rw[Qv6 hc (by omega)];simp only[List.range'_succ,List.flatMap_cons,List.any_cons,ih.1,ih.2,and_self]
theorem Qy8(x:List Int):∀(k s:Nat),s+k=aA.length+1->(QF (m.drop (Zv m aA s)) (jZ m aA x s)).2=(List.range' s k).any (λj=>nz m aA x j)
 | 0,s,h=>by
  have:s=aA.length+1:=by omega
  subst this;rw[uO hc,List.drop_length];rfl
 | k+1,s,h=>by
  have ih:=Qy8 x k (s+1) (by omega);rw[w1 hc (by omega),Lq];simp only[List.range'_succ,List.any_cons];rw[<- P1 hc (by omega),ih];rfl
end
end Go.Proofs.YtdplaepmjogjjaaGreat.Am
namespace Go.Proofs.YtdplaepmjogjjaaGreat.Am
open Go Sz
structure ql(c:QC)(b:List Qi):Prop where
 model:QS (Q8 c)=true
 batch:Z5 (Q8 c) b=true
 aA:Zr (Q8 c) (Zh c)=true
 ak:(Zh c).length+1<=4
 ds:1<=lP c/\lP c<=2
 a0:(nh c).length=(Zh c).length+1
 uP:YE c=true
 uQ:Y9 c b.length=true
theorem Be{c:QC}{b:List Qi}(h:Zp c b=0):ql c b:=by
 unfold Zp at h;have hs:=tW (c:=c)
 split at h
 ·simp at h
 split at h
 ·simp at h
 split at h
 ·simp at h
 split at h
 ·simp at h
 split at h
 ·simp at h
 split at h
 ·simp at h
 split at h
 ·simp at h
 rename_i h1 h2 h3 h4 h5 h6 h7;have hc:=hs.2.2.1.1 (by omega);have e:=hs.2.2.2 hc;have qK:aT (lP c) 1 2=true:=by simpa using h4
 exact⟨by simpa using h1,by simpa using h2,hc,by have:=e;simp only[Zh];omega,QW.1 qK,by have:=e;simp only[Zh,nh];omega,by simpa using h6,by simpa using h7⟩
theorem QYj{c:QC}{b:List Qi}(A:ql c b):Zp c b=0:=by
 have hs:=tW (c:=c);have e:=hs.2.2.2 A.aA;have h4:=A.ak;have hr:=A.a0;simp only[Zh,nh]at h4 hr;unfold Zp;rw[if_neg (by simp[A.model]),if_neg (by simp[A.batch]),if_neg (by omega),if_neg (by have:=QW.2 A.ds;simp[this]),if_neg (by simp;omega),if_neg (by simp[A.uP]),if_neg (by simp[A.uQ])]
def bG(c:QC):Nat:=(Zh c).length+1
abbrev b9(b:List Qi)(k:Nat):Qi:=aq QP b k
def fg(m:Zo)(aA:List Int)(s:Nat):Int:=if s<=aA.length then Zn (Yj m aA s) else Za m
section
variable {m:Zo} {aA:List Int} (hc:Zr m aA=true)
include hc
theorem QPs:QS m=true:=by have:=hc;simp only[Zr,Bool.and_eq_true]at this;exact this.1
theorem F5{s:Nat}(hs:s<=aA.length+1):Z9 (Zn m) (m.take (Zv m aA s)) (fg m aA s)/\Z9 (fg m aA s) (m.drop (Zv m aA s)) (Za m):=by
 obtain⟨_,_,h⟩:=QMm (QPs hc);have h':=h;rw[<- List.take_append_drop (Zv m aA s) m]at h';have eg:Z9 (Zn m) (m.take (Zv m aA s)++m.drop (Zv m aA s)) (Za m):=by rw[List.take_append_drop];exact h
 obtain⟨k,h1,h2⟩:=Z9.append.1 eg;have hk:k=fg m aA s:=by
  unfold fg;by_cases h3:s<=aA.length
  ·rw[if_pos h3];rw[w1 hc h3]at h2;obtain⟨k2,h4,h5⟩:=Z9.append.1 h2;have hp:=F3 hc h3;exact(Di h4 hp.1 hp.2).2.1.symm
  ·have es:s=aA.length+1:=by omega
   subst es;rw[uO hc,List.drop_length]at h2;rw[if_neg h3];exact h2
 rw[<- hk];exact⟨h1,h2⟩
theorem P2{s:Nat}(hs:s<=aA.length):Z9 (fg m aA s) (Yj m aA s) (fg m aA (s+1)):=by
 obtain⟨_,h2⟩:=F5 hc (s:=s) (by omega);rw[w1 hc hs]at h2;obtain⟨k2,h4,h5⟩:=Z9.append.1 h2;have:k2=fg m aA (s+1):=by
  obtain⟨h6,h7⟩:=F5 hc (s:=s+1) (by omega);by_cases h8:s+1<=aA.length
  ·have hp:=F3 hc h8;rw[w1 hc h8]at h5;obtain⟨k3,h9,_⟩:=Z9.append.1 h5;unfold fg;rw[if_pos h8];exact(Di h9 hp.1 hp.2).2.1.symm
  ·rw[show s+1=aA.length+1 by omega,uO hc,List.drop_length]at h5;unfold fg;rw[if_neg h8];exact h5
 rw[<- this];exact h4
theorem QXp{s:Nat}(hs:s<=aA.length):QS (Yj m aA s)=true/\Zn (Yj m aA s)=fg m aA s/\Za (Yj m aA s)=fg m aA (s+1):=by
 have hp:=F3 hc hs;exact Di (P2 hc hs) hp.1 hp.2
theorem QtE:fg m aA (aA.length+1)=Za m:=by have _:=hc;unfold fg;rw[if_neg (by omega)]
variable {p:Qi} (hp:Jb m p=true)
include hp
theorem P3:Qr p.1 (Zn m)=true/\Qr p.2 (Za m)=true:=by
 have _:=hc;simp only[Jb,Bool.and_eq_true]at hp;exact⟨hp.1.2,hp.2⟩
theorem Bf{s:Nat}(hs:s<=aA.length+1):Qr (jZ m aA p.1 s) (fg m aA s)=true:=Xr (F5 hc hs).1 (P3 hc hp).1
theorem Q2S:Qr (ZX m p.1) (Za m)=true:=by
 have:=Bf hc hp (s:=aA.length+1) (by omega);rwa [F4 hc,QtE hc]at this
theorem QTg:Qr (QV (ZX m p.1) p.2).1 (Za m)=true:=by
 have h1:=Q2S hc hp;have h2:=(P3 hc hp).2;have:=QV5 (Ln h1 h2);rwa [(YN.1 h1).2]at this
theorem QGb{s:Nat}(hs:s<=aA.length+1):Qr (jl m aA p s) (fg m aA s)=true:=(Ls (F5 hc hs).2 (Bf hc hp hs) (QTg hc hp)).1
theorem QNR{s:Nat}(hs:s<=aA.length):Z1 (Yj m aA s) (nA m aA p s).1=true/\(nA m aA p s).1.length=(Yj m aA s).length :=
 ⟨(Ls (P2 hc hs) (Bf hc hp (by omega)) (QGb hc hp (by omega))).2,Dh _ _ _ (by unfold rQ;rw[t8];omega)⟩
theorem QBh{s:Nat}(hs:s<=aA.length):Yd (Yj m aA s) 0 (rQ m aA p.1 s)=true :=
 QMw (P2 hc hs) (by have:=F3 hc hs;intro e;rw[e]at this;simp at this) (Bf hc hp (by omega))
theorem P4{s:Nat}:(rQ m aA p.1 s).length=(Yj m aA s).length+1:=by have _:=hc;have _:=hp;exact t8 _ _
theorem QQ4{s:Nat}:aq [] (rQ m aA p.1 s) 0=jZ m aA p.1 s:=by have _:=hc;have _:=hp;exact QLa _ _
theorem QxD{s:Nat}(hs:s<=aA.length):aq [] (rQ m aA p.1 s) (Yj m aA s).length=jZ m aA p.1 (s+1):=by have _:=hp;rw[P1 hc hs];rfl
end
end Go.Proofs.YtdplaepmjogjjaaGreat.Am
namespace Go.Proofs.YtdplaepmjogjjaaGreat.Am
open Go Sz
section
variable (c:QC) (b:List Qi)
def YK(s:Nat):Bool:=aq false (nh c) s
def YM(s:Nat):List bE:=Z7 (lP c) (bG c:Nat) s b.length (YK c s)
abbrev dZ(s:Nat):List aE:=Yj (Q8 c) (Zh c) s
abbrev fE(s j:Nat):List Int:=jZ (Q8 c) (Zh c) (b9 b j).1 s
abbrev fL(s j:Nat):List (List Int):=rQ (Q8 c) (Zh c) (b9 b j).1 s
abbrev jm(s j:Nat):List Int:=jl (Q8 c) (Zh c) (b9 b j) s
abbrev jn(s j:Nat):=nA (Q8 c) (Zh c) (b9 b j) s
abbrev gO(j:Nat):List Int:=ZX (Q8 c) (b9 b j).1
def Zf(s:Nat):Bool:=decide (s+1=bG c)
def oJ(s:Nat)(r:List (List Int)):List (List Int):=if YK c s then r.take 1 else r
def JD(s:Nat):Nat->List (List Int)
 | 0=>(ZA (dZ c s)).1
 | g+1=>(Zg (JD s g) (jn c b s g).1).1
def YQ:Nat->Int
 | 0=>0
 | f+1=>(Q4 (YQ f) (ZO (gO c b f) (b9 b f).2).1).1
def qm(f:Nat):Bool:=(ZO (gO c b f) (b9 b f).2).2||(Q4 (YQ c b f) (ZO (gO c b f) (b9 b f).2).1).2
def w3(s j:Nat):Bool:=nz (Q8 c) (Zh c) (b9 b j).1 s||(Zf c s&&qm c b j)
def Bg(s j:Nat):Bool:=(jn c b s j).2.2||(Zg (JD c b s j) (jn c b s j).1).2||(Zf c s&&(QV (gO c b j) (b9 b j).2).2)
def fh(s f g:Nat):Bool:=(List.range f).any (w3 c b s)||(List.range g).any (Bg c b s)
def YA(s f g:Nat):List ZI:=(List.range' g (f-g)).map λj:Nat=>((j:Int),oJ c s (fL c b s j))
def J7(s g:Nat)(k1:Int):List (List Int):=if k1=5 then fL c b s g else []
def vX(s f:Nat)(k1:Int):List Int:=if k1=1 then fE c b s f else []
def vY(s f:Nat)(k1:Int):List Int:=if k1=2/\s+1<bG c then fE c b (s+1) (f-1) else []
def vG(s g:Nat)(k1:Int):List Int:=if k1=4\/(k1=5/\s+1<bG c) then jm c b (s+1) g else []
def vD(s g:Nat)(k1:Int):List Int:=if k1=6/\0<s then jm c b s (g-1) else []
def st(s:Nat)(k f g:Nat)(k1:Int):Qc :=
 ((k:Int),YM c b s,dZ c s,Zf c s,YK c s,YA c b s f g,J7 c b s g k1,vX c b s f k1,vY c b s f k1,vG c b s g k1,vD c b s g k1,JD c b s g,(if Zf c s then YQ c b f else 0),fh c b s f g)
end
structure nB(M f g:Nat)(kk:Int):Prop where
 gf:g<=f
 fM:f<=M
 k1:kk=1->f<M
 k2:kk=2->1<=f
 k45:kk=4\/kk=5->g<f
 k6:kk=6->1<=g
theorem QuG:∀ {l:List ZI} {m k:Int},(∀ x,x∈l->x.1≠m)->Jr l m k = -1
 | [],m,k,h=>rfl
 | x::r,m,k,h=>by rw[Jr,if_neg (h x List.mem_cons_self)];exact QuG (λy hy=>h y (List.mem_cons_of_mem _ hy))
theorem QKt{c:QC}{b:List Qi}{s f g:Nat}:QJ (YA c b s f g) (f:Int) = -1:=by
 refine QuG (λx hx=>?_);unfold YA at hx;obtain⟨j,hj,rfl⟩:=List.mem_map.1 hx;rw[List.mem_range'_1]at hj;simp only[ne_eq];omega
theorem F6{c:QC}{b:List Qi}{s f g:Nat}(h:g<f):YA c b s f g=((g:Int),oJ c s (fL c b s g))::YA c b s f (g+1):=by
 unfold YA;rw[show f-g=(f-(g+1))+1 by omega,List.range'_succ,List.map_cons]
theorem QJo{c:QC}{b:List Qi}{s f g:Nat}(h:g<=f):YA c b s (f+1) g=YA c b s f g++[((f:Int),oJ c s (fL c b s f))]:=by
 unfold YA;rw[show f+1-g=(f-g)+1 by omega,List.range'_concat,List.map_append];simp only[List.map_cons,List.map_nil,Nat.one_mul];rw[show g+(f-g)=f by omega]
theorem QIN{c:QC}{b:List Qi}{s f g:Nat}(h:g<f):QJ (YA c b s f g) (g:Int)=0:=by
 rw[F6 h];unfold QJ;rw[Jr,if_pos rfl]
theorem oK{c:QC}{b:List Qi}{s g:Nat}{k1:Int}(h:k1≠5):J7 c b s g k1=[]:=by unfold J7;rw[if_neg h]
theorem oL{c:QC}{b:List Qi}{s f:Nat}{k1:Int}(h:k1≠1):vX c b s f k1=[]:=by unfold vX;rw[if_neg h]
theorem nC{c:QC}{b:List Qi}{s f:Nat}{k1:Int}(h:¬ (k1=2/\s+1<bG c)):vY c b s f k1=[]:=by unfold vY;rw[if_neg h]
theorem rR{c:QC}{b:List Qi}{s g:Nat}{k1:Int}(h4:k1≠4)(h5:k1≠5):vG c b s g k1=[]:=by
 unfold vG;rw[if_neg];rintro(e | e)
 ·exact h4 e
 ·exact h5 e.1
theorem nD{c:QC}{b:List Qi}{s g:Nat}{k1:Int}(h:¬ (k1=6/\0<s)):vD c b s g k1=[]:=by unfold vD;rw[if_neg h]
theorem JS{p:Prop}{x y:Int}(h:x≠y):¬ (x=y/\p):=λe=>h e.1
theorem QOp{c:QC}{b:List Qi}{s f:Nat}:vX c b s f 1=fE c b s f:=by unfold vX;rw[if_pos rfl]
theorem QKd{c:QC}{b:List Qi}{s g:Nat}:vG c b s g 4=jm c b (s+1) g:=by unfold vG;rw[if_pos (.inl rfl)]
section
variable {c:QC} {b:List Qi} (A:ql c b)
include A
theorem qn:1<=b.length/\b.length<=5:=by
 have:=A.batch;simp only[Z5,Bool.and_eq_true,QW]at this;omega
theorem oM{j:Nat}(hj:j<b.length):Jb (Q8 c) (b9 b j)=true:=by
 have:=A.batch;simp only[Z5,Bool.and_eq_true]at this;exact List.all_eq_true.1 this.2 _ (Js hj QP)
theorem QWH(f:Nat):Zj (YQ c b f)=true:=by
 have _:=A
 cases f with
 | zero=>rfl
 | succ f=>exact Lj _ _
theorem QJj(s f:Nat):Zj (if Zf c s then YQ c b f else 0)=true:=by
 split
 ·exact QWH A f
 ·rfl
theorem w4{s:Nat}(hs:s<bG c):QS (dZ c s)=true/\Zn (dZ c s)=fg (Q8 c) (Zh c) s/\Za (dZ c s)=fg (Q8 c) (Zh c) (s+1):=QXp A.aA (by simp only[bG]at hs;omega)
theorem QKJ{s:Nat}(hs:s<bG c):(ZA (dZ c s)).1.length=(dZ c s).length/\Z1 (dZ c s) (ZA (dZ c s)).1=true:=by
 unfold ZA;rw[if_pos (w4 A hs).1];simp only[List.length_map,true_and];generalize dZ c s=l
 induction l with
 | nil=>rfl
 | cons o l ih=>simp[Z1,ih]
theorem Qug{s j:Nat}(hs:s<bG c)(hj:j<b.length):(jn c b s j).1.length=(dZ c s).length/\Z1 (dZ c s) (jn c b s j).1=true:=by
 have:=QNR A.aA (oM A hj) (s:=s) (by simp only[bG]at hs;omega);exact⟨this.2,this.1⟩
theorem P5{s:Nat}(hs:s<bG c):∀ {g:Nat},g<=b.length->(JD c b s g).length=(dZ c s).length/\Z1 (dZ c s) (JD c b s g)=true
 | 0,_=>QKJ A hs
 | g+1,hg=>by
  obtain⟨h1,h2⟩:=P5 hs (g:=g) (by omega);obtain⟨h3,h4⟩:=Qug A hs (j:=g) (by omega);refine⟨?_,Xv h1 h3 h2 h4⟩;show(Zg _ _).1.length=_;rw[Xu];omega
theorem Bh{s j:Nat}(hs:s<=bG c)(hj:j<b.length):Qr (fE c b s j) (fg (Q8 c) (Zh c) s)=true:=Bf A.aA (oM A hj) hs
theorem Bi{s j:Nat}(hs:s<=bG c)(hj:j<b.length):Qr (jm c b s j) (fg (Q8 c) (Zh c) s)=true:=QGb A.aA (oM A hj) hs
theorem F7{s k f g:Nat}{k1:Int}(hs:s<bG c)(hk:k<=(YM c b s).length)(H:nB b.length f g k1):QU (st c b s k f g k1)=true:=by
 obtain⟨hm,hi,ho⟩:=w4 A hs;have mS:s<=(Zh c).length:=by simp only[bG]at hs;omega
 have hsr:=P5 A hs (g:=g) (by have:=H.gf;have:=H.fM;omega);have hX:Ye (vX c b s f k1) (Zn (dZ c s))=true:=by
  unfold vX Ye;split
  ·rename_i h;rw[hi,Bh A (by omega) (H.k1 h)];simp
  ·simp
 have hY:Ye (vY c b s f k1) (Za (dZ c s))=true:=by
  unfold vY Ye;split
  ·rename_i h;rw[ho,Bh A (by omega) (by have:=H.k2 h.1;have:=H.fM;omega)];simp
  ·simp
 have hG:Ye (vG c b s g k1) (Za (dZ c s))=true:=by
  unfold vG Ye;split
  ·rename_i h;have:g<f:=H.k45 (h.imp id (λh=>h.1));rw[ho,Bi A (by omega) (by have:=H.fM;omega)];simp
  ·simp
 have hD:Ye (vD c b s g k1) (Zn (dZ c s))=true:=by
  unfold vD Ye;split
  ·rename_i h;rw[hi,Bi A (by omega) (by have:=H.k6 h.1;have:=H.gf;have:=H.fM;omega)];simp
  ·simp
 have fS:(YA c b s f g).all (YC (st c b s k f g k1))=true:=by
  rw[List.all_eq_true];intro x hx;unfold YA at hx;obtain⟨j,hj,rfl⟩:=List.mem_map.1 hx;rw[List.mem_range'_1]at hj;have Bj:j<b.length:=by have:=H.fM;omega
  have hg:=QBh A.aA (oM A Bj) mS;have hl:(fL c b s j).length=(dZ c s).length+1:=P4 A.aA (oM A Bj);have ek:Z4 (st c b s k f g k1)=if YK c s=true then 1 else((dZ c s).length:Int)+1:=rfl;have eo:(st c b s k f g k1).2.2.1=dZ c s:=rfl;unfold YC Yg;rw[ek,eo];simp only[Bool.and_eq_true,beq_iff_eq];unfold oJ;by_cases hr:YK c s=true
  ·simp only[if_pos hr];refine⟨by rw[List.length_take,hl,Nat.min_eq_left (by omega)];rfl,?_⟩;exact zQ _ _ _ _ (zQ _ _ _ _ hg)
  ·simp only[if_neg hr];exact⟨congrArg Int.ofNat hl,zQ _ _ _ _ hg⟩
 simp only[QU,Bool.and_eq_true];refine⟨⟨⟨⟨hm,?_⟩,?_⟩,fS⟩,⟨⟨hX,hD⟩,hY⟩,hG⟩
 ·simp only[st,QW];omega
 ·simp only[st,Jo,Bool.and_eq_true,beq_iff_eq];exact hsr
theorem QQ9{s k f g:Nat}{k1:Int}(h2:¬ (k1=2/\s+1<bG c))(h4:k1≠4)(h5:k1≠5)(h6:¬ (k1=6/\0<s)) :
  YB (f6 (st c b s k f g k1) (fE c b s f)) ((k:Int)+1)=st c b s (k+1) f g 1:=by
 have _:=A;simp only[YB,f6,f7,f9,eE,st,bT,Qx,aM,Qn,Qq,Qe,Qz,sX,sY,sG,sD,Qt,Qo,bg];rw[oK h5,nC h2,rR h4 h5,nD h6,oK (k1:=1) (by decide),QOp,nC (k1:=1) (JS (by decide)),rR (k1:=1) (by decide) (by decide),nD (k1:=1) (JS (by decide))];rfl
theorem QUC{s k f g:Nat}{k1:Int}(h1:k1=2):YB (f7 (st c b s k f g k1) []) ((k:Int)+1)=st c b s (k+1) f g 3:=by
 have _:=A;subst h1;simp only[YB,f6,f7,f9,eE,st,bT,Qx,aM,Qn,Qq,Qe,Qz,sX,sY,sG,sD,Qt,Qo,bg];rw[oK (k1:=2) (by decide),oL (k1:=2) (by decide),rR (k1:=2) (by decide) (by decide),nD (k1:=2) (JS (by decide)),oK (k1:=3) (by decide),oL (k1:=3) (by decide),nC (k1:=3) (JS (by decide)),rR (k1:=3) (by decide) (by decide),nD (k1:=3) (JS (by decide))];rfl
theorem QY9{s k f g:Nat}{k1:Int}(h1:k1≠1)(h2:¬ (k1=2/\s+1<bG c))(h5:k1≠5)(h6:¬ (k1=6/\0<s)) :
  YB (f9 (st c b s k f g k1) (jm c b (s+1) g)) ((k:Int)+1)=st c b s (k+1) f g 4:=by
 have _:=A;simp only[YB,f6,f7,f9,eE,st,bT,Qx,aM,Qn,Qq,Qe,Qz,sX,sY,sG,sD,Qt,Qo,bg];rw[oK h5,oL h1,nC h2,nD h6,oK (k1:=4) (by decide),oL (k1:=4) (by decide),nC (k1:=4) (JS (by decide)),QKd,nD (k1:=4) (JS (by decide))];rfl
theorem QQT{s k f g:Nat}{k1:Int}(h1:k1=6):YB (eE (st c b s k f g k1) []) ((k:Int)+1)=st c b s (k+1) f g 7:=by
 have _:=A;subst h1;simp only[YB,f6,f7,f9,eE,st,bT,Qx,aM,Qn,Qq,Qe,Qz,sX,sY,sG,sD,Qt,Qo,bg];rw[oK (k1:=6) (by decide),oL (k1:=6) (by decide),nC (k1:=6) (JS (by decide)),rR (k1:=6) (by decide) (by decide),oK (k1:=7) (by decide),oL (k1:=7) (by decide),nC (k1:=7) (JS (by decide)),rR (k1:=7) (by decide) (by decide),nD (k1:=7) (JS (by decide))];rfl
theorem QYs{s k f g:Nat}{k1:Int}(h1:k1≠1)(h2:¬ (k1=2/\s+1<bG c))(h4:k1≠4)(h5:k1≠5)(h6:¬ (k1=6/\0<s)):YB (st c b s k f g k1) ((k:Int)+1)=st c b s (k+1) f g 8:=by
 have _:=A;simp only[YB,f6,f7,f9,eE,st,bT,Qx,aM,Qn,Qq,Qe,Qz,sX,sY,sG,sD,Qt,Qo,bg];rw[oK h5,oL h1,nC h2,rR h4 h5,nD h6,oK (k1:=8) (by decide),oL (k1:=8) (by decide),nC (k1:=8) (JS (by decide)),rR (k1:=8) (by decide) (by decide),nD (k1:=8) (JS (by decide))];rfl
theorem QXY{s k f g:Nat}{k1:Int}(hs:s<bG c)(hk:k<=(YM c b s).length)(H:nB b.length f g k1)(hr:YK c s=true)(uM:g<f)(h1:k1≠1)(h2:¬ (k1=2/\s+1<bG c))(h4:k1=4↔s+1<bG c)(h5:k1≠5)(h6:¬ (k1=6/\0<s)) :
  YB (YI (st c b s k f g k1) (g:Int)) ((k:Int)+1)=st c b s (k+1) f g 5:=by
 have cC:=F7 A hs hk H;have Bj:g<b.length:=by have:=H.fM;omega
 have hf:QJ (Qe (st c b s k f g k1)) (g:Int)=0:=QIN uM;have ji:aq [] (aq Zb (Qe (st c b s k f g k1)) 0).2 0=fE c b s g:=by
  show aq [] (aq Zb (YA c b s f g) 0).2 0=_;rw[F6 uM,rp];have hh:aq [] (fL c b s g) 0=fE c b s g:=QQ4 A.aA (oM A Bj) (s:=s);have hl:(fL c b s g).length=(dZ c s).length+1:=P4 A.aA (oM A Bj) (s:=s);show aq [] (oJ c s (fL c b s g)) 0=_;unfold oJ;rw[hr,if_pos rfl,<- hh]
  cases hq:fL c b s g with
  | nil=>rw[hq]at hl;simp at hl
  | cons x r=>simp[aq]
 unfold YI;simp only[hf];rw[if_pos (by rw[cC];rfl),show Int.toNat 0=0 from rfl,ji];have hg:vG c b s g k1=vG c b s g 5:=by
  unfold vG;by_cases h:s+1<bG c
  ·rw[if_pos (.inl (h4.2 h)),if_pos (.inr ⟨rfl,h⟩)]
  ·rw[if_neg (by rintro(e | e);exact h (h4.1 e);exact h e.2),if_neg (by rintro(e | e);cases e;exact h e.2)]
 have hfu:J7 c b s g 5=fL c b s g:=by unfold J7;rw[if_pos rfl]
 simp only[YB,f6,f7,f9,eE,st,bT,Qx,aM,Qn,Qq,Qe,Qz,sX,sY,sG,sD,Qt,Qo,bg];rw[hg,oL h1,nC h2,nD h6,hfu,oL (k1:=5) (by decide),nC (k1:=5) (JS (by decide)),nD (k1:=5) (JS (by decide))];rfl
theorem QJv{s k f g:Nat}{k1:Int}(hs:s<bG c)(hk:k<=(YM c b s).length)(H:nB b.length f g k1)(hf:f<b.length)(h0:0<s->k1=1)(h2:¬ (k1=2/\s+1<bG c))(h4:k1≠4)(h5:k1≠5)(h6:¬ (k1=6/\0<s)) :
  YB (Yl (st c b s k f g k1) (f:Int) (if s=0 then(b9 b f).1 else sX (st c b s k f g k1)) (b9 b f).2) ((k:Int)+1)=st c b s (k+1) (f+1) g 2:=by
 have cC:=F7 A hs hk H;obtain⟨hm,hi,ho⟩:=w4 A hs;have mS:s<=(Zh c).length:=by simp only[bG]at hs;omega
 have hp:=oM A hf;have hx:(if s=0 then(b9 b f).1 else sX (st c b s k f g k1))=fE c b s f:=by
  by_cases h:s=0
  ·subst h;rw[if_pos rfl];exact(Qwh A.aA _).symm
  ·rw[if_neg h];show vX c b s f k1=_;unfold vX;rw[if_pos (h0 (by omega))]
 rw[hx];have fX:Zf c s=true->s=(Zh c).length:=by intro h;unfold Zf bG at h;have h:=of_decide_eq_true h;omega
 have nE:QJ (Qe (st c b s k f g k1)) (f:Int) = -1:=QKt;have hfw:JB (st c b s k f g k1) (f:Int) (fE c b s f) (b9 b f).2=true:=by
  unfold JB;rw[cC,nE];have h1:Qr (fE c b s f) (Zn (aM (st c b s k f g k1)))=true:=by
   show Qr _ (Zn (dZ c s))=true;rw[hi];exact Bh A (by omega) hf
  have h3:(!Qn (st c b s k f g k1)||Qr (b9 b f).2 (Za (aM (st c b s k f g k1))))=true:=by
   show(!Zf c s||Qr (b9 b f).2 (Za (dZ c s)))=true
   cases hl:Zf c s with
   | false=>rfl
   | true =>
    have e:=fX hl;rw[ho,e,QtE A.aA];simpa using(P3 A.aA hp).2
  rw[h1,h3];rfl
 have hy:aq [] (QF (dZ c s) (fE c b s f)).1 (dZ c s).length=fE c b (s+1) f:=QxD A.aA hp mS;have key:YB (Yl (st c b s k f g k1) (f:Int) (fE c b s f) (b9 b f).2) ((k:Int)+1) =
   ((k:Int)+1,YM c b s,dZ c s,Zf c s,YK c s,YA c b s f g++[((f:Int),oJ c s (fL c b s f))],J7 c b s g k1,[],(if Zf c s=true then vY c b s f k1 else aq [] (QF (dZ c s) (fE c b s f)).1 (dZ c s).length),vG c b s g k1,vD c b s g k1,JD c b s g,
    (if Zf c s=true then(Q4 (if Zf c s=true then YQ c b f else 0) (ZO (aq [] (QF (dZ c s) (fE c b s f)).1 (dZ c s).length) (b9 b f).2).1).1 else if Zf c s=true then YQ c b f else 0),
    (fh c b s f g||(QF (dZ c s) (fE c b s f)).2||(Zf c s&&((ZO (aq [] (QF (dZ c s) (fE c b s f)).1 (dZ c s).length) (b9 b f).2).2||(Q4 (if Zf c s=true then YQ c b f else 0) (ZO (aq [] (QF (dZ c s) (fE c b s f)).1 (dZ c s).length) (b9 b f).2).1).2)))):=by
  unfold Yl;rw[if_pos hfw];rfl
 rw[key,hy];have e1:YA c b s f g++[((f:Int),oJ c s (fL c b s f))]=YA c b s (f+1) g:=(QJo H.gf).symm;have e2:(if Zf c s=true then vY c b s f k1 else fE c b (s+1) f)=vY c b s (f+1) 2:=by
  unfold vY
  cases hl:Zf c s with
  | false =>
   simp only[Zf,decide_eq_false_iff_not]at hl;rw[if_neg (by simp),if_pos ⟨rfl,by omega⟩,Nat.add_sub_cancel]
  | true =>
   simp only[Zf,decide_eq_true_eq]at hl;rw[if_pos rfl,if_neg h2,if_neg (by omega)]
 have e3:(if Zf c s=true then(Q4 (if Zf c s=true then YQ c b f else 0) (ZO (fE c b (s+1) f) (b9 b f).2).1).1 else if Zf c s=true then YQ c b f else 0)=(if Zf c s=true then YQ c b (f+1) else 0):=by
  cases hl:Zf c s with
  | false=>simp
  | true =>
   simp only[if_true];rw[fX hl];show(Q4 _ (ZO (jZ _ _ _ _) _).1).1=_;rw[F4 A.aA];rfl
 have e4:(fh c b s f g||(QF (dZ c s) (fE c b s f)).2||(Zf c s&&((ZO (fE c b (s+1) f) (b9 b f).2).2||(Q4 (if Zf c s=true then YQ c b f else 0) (ZO (fE c b (s+1) f) (b9 b f).2).1).2)))=fh c b s (f+1) g:=by
  unfold fh;rw[List.range_succ,List.any_append];have:w3 c b s f=((QF (dZ c s) (fE c b s f)).2||(Zf c s&&((ZO (fE c b (s+1) f) (b9 b f).2).2||(Q4 (if Zf c s=true then YQ c b f else 0) (ZO (fE c b (s+1) f) (b9 b f).2).1).2))):=by
   unfold w3
   cases hl:Zf c s with
   | false=>rfl
   | true =>
    simp only[if_true,Bool.true_and];rw[fX hl];have:fE c b ((Zh c).length+1) f=gO c b f:=F4 A.aA _;rw[this];rfl
  simp only[List.any_cons,List.any_nil,Bool.or_false];rw[this]
  cases(List.range f).any (w3 c b s) <;> cases(List.range g).any (Bg c b s) <;> simp
 have e5:vX c b s (f+1) 2=[]:=rfl;have e6:vG c b s g k1=vG c b s g 2:=by unfold vG;rw[if_neg (by rintro(e | e);exact h4 e;exact h5 e.1),if_neg (by rintro(e | e);cases e;exact absurd e.1 (by decide))]
 have e7:vD c b s g k1=vD c b s g 2:=by unfold vD;rw[if_neg h6,if_neg (by rintro⟨e,_⟩;exact absurd e (by decide))]
 have e8:J7 c b s g k1=J7 c b s g 2:=by unfold J7;rw[if_neg h5,if_neg (by decide)]
 rw[e1,e2,e3,e4,<- e5,e6,e7,e8];rfl
theorem QKa{s k f g:Nat}{k1:Int}(hs:s<bG c)(hk:k<=(YM c b s).length)(H:nB b.length f g k1)(uM:g<f)(hr1:YK c s=true->k1=5)(hr2:YK c s=false->s+1<bG c->k1=4)(h1:k1≠1)(h2:¬ (k1=2/\s+1<bG c))(h5:k1=5->YK c s=true)(h4:k1=4->s+1<bG c) :
  YB (if s=0 then eE (ZM (st c b s k f g k1) (g:Int) (b9 b g).2) [] else ZM (st c b s k f g k1) (g:Int) (b9 b g).2) ((k:Int)+1)=st c b s (k+1) f (g+1) 6:=by
 have cC:=F7 A hs hk H;obtain⟨hm,hi,ho⟩:=w4 A hs;have mS:s<=(Zh c).length:=by simp only[bG]at hs;omega
 have hg:g<b.length:=by have:=H.fM;omega
 have hp:=oM A hg;have fX:Zf c s=true->s=(Zh c).length:=by intro h;unfold Zf bG at h;have h:=of_decide_eq_true h;omega
 have nE:QJ (Qe (st c b s k f g k1)) (g:Int)=0:=QIN uM;have jA:(fL c b s g).length=(dZ c s).length+1:=P4 A.aA hp;have nF:ZD (st c b s k f g k1) 0=fL c b s g:=by
  unfold ZD;show(if YK c s=true then J7 c b s g k1 else(aq Zb (YA c b s f g) (Int.toNat 0)).2)=_;rw[F6 uM,show Int.toNat 0=0 from rfl,rp]
  cases hr:YK c s with
  | true=>rw[if_pos rfl];unfold J7;rw[if_pos (hr1 hr)]
  | false=>rw[if_neg (by simp)];show oJ c s _=_;unfold oJ;rw[hr,if_neg (by simp)]
 have hd:eP (st c b s k f g k1) 0 (b9 b g).2=(jm c b (s+1) g,Zf c s&&(QV (gO c b g) (b9 b g).2).2):=by
  unfold eP;rw[nF];show(if Zf c s=true then QV (aq [] (fL c b s g) (dZ c s).length) (b9 b g).2 else(vG c b s g k1,false))=_
  cases hl:Zf c s with
  | true =>
   rw[if_pos rfl,QxD A.aA hp mS,fX hl,F4 A.aA];show _=(jl _ _ _ _,_)
   rw[QLD A.aA,Bool.true_and]
  | false =>
   simp only[Zf,decide_eq_false_iff_not]at hl;rw[if_neg (by simp),Bool.false_and];unfold vG;rw[if_pos]
   cases hr:YK c s with
   | true=>exact .inr ⟨hr1 hr,by omega⟩
   | false=>exact .inl (hr2 hr (by omega))
 have fe:YW (st c b s k f g k1) 0 (b9 b g).2=true:=by
  unfold YW;rw[cC,nF,hd];simp only[Bool.and_eq_true,beq_iff_eq,decide_eq_true_eq];refine⟨⟨⟨⟨trivial,by omega⟩,jA⟩,?_⟩,?_⟩
  ·unfold Yg;exact zQ _ _ _ _ (QBh A.aA hp mS)
  ·show Qr (jm c b (s+1) g) (Za (dZ c s))=true;rw[ho];exact Bi A (by omega) hg
 have Bk:QN (dZ c s) (fL c b s g) (jm c b (s+1) g)=jn c b s g:=rfl;have hbd:(jn c b s g).2.1=jm c b s g:=(QSK A.aA mS _).symm;have P6:Z6 (kC (st c b s k f g k1)) ((jn c b s g).1,0,(Zf c s&&(QV (gO c b g) (b9 b g).2).2)||(jn c b s g).2.2)=(JD c b s (g+1),(if Zf c s then YQ c b f else 0),fh c b s f (g+1)):=by
  unfold Z6;simp only;have hl:Q4 (kC (st c b s k f g k1)).2.1 0=((if Zf c s then YQ c b f else 0),false):=Q2z (QJj A s f);rw[hl];refine Prod.ext rfl (Prod.ext rfl ?_);show(fh c b s f g||((Zf c s&&(QV (gO c b g) (b9 b g).2).2)||(jn c b s g).2.2)||(Zg (JD c b s g) (jn c b s g).1).2||false)=fh c b s f (g+1);unfold fh;rw[List.range_succ,List.any_append];simp only[List.any_cons,List.any_nil,Bool.or_false];unfold Bg
  cases(List.range f).any (w3 c b s) <;> cases(List.range g).any (Bg c b s) <;> cases(jn c b s g).2.2 <;> cases(Zg (JD c b s g) (jn c b s g).1).2 <;> simp
 have key:ZM (st c b s k f g k1) (g:Int) (b9 b g).2=((k:Int),YM c b s,dZ c s,Zf c s,YK c s,YA c b s f (g+1),[],vX c b s f k1,vY c b s f k1,[],jm c b s g,JD c b s (g+1),(if Zf c s then YQ c b f else 0),fh c b s f (g+1)):=by
  unfold ZM;simp only[nE];rw[if_pos fe,nF,hd];simp only;have e:aM (st c b s k f g k1)=dZ c s:=rfl;rw[e,Bk,P6,hbd];have e2:(Qe (st c b s k f g k1)).take (Int.toNat 0)++(Qe (st c b s k f g k1)).drop (Int.toNat 0+1)=YA c b s f (g+1):=by
   show(YA c b s f g).take 0++(YA c b s f g).drop 1=_;rw[F6 uM];rfl
  rw[e2];rfl
 rw[key];have f1:vX c b s f k1=vX c b s f 6:=by unfold vX;rw[if_neg h1,if_neg (by decide)]
 have f2:vY c b s f k1=vY c b s f 6:=by unfold vY;rw[if_neg h2,if_neg (by rintro⟨e,_⟩;exact absurd e (by decide))]
 have f3:vG c b s (g+1) 6=[]:=by unfold vG;rw[if_neg];rintro(e | e);exact absurd e (by decide);exact absurd e.1 (by decide)
 rw[f1,f2];by_cases h:s=0
 ·rw[if_pos h];simp only[YB,f6,f7,f9,eE,st,bT,Qx,aM,Qn,Qq,Qe,Qz,sX,sY,sG,sD,Qt,Qo,bg];have f4:vD c b s (g+1) 6=[]:=by unfold vD;rw[if_neg (by omega)]
  rw[f3,f4];rfl
 ·rw[if_neg h];simp only[YB,f6,f7,f9,eE,st,bT,Qx,aM,Qn,Qq,Qe,Qz,sX,sY,sG,sD,Qt,Qo,bg];have f4:vD c b s (g+1) 6=jm c b s g:=by unfold vD;rw[if_pos ⟨rfl,by omega⟩,Nat.add_sub_cancel]
  rw[f3,f4];rfl
end
end Go.Proofs.YtdplaepmjogjjaaGreat.Am
namespace Go.Proofs.YtdplaepmjogjjaaGreat.Am
open Go Sz
structure Loc(ds n M s:Int)(rd:Bool)(f g:Nat)(k1:Int)(i:bE)(last:Bool):Prop where
 c0:g<=f/\(f:Int)<=M/\1<=i.1/\i.1<=8/\0<=i.2/\i.2<M/\(i.1=8↔last=true)/\i≠(0,0)
 c1:i.1=1->0<s/\i.2=f/\k1≠1
 c2:i.1=2->i.2=f/\(0<s->k1=1)
 c3:i.1=3->s<n-1/\i.2=(f:Int)-1/\k1=2
 c4:i.1=4->s<n-1/\i.2=g
 c5:i.1=5->rd=true/\i.2=g/\g<f/\(s<n-1->k1=4)
 c6:i.1=6->i.2=g/\g<f/\(rd=true->k1=5)/\(rd=false->s<n-1->k1=4)
 c7:i.1=7->0<s/\i.2=(g:Int)-1/\k1=6
 c8:i.1=8->(f:Int)=M/\(g:Int)=M/\k1≠0
 c9:k1=1->i.1=2
 c10:k1=2->s<n-1->i.1=3
 P7:k1=4->i.1=5\/i.1=6
 P8:k1=5->i.1=6
 c13:k1=6->0<s->i.1=7
 c14:k1=5->rd=true
 F8:k1=6->1<=g
 F9:k1=2->1<=f
 c17:k1≠8
 P9:k1=4->s<n-1
 c19:k1=1->0<s
 c20:k1=4\/k1=5->g<f
 c21:k1=1->(f:Int)<M
 c22:s<n-1->(hP f k1:Int)<M->tm ds n M s i<=tm ds n M s (3,(hP f k1:Int))
 c23:0<s->(g8 f k1:Int)<M->tm ds n M s i<=tm ds n M s (1,(g8 f k1:Int))
 c24:s<n-1->(hZ n s g k1:Int)<M->tm ds n M s i<=tm ds n M s (4,(hZ n s g k1:Int))
 c25:0<s->(mj g k1:Int)<M->tm ds n M s i<=tm ds n M s (7,(mj g k1:Int))
 c26:ds=2->(f:Int)-g<=n-s
 c27:ds=2->i.1=2->(f:Int)-g<n-s
theorem QNb{ds n M s:Int}{rd:Bool}{f g:Nat}{k1:Int}{i:bE}{last:Bool}(h:Dc ds n M s rd f g k1 i last=true):Loc ds n M s rd f g k1 i last:=by
 simp only[Dc,Bool.and_eq_true,decide_eq_true_eq]at h;exact⟨h.1.1.1.1.1.1.1.1.1.1.1.1.1.1.1.1.1.1.1.1.1.1.1.1.1.1.1,h.1.1.1.1.1.1.1.1.1.1.1.1.1.1.1.1.1.1.1.1.1.1.1.1.1.1.2,h.1.1.1.1.1.1.1.1.1.1.1.1.1.1.1.1.1.1.1.1.1.1.1.1.1.2,h.1.1.1.1.1.1.1.1.1.1.1.1.1.1.1.1.1.1.1.1.1.1.1.1.2,h.1.1.1.1.1.1.1.1.1.1.1.1.1.1.1.1.1.1.1.1.1.1.1.2,h.1.1.1.1.1.1.1.1.1.1.1.1.1.1.1.1.1.1.1.1.1.1.2,h.1.1.1.1.1.1.1.1.1.1.1.1.1.1.1.1.1.1.1.1.1.2,h.1.1.1.1.1.1.1.1.1.1.1.1.1.1.1.1.1.1.1.1.2,h.1.1.1.1.1.1.1.1.1.1.1.1.1.1.1.1.1.1.1.2,h.1.1.1.1.1.1.1.1.1.1.1.1.1.1.1.1.1.1.2,h.1.1.1.1.1.1.1.1.1.1.1.1.1.1.1.1.1.2,h.1.1.1.1.1.1.1.1.1.1.1.1.1.1.1.1.2,h.1.1.1.1.1.1.1.1.1.1.1.1.1.1.1.2,h.1.1.1.1.1.1.1.1.1.1.1.1.1.1.2,h.1.1.1.1.1.1.1.1.1.1.1.1.1.2,h.1.1.1.1.1.1.1.1.1.1.1.1.2,h.1.1.1.1.1.1.1.1.1.1.1.2,h.1.1.1.1.1.1.1.1.1.1.2,h.1.1.1.1.1.1.1.1.1.2,h.1.1.1.1.1.1.1.1.2,h.1.1.1.1.1.1.1.2,h.1.1.1.1.1.1.2,h.1.1.1.1.1.2,h.1.1.1.1.2,h.1.1.1.2,h.1.1.2,h.1.2,h.2⟩
section
variable (c:QC) (b:List Qi)
def bV(s:Nat):Nat:=(YM c b s).length
def b5(s k:Nat):bE:=aq f5 (YM c b s) k
def F(s k:Nat):Nat:=cf ((YM c b s).take k)
def G(s k:Nat):Nat:=cg ((YM c b s).take k)
def K1(s k:Nat):Int:=Ja (YM c b s) k
def sc(s k:Nat):Nat:=hP (F c b s k) (K1 c b s k)
def rc(s k:Nat):Nat:=g8 (F c b s k) (K1 c b s k)
def rg(s k:Nat):Nat:=hZ (bG c:Nat) (s:Int) (G c b s k) (K1 c b s k)
def sg(s k:Nat):Nat:=mj (G c b s k) (K1 c b s k)
def df(s k:Nat):Qc:=st c b s k (F c b s k) (G c b s k) (K1 c b s k)
abbrev mq(s:Nat):Int:=aq 0 (JF c) s
def aQ(ks:Nat->Nat)(s:Nat):Qd:=(mq c s,(List.range' (rc c b (s+1) (ks (s+1))) (sc c b s (ks s)-rc c b (s+1) (ks (s+1)))).map λj:Nat=>((j:Int),fE c b (s+1) j))
def bQ(ks:Nat->Nat)(s:Nat):Qd:=(mq c s,(List.range' (rg c b s (ks s)) (sg c b (s+1) (ks (s+1))-rg c b s (ks s))).map λj:Nat=>((j:Int),jm c b (s+1) j))
def QZ(ks:Nat->Nat):Ql :=
 (b,(List.range (bG c)).map (λs=>df c b s (ks s)),(List.range (bG c-1)).map (aQ c b ks),(List.range (bG c-1)).map (bQ c b ks))
end
section
variable {c:QC} {b:List Qi} (A:ql c b)
include A
theorem nG:1<=bG c/\bG c<=4:=by have:=A.ak;simp only[bG];omega
theorem QEs{s:Nat}(hs:s<bG c):t7 (lP c) (bG c:Nat) b.length s (YK c s) (YM c b s) 0 0 0=true:=by
 have h1:=nG A;have h2:=qn A;exact Q2L (YK c s) A.ds.1 A.ds.2 (by omega) (by omega) (by omega) (by omega) (by omega)
theorem loc{s k:Nat}(hs:s<bG c)(hk:k<bV c b s):Loc (lP c) (bG c:Nat) b.length s (YK c s) (F c b s k) (G c b s k) (K1 c b s k) (b5 c b s k) (decide (k+1=bV c b s)):=by
 have h:=(Lh _ _ _ _ (QEs A hs) k (Nat.le_of_lt hk)).1 (b5 c b s k) (Y4 hk f5);have e:(if k=0 then(0:Int) else Ja (YM c b s) k)=K1 c b s k:=by
  unfold K1 Ja;split <;> rfl
 rw[e,Nat.zero_add,Nat.zero_add]at h;exact QNb h
theorem Ga{s:Nat}(hs:s<bG c):F c b s (bV c b s)=b.length/\G c b s (bV c b s)=b.length/\K1 c b s (bV c b s)=8:=by
 have h:=(Lh _ _ _ _ (QEs A hs) (bV c b s) (Nat.le_refl _)).2 rfl;have e:(if bV c b s=0 then(0:Int) else Ja (YM c b s) (bV c b s))=K1 c b s (bV c b s):=by
  unfold K1 Ja;split <;> rfl
 rw[e,Nat.zero_add,Nat.zero_add]at h;simp only[Lg,decide_eq_true_eq]at h;unfold F G;exact⟨by omega,by omega,h.2.2⟩
theorem uR{s k:Nat}(hs:s<bG c)(hk:k<=bV c b s):nB b.length (F c b s k) (G c b s k) (K1 c b s k):=by
 by_cases h:k<bV c b s
 ·have L:=loc A hs h;exact⟨L.c0.1,by have:=L.c0.2.1;omega,λe=>by have:=L.c21 e;omega,L.F9,L.c20,L.F8⟩
 ·have:k=bV c b s:=by omega
  subst this;obtain⟨h1,h2,h3⟩:=Ga A hs;rw[h1,h2,h3];exact⟨Nat.le_refl _,Nat.le_refl _,(λe=>by simp at e),(λe=>by simp at e),(λe=>by simp at e),(λe=>by simp at e)⟩
omit A in
theorem QCB{s k:Nat}(hk:k<bV c b s):F c b s (k+1)=F c b s k+kf (b5 c b s k)/\G c b s (k+1)=G c b s k+kg (b5 c b s k)/\K1 c b s (k+1)=(b5 c b s k).1:=by
 have h:(YM c b s)[k]? = some (b5 c b s k):=Y4 hk f5;have ht:(YM c b s).take (k+1)=(YM c b s).take k++[b5 c b s k]:=by rw[List.take_add_one,h];rfl
 refine⟨?_,?_,?_⟩
 ·unfold F cf;rw[ht];simp
 ·unfold G cg;rw[ht];simp
 ·unfold K1 Ja;rw[if_neg (by omega)];rfl
theorem rS{s:Nat}(hs:s<bG c):sc c b s (bV c b s)=b.length/\rc c b s (bV c b s)=b.length/\rg c b s (bV c b s)=b.length/\sg c b s (bV c b s)=b.length:=by
 obtain⟨h1,h2,h3⟩:=Ga A hs;unfold sc rc rg sg;rw[h1,h2,h3];exact⟨rfl,rfl,rfl,rfl⟩
theorem QGF{s k:Nat}(hs:s<bG c)(hk:k<bV c b s) :
  (s+1<bG c->sc c b s (k+1)=sc c b s k+if(b5 c b s k).1=3 then 1 else 0)/\
  (0<s->rc c b s (k+1)=rc c b s k+if(b5 c b s k).1=1 then 1 else 0)/\
  (s+1<bG c->rg c b s (k+1)=rg c b s k+if(b5 c b s k).1=4 then 1 else 0)/\
  (0<s->sg c b s (k+1)=sg c b s k+if(b5 c b s k).1=7 then 1 else 0):=by
 have L:=loc A hs hk;obtain⟨e1,e2,e3⟩:=QCB (c:=c) (b:=b) hk;unfold sc rc rg sg;rw[e1,e2,e3];generalize F c b s k=f at *;generalize G c b s k=g at *;generalize K1 c b s k=k1 at *;generalize b5 c b s k=i at *;have hi:=L.c0;have h6:i.1=6->(s:Int)<(bG c:Nat)-1->k1=4\/k1=5:=λe aY=>by
  have h:=L.c6 e
  cases hr:YK c s with
  | true=>exact .inr (h.2.2.1 hr)
  | false=>exact .inl (h.2.2.2 hr aY)
 have h1:=L.c1;have h2:=L.c2;have h3:=L.c3;have h4:=L.c4;have h5:=L.c5;have h7:=L.c7;have h9:=L.c9;have vu:=L.c10;have h11:=L.P7;have h12:=L.P8;have h13:=L.c13;have h15:=L.F8;have sW:=L.F9;have h18:=L.P9;obtain⟨i1,i2⟩:=i;simp only at hi h1 h2 h3 h4 h5 h6 h7 h9 vu h11 h12 h13;unfold hP g8 hZ mj kf kg;simp only;have iB:i1=1\/i1=2\/i1=3\/i1=4\/i1=5\/i1=6\/i1=7\/i1=8:=by omega
 rcases iB with rfl | rfl | rfl | rfl | rfl | rfl | rfl | rfl <;> simp at h1 h2 h3 h4 h5 h6 h7 h9 vu h11 h12 h13 ⊢ <;> (refine⟨?_,?_,?_,?_⟩ <;> intro hh <;> (repeat' split) <;> omega)
structure Ok(c:QC)(b:List Qi)(ks:Nat->Nat):Prop where
 le:∀ s,s<bG c->ks s<=bV c b s
 qa:∀ s,s+1<bG c->rc c b (s+1) (ks (s+1))<=sc c b s (ks s)/\(sc c b s (ks s):Int)-rc c b (s+1) (ks (s+1))<=mq c s
 qb:∀ s,s+1<bG c->rg c b s (ks s)<=sg c b (s+1) (ks (s+1))/\(sg c b (s+1) (ks (s+1)):Int)-rg c b s (ks s)<=mq c s
 fl:(∃ s,s<bG c/\ks s=bV c b s)->∀ s,s<bG c->bV c b s<=ks s+1
def En(c:QC)(b:List Qi)(ks:Nat->Nat)(s:Nat):Prop :=
 ks s<bV c b s/\
 ((b5 c b s (ks s)).1=1->rc c b s (ks s)<sc c b (s-1) (ks (s-1)))/\
 ((b5 c b s (ks s)).1=3->(sc c b s (ks s):Int)-rc c b (s+1) (ks (s+1))<mq c s)/\
 ((b5 c b s (ks s)).1=4->rg c b s (ks s)<sg c b (s+1) (ks (s+1)))/\
 ((b5 c b s (ks s)).1=7->(sg c b s (ks s):Int)-rg c b (s-1) (ks (s-1))<mq c (s-1))/\
 ((b5 c b s (ks s)).1=8->∀ j,j<bG c->bV c b j<=ks j+1)
theorem rT{s:Nat}(hs:s+1<bG c):1<=mq c s/\mq c s<=5:=by
 have:=A.uP;simp only[YE,Bool.and_eq_true,beq_iff_eq]at this;have hl:s<(JF c).length:=by simp only[bG]at hs;have:=this.1;simp only[JF,Zh]at *;omega
 have:=List.all_eq_true.1 this.2 _ (Js hl 0);exact QW.1 this
theorem Bl:(JF c).length=bG c-1:=by
 have:=A.uP;simp only[YE,Bool.and_eq_true,beq_iff_eq]at this;have:=this.1;simp only[bG,JF,Zh]at *;omega
omit A in
theorem QMx(n:Nat)(P:Nat->Prop)(t:Nat->Int)(h:∃ s,s<n/\P s):∃ s,s<n/\P s/\∀ j,j<n->P j->t s<=t j:=by
 induction n with
 | zero=>obtain⟨s,h,_⟩:=h;omega
 | succ n ih =>
  by_cases h1:∃ s,s<n/\P s
  ·obtain⟨s,hs,hp,hm⟩:=ih h1;by_cases h2:P n/\t n<t s
   ·refine⟨n,by omega,h2.1,λj hj w5=>?_⟩;by_cases h3:j=n
    ·subst h3;omega
    ·have:=hm j (by omega) w5;omega
   ·refine⟨s,by omega,hp,λj hj w5=>?_⟩;by_cases h3:j=n
    ·subst h3;have:¬ t j<t s:=λh=>h2 ⟨w5,h⟩;omega
    ·exact hm j (by omega) w5
  ·obtain⟨s,hs,hp⟩:=h;have:s=n:=by
    apply Classical.byContradiction;intro dk;exact h1 ⟨s,by omega,hp⟩
   subst this;refine⟨s,by omega,hp,λj hj w5=>?_⟩;by_cases h3:j=s
   ·subst h3;omega
   ·exact absurd ⟨j,by omega,w5⟩ h1
set_option maxHeartbeats 1000000 in
theorem QQE{ks:Nat->Nat}(V:Ok c b ks)(h:∃ s,s<bG c/\ks s<bV c b s):∃ s,s<bG c/\En c b ks s:=by
 obtain⟨s,hs,hk,nH⟩:=QMx (bG c) (λs=>ks s<bV c b s) (λs=>tm (lP c) (bG c:Nat) b.length s (b5 c b s (ks s))) h;have L:=loc A hs hk;refine⟨s,hs,hk,λhi=>?_,λhi=>?_,λhi=>?_,λhi=>?_,λhi=>?_⟩
 ·obtain⟨h0,h1,h2⟩:=L.c1 hi;have h0:0<s:=by omega
  have hq:=(V.qa (s-1) (by omega)).1;rw[show s-1+1=s by omega]at hq;apply Classical.byContradiction;intro hn;have hrc:rc c b s (ks s)=F c b s (ks s):=by unfold rc g8;rw[if_neg h2]
  have aY:(F c b s (ks s):Int)<b.length:=by have:=L.c0;omega
  by_cases hj:ks (s-1)<bV c b (s-1)
  ·have L':=loc A (s:=s-1) (by omega) hj;have h3:=L'.c22 (by omega) (by show((sc c b (s-1) (ks (s-1)):Nat):Int)<_;omega);have h4:=nH (s-1) (by omega) hj;have e1:(hP (F c b (s-1) (ks (s-1))) (K1 c b (s-1) (ks (s-1))))=F c b s (ks s):=by show sc c b (s-1) (ks (s-1))=_;omega
   rw[e1]at h3;simp only[tm,hi,h1]at h3 h4;simp at h3 h4;omega
  ·have:=V.le (s-1) (by omega);rw[show ks (s-1)=bV c b (s-1) by omega,(rS A (by omega)).1]at hn;omega
 ·obtain⟨h0,h1,h2⟩:=L.c3 hi;have hq:=(V.qa s (by omega)).1;have cr:=rT A (s:=s) (by omega);apply Classical.byContradiction;intro hn;have sW:=L.F9 h2;have hsc:sc c b s (ks s)=F c b s (ks s)-1:=by unfold sc hP;rw[if_pos h2]
  have hfM:(F c b s (ks s):Int)<=b.length:=L.c0.2.1;by_cases hj:ks (s+1)<bV c b (s+1)
  ·have L':=loc A (s:=s+1) (by omega) hj;have e1:(g8 (F c b (s+1) (ks (s+1))) (K1 c b (s+1) (ks (s+1))))=rc c b (s+1) (ks (s+1)):=rfl;have h3:=L'.c23 (by omega) (by rw[e1];omega);have h4:=nH (s+1) (by omega) hj;rw[e1]at h3;simp only[tm,hi,h1]at h3 h4;simp at h3 h4;omega
  ·have:=V.le (s+1) (by omega);rw[show ks (s+1)=bV c b (s+1) by omega,(rS A (by omega)).2.1]at hn;omega
 ·obtain⟨h0,h1⟩:=L.c4 hi;have hq:=(V.qb s (by omega)).1;apply Classical.byContradiction;intro hn;have h2:¬ (K1 c b s (ks s)=4\/(K1 c b s (ks s)=5/\(s:Int)<(bG c:Nat)-1)):=by
   rintro(h | h)
   ·have:=L.P7 h;omega
   ·have:=L.P8 h.1;omega
  have hrg:rg c b s (ks s)=G c b s (ks s):=by unfold rg hZ;rw[if_neg h2]
  have aY:(G c b s (ks s):Int)<b.length:=by have:=L.c0;omega
  by_cases hj:ks (s+1)<bV c b (s+1)
  ·have L':=loc A (s:=s+1) (by omega) hj;have h3:=L'.c25 (by omega) (by show((sg c b (s+1) (ks (s+1)):Nat):Int)<_;omega);have h4:=nH (s+1) (by omega) hj;have e1:(mj (G c b (s+1) (ks (s+1))) (K1 c b (s+1) (ks (s+1))))=G c b s (ks s):=by show sg c b (s+1) (ks (s+1))=_;omega
   rw[e1]at h3;simp only[tm,hi,h1]at h3 h4;simp at h3 h4
   split at h3 <;> simp_all <;> omega
  ·have:=V.le (s+1) (by omega);rw[show ks (s+1)=bV c b (s+1) by omega,(rS A (by omega)).2.2.2]at hn;omega
 ·obtain⟨h0,h1,h2⟩:=L.c7 hi;have h0:0<s:=by omega
  have hq:=(V.qb (s-1) (by omega)).1;rw[show s-1+1=s by omega]at hq;have cr:=rT A (s:=s-1) (by omega);apply Classical.byContradiction;intro hn;have h15:=L.F8 h2;have C9:sg c b s (ks s)=G c b s (ks s)-1:=by unfold sg mj;rw[if_pos h2]
  have hfM:(G c b s (ks s):Int)<=b.length:=by have:=L.c0;omega
  by_cases hj:ks (s-1)<bV c b (s-1)
  ·have L':=loc A (s:=s-1) (by omega) hj;have e1:(hZ (bG c:Nat) ((s-1:Nat):Int) (G c b (s-1) (ks (s-1))) (K1 c b (s-1) (ks (s-1))))=rg c b (s-1) (ks (s-1)):=rfl;have h3:=L'.c24 (by omega) (by rw[e1];omega);have h4:=nH (s-1) (by omega) hj;rw[e1]at h3;simp only[tm,hi,h1]at h3 h4;simp at h3 h4
   split at h3 <;> simp_all <;> omega
  ·have:=V.le (s-1) (by omega);rw[show ks (s-1)=bV c b (s-1) by omega,(rS A (by omega)).2.2.1]at hn;omega
 ·intro j hj;apply Classical.byContradiction;intro hn;have yA:ks j<bV c b j:=by omega
  have L':=loc A hj yA;have h4:=nH j hj yA;have h5:(b5 c b j (ks j)).1≠8:=λe=>by have:=L'.c0.2.2.2.2.2.2.1.1 e;simp at this;omega
  have h6:=L'.c0;have hn4:=nG A;have hb5:=qn A;generalize b5 c b j (ks j)=i' at *;generalize b5 c b s (ks s)=i at *;have:tm (lP c) (bG c:Nat) b.length s i=1000000:=by unfold tm;simp[hi]
  rw[this]at h4;unfold tm at h4;simp only at h4;repeat' split at h4
  all_goals omega
end
end Go.Proofs.YtdplaepmjogjjaaGreat.Am

set_option linter.all false
namespace Go.Proofs.YtdplaepmjogjjaaGreat.Am
open Go Sz
theorem Ra{α:Type}(d:α)(n:Nat)(f:Nat->α){k:Nat}(hk:k<n):aq d ((List.range n).map f) k=f k :=
 tS (by rw[List.getElem?_map,List.getElem?_range hk];rfl) d
theorem Bm{α:Type}(n:Nat)(f g:Nat->α)(k:Nat)(v:α)(hv:k<n->v=g k)(h:∀ j,j<n->j≠k->f j=g j):((List.range n).map f).set k v=(List.range n).map g:=by
 apply List.ext_getElem?;intro i;rw[List.getElem?_set];simp only[List.length_map,List.length_range,List.getElem?_map];by_cases hi:i<n
 ·rw[List.getElem?_range hi];by_cases hk:k=i
  ·subst hk;rw[if_pos rfl,if_pos hi,hv hi];rfl
  ·rw[if_neg hk];simp only[Option.map_some];rw[h i hi (λe=>hk e.symm)]
 ·rw[List.getElem?_eq_none (by simp;omega)]
  split
  ·rename_i e;rw[if_neg (by omega)];rfl
  ·rfl
theorem oN{α:Type}{n:Nat}{f g:Nat->α}(h:∀ j,j<n->f j=g j):(List.range n).map f=(List.range n).map g :=
 List.map_congr_left (λj hj=>h j (List.mem_range.1 hj))
def dN(ks:Nat->Nat)(s:Nat):Nat->Nat:=λj=>if j=s then ks j+1 else ks j
theorem YD(ks:Nat->Nat)(s:Nat):dN ks s s=ks s+1:=by simp[dN]
theorem ZC(ks:Nat->Nat){s j:Nat}(h:j≠s):dN ks s j=ks j:=by simp[dN,h]
section
variable {c:QC} {b:List Qi} (A:ql c b)
include A
omit A in
theorem QAs(ks:Nat->Nat){s:Nat}(hs:s<bG c):aq QE (Qu (QZ c b ks)) s=df c b s (ks s):=Ra _ _ _ hs
omit A in
theorem Gb(ks:Nat->Nat){s:Nat}(hs:s+1<bG c):aq QI (Qv (QZ c b ks)) s=aQ c b ks s:=Ra _ _ _ (by omega)
omit A in
theorem Gc(ks:Nat->Nat){s:Nat}(hs:s+1<bG c):aq QI (Qw (QZ c b ks)) s=bQ c b ks s:=Ra _ _ _ (by omega)
omit A in
theorem rU(ks:Nat->Nat):(Qu (QZ c b ks)).length=bG c:=by
 show((List.range (bG c)).map _).length=_;simp
theorem QzH{s k:Nat}(hs:s<bG c)(hk:k<=bV c b s):sc c b s k<=b.length/\rc c b s k<=b.length/\rg c b s k<=b.length/\sg c b s k<=b.length:=by
 have H:=uR A hs hk;have h1:=H.gf;have h2:=H.fM;have h3:=H.k1;have h4:=H.k45;unfold sc rc rg sg hP g8 hZ mj;refine⟨?_,?_,?_,?_⟩
 ·split <;> omega
 ·split
  ·rename_i h;have:=h3 h;omega
  ·omega
 ·split
  ·rename_i h;have:=h4 (h.imp id (λh=>h.1));omega
  ·omega
 ·split <;> omega
theorem Rb{ks:Nat->Nat}(V:Ok c b ks){s:Nat}(hs:s+1<bG c):Q3 (aQ c b ks s)=true:=by
 have hc:=rT A hs;have hq:=V.qa s hs;have hb:=qn A;have hl:=(QzH A (s:=s) (by omega) (V.le s (by omega))).1;unfold Q3 aQ;simp only[Bool.and_eq_true,decide_eq_true_eq,List.length_map,List.length_range',List.all_eq_true];refine⟨⟨⟨hc.1,hc.2⟩,by omega⟩,λx hx=>?_⟩;obtain⟨j,hj,rfl⟩:=List.mem_map.1 hx;rw[List.mem_range'_1]at hj;have:=YN.1 (Bh A (s:=s+1) (j:=j) (by omega) (by omega));simp only[Yq,Bool.and_eq_true,decide_eq_true_eq];exact⟨⟨this.1,by omega⟩,by omega⟩
theorem Rc{ks:Nat->Nat}(V:Ok c b ks){s:Nat}(hs:s+1<bG c):Q3 (bQ c b ks s)=true:=by
 have hc:=rT A hs;have hq:=V.qb s hs;have hb:=qn A;have hl:=(QzH A (s:=s+1) (by omega) (V.le (s+1) (by omega))).2.2.2;unfold Q3 bQ;simp only[Bool.and_eq_true,decide_eq_true_eq,List.length_map,List.length_range',List.all_eq_true];refine⟨⟨⟨hc.1,hc.2⟩,by omega⟩,λx hx=>?_⟩;obtain⟨j,hj,rfl⟩:=List.mem_map.1 hx;rw[List.mem_range'_1]at hj;have:=YN.1 (Bi A (s:=s+1) (j:=j) (by omega) (by omega));simp only[Yq,Bool.and_eq_true,decide_eq_true_eq];exact⟨⟨this.1,by omega⟩,by omega⟩
theorem QFl{ks:Nat->Nat}(V:Ok c b ks):∀(n s:Nat),s+n=bG c->Jw b.length ((List.range' s n).map λs=>df c b s (ks s))=true
 | 0,s,h=>rfl
 | n+1,s,h=>by
  have hs:s<bG c:=by omega
  have ih:=QFl V n (s+1) (by omega);rw[List.range'_succ,List.map_cons,Jw,ih];have h1:QU (df c b s (ks s))=true:=F7 A hs (V.le s hs) (uR A hs (V.le s hs));have h2:(((df c b s (ks s)).2.2.2.1:Bool)==decide (((List.range' (s+1) n).map λs=>df c b s (ks s)).length=0))=true:=by
   simp only[df,st,Zf,List.length_map,List.length_range',beq_iff_eq];rw[Bool.eq_iff_iff];simp only[decide_eq_true_eq];omega
  have h3:(df c b s (ks s)).2.1.all (λx=>aT x.2 0 ((b.length:Int)-1))=true:=by
   rw[zK f5];intro k hk;have L:=(loc A hs (k:=k) hk).c0;rw[QW];have e:aq f5 (df c b s (ks s)).2.1 k=b5 c b s k:=rfl;rw[e];omega
  rw[h1,h2,h3];rfl
theorem Qz8{ks:Nat->Nat}(V:Ok c b ks):Zz (QZ c b ks)=true:=by
 have hn:=nG A;have hb:=qn A;have hg:=QFl A V (bG c) 0 (by omega);rw[<- List.range_eq_range']at hg;have ha:(Qv (QZ c b ks)).all Q3=true:=by
  rw[List.all_eq_true];intro q hq;obtain⟨j,hj,rfl⟩:=List.mem_map.1 hq;exact Rb A V (by have:=List.mem_range.1 hj;omega)
 have fe:(Qw (QZ c b ks)).all Q3=true:=by
  rw[List.all_eq_true];intro q hq;obtain⟨j,hj,rfl⟩:=List.mem_map.1 hq;exact Rc A V (by have:=List.mem_range.1 hj;omega)
 have s6:(QB (QZ c b ks)).all JI=true:=by
  rw[List.all_eq_true];intro x hx;have:=A.batch;simp only[Z5,Bool.and_eq_true,List.all_eq_true]at this;have:=this.2 x hx;simp only[Jb,Bool.and_eq_true]at this;simp only[JI,Bool.and_eq_true];exact⟨(YN.1 this.1.2).1,(YN.1 this.2).1⟩
 simp only[Zz,Bool.and_eq_true,QW,beq_iff_eq];refine⟨⟨⟨⟨?_,?_⟩,?_⟩,?_⟩,⟨s6,ha,fe⟩,hg⟩
 ·rw[rU];omega
 ·simp[QZ];omega
 ·simp[QZ];omega
 ·show(1:Int)<=(b.length:Int)/\(b.length:Int)<=5;omega
theorem Qzd{ks:Nat->Nat}{s:Nat}(hs:s<bG c)(hk:ks s<=bV c b s):Qk (QZ c b ks) (s:Int)=if ks s<bV c b s then b5 c b s (ks s) else(0,0):=by
 have _:=A;unfold Qk;rw[if_pos (by rw[QW,rU];omega),Int.toNat_natCast,QAs ks hs];unfold rl;have e1:((df c b s (ks s)).1:Int)=(ks s:Nat):=rfl;have e2:(df c b s (ks s)).2.1.length=bV c b s:=rfl;rw[e1,e2];by_cases h:ks s<bV c b s
 ·rw[if_pos h,if_pos (by rw[QW];omega),Int.toNat_natCast];rfl
 ·rw[if_neg h,if_neg (by rw[QW];omega)]
theorem QGM{ks:Nat->Nat}(V:Ok c b ks){s:Nat}(hs:s<bG c):ZZ (QZ c b ks) (s:Int)=true↔En c b ks s:=by
 have hn:=nG A;unfold ZZ;rw[Qz8 A V,Qzd A hs (V.le s hs),Bool.true_and,Bool.and_eq_true,QW,rU];by_cases hk:ks s<bV c b s;rotate_left
 ·rw[if_neg hk];constructor
  ·intro h;exact absurd h.2 (by simp[JQ])
  ·intro h;exact absurd h.1 hk
 rw[if_pos hk];have L:=loc A hs hk;have hi:=L.c0;have h1:=L.c1;have h3:=L.c3;have h4:=L.c4;have h7:=L.c7;have hlen:((Qu (QZ c b ks)).length:Int)=(bG c:Nat):=by rw[rU]
 unfold En;generalize b5 c b s (ks s)=i at *;have iB:i.1=1\/i.1=2\/i.1=3\/i.1=4\/i.1=5\/i.1=6\/i.1=7\/i.1=8:=by omega
 unfold JQ;rw[hlen,Int.toNat_natCast]
 rcases iB with e | e | e | e | e | e | e | e
 ·have h0:=h1 e;have hq:=Gb (b:=b) ks (c:=c) (s:=s-1) (by omega);rw[hq];simp only[e,aQ,List.length_map,List.length_range',Bool.and_eq_true,decide_eq_true_eq];rw[show s-1+1=s by omega];simp;omega
 ·simp[e];omega
 ·have h0:=h3 e;have hq:=Gb (b:=b) ks (c:=c) (s:=s) (by omega);have hqa:=V.qa s (by omega);rw[hq];simp only[e,aQ,ou,List.length_map,List.length_range',Bool.and_eq_true,decide_eq_true_eq];simp;omega
 ·have h0:=h4 e;have hq:=Gc (b:=b) ks (c:=c) (s:=s) (by omega);rw[hq];simp only[e,bQ,List.length_map,List.length_range',Bool.and_eq_true,decide_eq_true_eq];simp;omega
 ·simp[e];omega
 ·simp[e];omega
 ·have h0:=h7 e;have hq:=Gc (b:=b) ks (c:=c) (s:=s-1) (by omega);have Re:=V.qb (s-1) (by omega);rw[hq];rw[show s-1+1=s by omega]at Re;simp only[e,bQ,ou,List.length_map,List.length_range',Bool.and_eq_true,decide_eq_true_eq];rw[show s-1+1=s by omega];simp;omega
 ·have:ov (QZ c b ks)=true↔∀ j,j<bG c->bV c b j<=ks j+1:=by
   unfold ov;rw[List.all_eq_true];constructor
   ·intro h j hj;have:=h (df c b j (ks j)) (List.mem_map.2 ⟨j,List.mem_range.2 hj,rfl⟩);simp only[Ju,decide_eq_true_eq]at this;have e1:((df c b j (ks j)).1:Int)=(ks j:Nat):=rfl;have e2:(df c b j (ks j)).2.1.length=bV c b j:=rfl;rw[e1,e2]at this;omega
   ·intro h x hx;obtain⟨j,hj,rfl⟩:=List.mem_map.1 hx;have:=h j (List.mem_range.1 hj);simp only[Ju,decide_eq_true_eq];have e1:((df c b j (ks j)).1:Int)=(ks j:Nat):=rfl;have e2:(df c b j (ks j)).2.1.length=bV c b j:=rfl;rw[e1,e2];omega
  simp only[e];simp[this];omega
theorem Qv5{ks:Nat->Nat}(V:Ok c b ks){s:Nat}(hs:s<bG c)(E:En c b ks s):Ok c b (dN ks s):=by
 obtain⟨hk,e1,e3,e4,e7,e8⟩:=E;obtain⟨c1,c2,c3,c4⟩:=QGF A hs hk;have L:=loc A hs hk;refine⟨λj hj=>?_,λj hj=>?_,λj hj=>?_,λh=>?_⟩
 ·by_cases h:j=s
  ·subst h;rw[YD];omega
  ·rw[ZC _ h];exact V.le j hj
 ·have hq:=V.qa j hj;by_cases h:j=s
  ·subst h;rw[YD,ZC _ (by omega),c1 hj]
   split
   ·rename_i h;have:=e3 h;omega
   ·omega
  ·by_cases h2:j+1=s
   ·subst h2;rw[YD,ZC _ h,c2 (by omega)]
    split
    ·rename_i h;have:=e1 h;simp only[Nat.add_sub_cancel]at this;omega
    ·omega
   ·rw[ZC _ h,ZC _ h2];exact hq
 ·have hq:=V.qb j hj;by_cases h:j=s
  ·subst h;rw[YD,ZC _ (by omega),c3 hj]
   split
   ·rename_i h;have:=e4 h;omega
   ·omega
  ·by_cases h2:j+1=s
   ·subst h2;rw[YD,ZC _ h,c4 (by omega)]
    split
    ·rename_i h;have:=e7 h;simp only[Nat.add_sub_cancel]at this;omega
    ·omega
   ·rw[ZC _ h,ZC _ h2];exact hq
 ·by_cases h8:(b5 c b s (ks s)).1=8
  ·intro j hj;have:=e8 h8 j hj;by_cases h2:j=s
   ·subst h2;rw[YD];omega
   ·rw[ZC _ h2];exact this
  ·exfalso;have hl:¬ ks s+1=bV c b s:=λe=>h8 (L.c0.2.2.2.2.2.2.1.2 (by simpa using e));obtain⟨j,hj,jt⟩:=h;by_cases h2:j=s
   ·subst h2;rw[YD]at jt;exact hl jt
   ·rw[ZC _ h2]at jt;have:=V.fl ⟨j,hj,jt⟩ s hs;omega
theorem Q2T{ks:Nat->Nat}(V:Ok c b ks){s:Nat}(hs:s<bG c)(E:En c b ks s):ZU (QZ c b ks) (s:Int)=QZ c b (dN ks s):=by
 have hen:=(QGM A V hs).2 E;have V':=Qv5 A V hs E;have hk:=E.1;have hnx:=Qzd A hs (V.le s hs);rw[if_pos hk]at hnx;unfold ZU;rw[if_pos hen];simp only;rw[hnx,Int.toNat_natCast,QAs ks hs];obtain⟨c1,c2,c3,c4⟩:=QGF A hs hk;obtain⟨f1,f2,f3⟩:=QCB (c:=c) (b:=b) hk;have L:=loc A hs hk;have H:=uR A hs (V.le s hs);have hi:=L.c0;have oO:bT (df c b s (ks s))+1=((ks s:Nat):Int)+1:=rfl;rw[oO];have fin:∀(y:Qc × List Qd × List Qd),YB y.1 (((ks s:Nat):Int)+1)=df c b s (ks s+1)->
   y.2.1=(List.range (bG c-1)).map (aQ c b (dN ks s))->y.2.2=(List.range (bG c-1)).map (bQ c b (dN ks s))->
   ((QB (QZ c b ks),(Qu (QZ c b ks)).set s (YB y.1 (((ks s:Nat):Int)+1)),y.2.1,y.2.2):Ql)=QZ c b (dN ks s):=by
  intro y h1 h2 h3;rw[h1,h2,h3];refine Prod.ext rfl (Prod.ext ?_ rfl);exact Bm _ _ _ _ _ (λ_=>by rw[YD]) (λj hj dk=>by rw[ZC _ dk])
 have iX:((b5 c b s (ks s)).1≠1)->((b5 c b s (ks s)).1≠3)->Qv (QZ c b ks)=(List.range (bG c-1)).map (aQ c b (dN ks s)):=by
  intro h1 h3;refine oN λj hj=>?_;unfold aQ;by_cases h:j=s
  ·subst h;rw[YD,ZC _ (by omega),c1 (by omega),if_neg h3];simp only[Nat.add_zero]
  ·by_cases h2:j+1=s
   ·subst h2;rw[YD,ZC _ h,c2 (by omega),if_neg h1];simp only[Nat.add_zero]
   ·rw[ZC _ h,ZC _ h2]
 have iY:((b5 c b s (ks s)).1≠4)->((b5 c b s (ks s)).1≠7)->Qw (QZ c b ks)=(List.range (bG c-1)).map (bQ c b (dN ks s)):=by
  intro h1 h3;refine oN λj hj=>?_;unfold bQ;by_cases h:j=s
  ·subst h;rw[YD,ZC _ (by omega),c3 (by omega),if_neg h1];simp only[Nat.add_zero]
  ·by_cases h2:j+1=s
   ·subst h2;rw[YD,ZC _ h,c4 (by omega),if_neg h3];simp only[Nat.add_zero]
   ·rw[ZC _ h,ZC _ h2]
 have hp:∀ j,aq QP (QB (QZ c b ks)) j=b9 b j:=λj=>rfl;have gT:∀ k1,(b5 c b s (ks s)).1=k1->df c b s (ks s+1)=st c b s (ks s+1) (F c b s (ks s)+kf (b5 c b s (ks s))) (G c b s (ks s)+kg (b5 c b s (ks s))) k1:=by
  intro k1 h;unfold df;rw[f1,f2,f3,h]
 have iB:(b5 c b s (ks s)).1=1\/(b5 c b s (ks s)).1=2\/(b5 c b s (ks s)).1=3\/(b5 c b s (ks s)).1=4\/(b5 c b s (ks s)).1=5\/(b5 c b s (ks s)).1=6\/(b5 c b s (ks s)).1=7\/(b5 c b s (ks s)).1=8:=by omega
 have g9:=L.c9;have w6:=L.c10;have Gd:=L.P7;have w7:=L.P8;have Bn:=L.c13;unfold Yc;simp only[hp]
 rcases iB with e | e | e | e | e | e | e | e
 ·
  obtain⟨h0,h1,h2⟩:=L.c1 e;have k7:0<s:=by omega
  have eK:kf (b5 c b s (ks s))=0:=by unfold kf;rw[if_neg (by omega)]
  have kD:kg (b5 c b s (ks s))=0:=by unfold kg;rw[if_neg (by omega)]
  have aY:=E.2.1 e;have hrc:rc c b s (ks s)=F c b s (ks s):=by unfold rc g8;rw[if_neg h2]
  have hq:=Gb (c:=c) (b:=b) ks (s:=s-1) (by omega);have cC:=Rb A V (s:=s-1) (by omega);have kE:(aQ c b ks (s-1)).2=(((rc c b s (ks s):Nat):Int),fE c b s (rc c b s (ks s)))::(List.range' (rc c b s (ks s)+1) (sc c b (s-1) (ks (s-1))-(rc c b s (ks s)+1))).map (λj:Nat=>((j:Int),fE c b s j)):=by
   unfold aQ;simp only;rw[show s-1+1=s by omega,show sc c b (s-1) (ks (s-1))-rc c b s (ks s)=(sc c b (s-1) (ks (s-1))-(rc c b s (ks s)+1))+1 by omega,List.range'_succ,List.map_cons]
  have uS:Zq (aQ c b ks (s-1))=((mq c (s-1),(List.range' (rc c b s (ks s)+1) (sc c b (s-1) (ks (s-1))-(rc c b s (ks s)+1))).map (λj:Nat=>((j:Int),fE c b s j))),(((rc c b s (ks s):Nat):Int),fE c b s (rc c b s (ks s))),true):=by
   unfold Zq;rw[cC,kE];simp[rp];rfl
  simp only[e,if_true,hq,uS];refine fin (_,_,_) ?_ ?_ (iY (by omega) (by omega))
  ·rw[gT 1 e,eK,kD,hrc];exact QQ9 A (λh=>by have:=w6 h.1 (by omega);omega) (λh=>by have:=Gd h;omega) (λh=>by have:=w7 h;omega) (λh=>by have:=Bn h.1 (by omega);omega)
  ·refine Bm _ _ _ _ _ (λh=>?_) (λj hj dk=>?_)
   ·unfold aQ;rw[show s-1+1=s by omega,YD,ZC _ (by omega),c2 k7,if_pos e]
   ·unfold aQ;by_cases h:j=s
    ·subst h;rw[YD,ZC _ (by omega),c1 (by omega),if_neg (by omega)];simp only[Nat.add_zero]
    ·rw[ZC _ h,ZC _ (by omega)]
 ·
  obtain⟨h1,h2⟩:=L.c2 e;have eK:kf (b5 c b s (ks s))=1:=by unfold kf;rw[if_pos e]
  have kD:kg (b5 c b s (ks s))=0:=by unfold kg;rw[if_neg (by omega)]
  have hf:F c b s (ks s)<b.length:=by omega
  have e2:(b5 c b s (ks s)).2.toNat=F c b s (ks s):=by omega
  simp only[e];simp;refine fin (_,_,_) ?_ (iX (by omega) (by omega)) (iY (by omega) (by omega));rw[gT 2 e,eK,kD,e2,h1];exact QJv A hs (V.le s hs) H hf (λh=>h2 (by omega)) (λh=>by have:=w6 h.1 (by omega);omega) (λh=>by have:=Gd h;omega) (λh=>by have:=w7 h;omega) (λh=>by have:=Bn h.1 (by omega);omega)
 ·
  obtain⟨h0,h1,h2⟩:=L.c3 e;have k7:s+1<bG c:=by omega
  have eK:kf (b5 c b s (ks s))=0:=by unfold kf;rw[if_neg (by omega)]
  have kD:kg (b5 c b s (ks s))=0:=by unfold kg;rw[if_neg (by omega)]
  have jI:=E.2.2.1 e;have sW:=L.F9 h2;have hsc:sc c b s (ks s)=F c b s (ks s)-1:=by unfold sc hP;rw[if_pos h2]
  have hq:=Gb (c:=c) (b:=b) ks (s:=s) k7;have cC:=Rb A V (s:=s) k7;have hqa:=V.qa s k7;have hb5:=qn A;have hY:sY (df c b s (ks s))=fE c b (s+1) (F c b s (ks s)-1):=by
   show vY c b s _ _=_;unfold vY;rw[if_pos ⟨h2,k7⟩]
  have hv:=YN.1 (Bh A (s:=s+1) (j:=F c b s (ks s)-1) (by omega) (by omega));have nI:Yn (aQ c b ks s) ((b5 c b s (ks s)).2,sY (df c b s (ks s)))=((mq c s,(aQ c b ks s).2++[(((sc c b s (ks s):Nat):Int),fE c b (s+1) (sc c b s (ks s)))]),true):=by
   unfold Yn;rw[cC,hY,h1,hsc];have ya:Yq (((F c b s (ks s):Nat):Int)-1,fE c b (s+1) (F c b s (ks s)-1))=true:=by
    simp only[Yq,Bool.and_eq_true,decide_eq_true_eq];exact⟨⟨hv.1,by omega⟩,by omega⟩
   rw[ya];have hl:(((aQ c b ks s).2.length:Nat):Int)<(aQ c b ks s).1:=by simp only[aQ,List.length_map,List.length_range'];omega
   rw[if_pos (by simp only[Bool.true_and,decide_eq_true_eq];exact hl),show((F c b s (ks s):Nat):Int)-1=((F c b s (ks s)-1:Nat):Int) by omega];rfl
  simp only[e,hq,nI];simp;refine fin (_,_,_) ?_ ?_ (iY (by omega) (by omega))
  ·rw[gT 3 e,eK,kD];exact QUC A h2
  ·refine Bm _ _ _ _ _ (λh=>?_) (λj hj dk=>?_)
   ·unfold aQ;rw[YD,ZC _ (by omega),c1 k7,if_pos e];rw[show sc c b s (ks s)+1-rc c b (s+1) (ks (s+1))=(sc c b s (ks s)-rc c b (s+1) (ks (s+1)))+1 by omega,List.range'_concat,List.map_append];simp only[List.map_cons,List.map_nil,Nat.one_mul];rw[show rc c b (s+1) (ks (s+1))+(sc c b s (ks s)-rc c b (s+1) (ks (s+1)))=sc c b s (ks s) by omega]
   ·unfold aQ;by_cases h:j+1=s
    ·subst h;rw[YD,ZC _ (by omega),c2 (by omega),if_neg (by omega)];simp only[Nat.add_zero]
    ·rw[ZC _ dk,ZC _ h]
 ·
  obtain⟨h0,h1⟩:=L.c4 e;have k7:s+1<bG c:=by omega
  have eK:kf (b5 c b s (ks s))=0:=by unfold kf;rw[if_neg (by omega)]
  have kD:kg (b5 c b s (ks s))=0:=by unfold kg;rw[if_neg (by omega)]
  have aY:=E.2.2.2.1 e;have h2:¬ (K1 c b s (ks s)=4\/(K1 c b s (ks s)=5/\(s:Int)<(bG c:Nat)-1)):=by
   rintro(h | h)
   ·have:=Gd h;omega
   ·have:=w7 h.1;omega
  have hrg:rg c b s (ks s)=G c b s (ks s):=by unfold rg hZ;rw[if_neg h2]
  have hq:=Gc (c:=c) (b:=b) ks (s:=s) k7;have cC:=Rc A V (s:=s) k7;have kE:(bQ c b ks s).2=(((rg c b s (ks s):Nat):Int),jm c b (s+1) (rg c b s (ks s)))::(List.range' (rg c b s (ks s)+1) (sg c b (s+1) (ks (s+1))-(rg c b s (ks s)+1))).map (λj:Nat=>((j:Int),jm c b (s+1) j)):=by
   unfold bQ;simp only;rw[show sg c b (s+1) (ks (s+1))-rg c b s (ks s)=(sg c b (s+1) (ks (s+1))-(rg c b s (ks s)+1))+1 by omega,List.range'_succ,List.map_cons]
  have uS:Zq (bQ c b ks s)=((mq c s,(List.range' (rg c b s (ks s)+1) (sg c b (s+1) (ks (s+1))-(rg c b s (ks s)+1))).map (λj:Nat=>((j:Int),jm c b (s+1) j))),(((rg c b s (ks s):Nat):Int),jm c b (s+1) (rg c b s (ks s))),true):=by
   unfold Zq;rw[cC,kE];simp[rp];rfl
  simp only[e,hq,uS];simp;refine fin (_,Qv (QZ c b ks),(Qw (QZ c b ks)).set _ _) ?_ (iX (by omega) (by omega)) ?_
  ·rw[gT 4 e,eK,kD,hrg];exact QY9 A (λh=>by have:=g9 h;omega) (λh=>by have:=w6 h.1 (by omega);omega) (λh=>by have:=w7 h;omega) (λh=>by have:=Bn h.1 (by omega);omega)
  ·refine Bm _ _ _ _ _ (λh=>?_) (λj hj dk=>?_)
   ·unfold bQ;rw[YD,ZC _ (by omega),c3 k7,if_pos e]
   ·unfold bQ;by_cases h:j+1=s
    ·subst h;rw[YD,ZC _ (by omega),c4 (by omega),if_neg (by omega)];simp only[Nat.add_zero]
    ·rw[ZC _ dk,ZC _ h]
 ·
  obtain⟨h0,h1,h2,h3⟩:=L.c5 e;have eK:kf (b5 c b s (ks s))=0:=by unfold kf;rw[if_neg (by omega)]
  have kD:kg (b5 c b s (ks s))=0:=by unfold kg;rw[if_neg (by omega)]
  simp only[e];simp;refine fin (_,_,_) ?_ (iX (by omega) (by omega)) (iY (by omega) (by omega));rw[gT 5 e,eK,kD,h1];exact QXY A hs (V.le s hs) H h0 h2 (λh=>by have:=g9 h;omega) (λh=>by have:=w6 h.1 (by omega);omega) ⟨λh=>by have:=L.P9 h;omega,λh=>h3 (by omega)⟩ (λh=>by have:=w7 h;omega) (λh=>by have:=Bn h.1 (by omega);omega)
 ·
  obtain⟨h1,h2,h3,h4⟩:=L.c6 e;have eK:kf (b5 c b s (ks s))=0:=by unfold kf;rw[if_neg (by omega)]
  have kD:kg (b5 c b s (ks s))=1:=by unfold kg;rw[if_pos e]
  have e2:(b5 c b s (ks s)).2.toNat=G c b s (ks s):=by omega
  simp only[e];simp;refine fin (_,_,_) ?_ (iX (by omega) (by omega)) (iY (by omega) (by omega));rw[gT 6 e,eK,kD,e2,h1];exact QKa A hs (V.le s hs) H h2 h3 (λhr hn=>h4 hr (by omega)) (λh=>by have:=g9 h;omega) (λh=>by have:=w6 h.1 (by omega);omega) L.c14 (λh=>by have:=L.P9 h;omega)
 ·
  obtain⟨h0,h1,h2⟩:=L.c7 e;have k7:0<s:=by omega
  have eK:kf (b5 c b s (ks s))=0:=by unfold kf;rw[if_neg (by omega)]
  have kD:kg (b5 c b s (ks s))=0:=by unfold kg;rw[if_neg (by omega)]
  have jI:=E.2.2.2.2.1 e;have h15:=L.F8 h2;have C9:sg c b s (ks s)=G c b s (ks s)-1:=by unfold sg mj;rw[if_pos h2]
  have hq:=Gc (c:=c) (b:=b) ks (s:=s-1) (by omega);have cC:=Rc A V (s:=s-1) (by omega);have Re:=V.qb (s-1) (by omega);rw[show s-1+1=s by omega]at Re;have hb5:=qn A;have hD:sD (df c b s (ks s))=jm c b s (G c b s (ks s)-1):=by
   show vD c b s _ _=_;unfold vD;rw[if_pos ⟨h2,k7⟩]
  have hv:=YN.1 (Bi A (s:=s) (j:=G c b s (ks s)-1) (by omega) (by omega));have nI:Yn (bQ c b ks (s-1)) ((b5 c b s (ks s)).2,sD (df c b s (ks s)))=((mq c (s-1),(bQ c b ks (s-1)).2++[(((sg c b s (ks s):Nat):Int),jm c b s (sg c b s (ks s)))]),true):=by
   unfold Yn;rw[cC,hD,h1,C9];have ya:Yq (((G c b s (ks s):Nat):Int)-1,jm c b s (G c b s (ks s)-1))=true:=by
    simp only[Yq,Bool.and_eq_true,decide_eq_true_eq];exact⟨⟨hv.1,by omega⟩,by omega⟩
   rw[ya];have hl:(((bQ c b ks (s-1)).2.length:Nat):Int)<(bQ c b ks (s-1)).1:=by
    simp only[bQ,List.length_map,List.length_range'];rw[show s-1+1=s by omega];omega
   rw[if_pos (by simp only[Bool.true_and,decide_eq_true_eq];exact hl),show((G c b s (ks s):Nat):Int)-1=((G c b s (ks s)-1:Nat):Int) by omega];rfl
  simp only[e,hq,nI];simp;refine fin (_,Qv (QZ c b ks),(Qw (QZ c b ks)).set _ _) ?_ (iX (by omega) (by omega)) ?_
  ·rw[gT 7 e,eK,kD];exact QQT A h2
  ·refine Bm _ _ _ _ _ (λh=>?_) (λj hj dk=>?_)
   ·unfold bQ;rw[show s-1+1=s by omega,YD,ZC _ (by omega),c4 k7,if_pos e];rw[show sg c b s (ks s)+1-rg c b (s-1) (ks (s-1))=(sg c b s (ks s)-rg c b (s-1) (ks (s-1)))+1 by omega,List.range'_concat,List.map_append];simp only[List.map_cons,List.map_nil,Nat.one_mul];rw[show rg c b (s-1) (ks (s-1))+(sg c b s (ks s)-rg c b (s-1) (ks (s-1)))=sg c b s (ks s) by omega]
   ·unfold bQ;by_cases h:j=s
    ·subst h;rw[YD,ZC _ (by omega),c3 (by omega),if_neg (by omega)];simp only[Nat.add_zero]
    ·rw[ZC _ h,ZC _ (by omega)]
 ·
  have eK:kf (b5 c b s (ks s))=0:=by unfold kf;rw[if_neg (by omega)]
  have kD:kg (b5 c b s (ks s))=0:=by unfold kg;rw[if_neg (by omega)]
  simp only[e];simp;refine fin (_,_,_) ?_ (iX (by omega) (by omega)) (iY (by omega) (by omega));rw[gT 8 e,eK,kD];exact QYs A (λh=>by have:=g9 h;omega) (λh=>by have:=w6 h.1 (by omega);omega) (λh=>by have:=Gd h;omega) (λh=>by have:=w7 h;omega) (λh=>by have:=Bn h.1 (by omega);omega)
theorem QN8{ks:Nat->Nat}(V:Ok c b ks){s:Nat}(hs:s<bG c)(E:¬ En c b ks s):ZU (QZ c b ks) (s:Int)=QZ c b ks:=by
 unfold ZU;rw[if_neg (λh=>E ((QGM A V hs).1 h))]
end
end Go.Proofs.YtdplaepmjogjjaaGreat.Am
namespace Go.Proofs.YtdplaepmjogjjaaGreat.Am
open Go Sz
def QtT:Bool:=[1,2].all λds:Int=>[1,2,3,4].all λn:Int=>[0,1,2,3].all λs:Int=>[1,2,3,4,5].all λM:Int=>[true,false].all λrd =>
 decide (((Z7 ds n s M rd).length:Int)<=7*M+1)
set_option maxRecDepth 100000 in
theorem Q2P:QtT=true:=by kernel_rfl
theorem QYZ{ds n s M:Int}(rd:Bool)(h1:1<=ds)(h2:ds<=2)(h3:n<=4)(h4:0<=s)(h5:s<n)(h6:1<=M)(h7:M<=5):((Z7 ds n s M rd).length:Int)<=7*M+1:=by
 have h:=Q2P;unfold QtT at h;rw[List.all_eq_true]at h;have h:=h ds (by have:ds=1\/ds=2:=(by omega);rcases this with rfl | rfl <;> simp);rw[List.all_eq_true]at h;have h:=h n (by have:n=1\/n=2\/n=3\/n=4:=(by omega);rcases this with rfl | rfl | rfl | rfl <;> simp);rw[List.all_eq_true]at h;have h:=h s (by have:s=0\/s=1\/s=2\/s=3:=(by omega);rcases this with rfl | rfl | rfl | rfl <;> simp);rw[List.all_eq_true]at h;have h:=h M (by have:M=1\/M=2\/M=3\/M=4\/M=5:=(by omega);rcases this with rfl | rfl | rfl | rfl | rfl <;> simp);rw[List.all_eq_true]at h;have h:=h rd (by cases rd <;> simp);simpa using h
theorem QDS{α β:Type}(d:α)(f:α->β)(l:List α):l.map f=(List.range l.length).map λi=>f (aq d l i):=by
 apply List.ext_getElem?;intro i;simp only[List.getElem?_map];by_cases h:i<l.length
 ·rw[List.getElem?_range h,Y4 h d];rfl
 ·rw[List.getElem?_eq_none (by omega),List.getElem?_eq_none (by simp;omega)];rfl
theorem Q1K{α:Type}(l:List α)(f g:α->Bool):l.any (λx=>f x||g x)=(l.any f||l.any g):=by
 induction l with
 | nil=>rfl
 | cons x l ih=>simp only[List.any_cons,ih];ac_rfl
theorem QZE{α:Type}(l:List α)(f:α->Bool)(q:Bool):l.any (λx=>f x&&q)=(l.any f&&q):=by
 induction l with
 | nil=>rfl
 | cons x l ih=>simp only[List.any_cons,ih];cases q <;> simp
theorem QDM{α:Type}(f g:α->List (List Int)):∀(l:List α),(∀ x,x∈l->(f x).length=(g x).length)->Zg (l.flatMap f) (l.flatMap g)=(l.flatMap λx=>(Zg (f x) (g x)).1,l.any λx=>(Zg (f x) (g x)).2)
 | [],h=>rfl
 | x::l,h=>by
  rw[List.flatMap_cons,List.flatMap_cons,Xt _ _ _ _ (h x List.mem_cons_self),QDM f g l (λy hy=>h y (List.mem_cons_of_mem _ hy))];simp
section
variable {c:QC} {b:List Qi} (A:ql c b)
include A
theorem Ge:QO c=(bG c:Nat):=by
 have:=(tW (c:=c)).2.2.2 A.aA;rw[this];simp[bG]
theorem QMD{s:Nat}(hs:s<bG c):1<=bV c b s:=by
 have h:=(Ga A hs).2.2;apply Classical.byContradiction;intro hn;rw[show bV c b s=0 by omega]at h;simp[K1,Ja]at h
theorem QAD{s:Nat}(hs:s<bG c):bV c b s<=7*b.length+1:=by
 have h1:=nG A;have h2:=qn A;have:=QYZ (ds:=lP c) (n:=(bG c:Nat)) (s:=(s:Nat)) (M:=b.length) (YK c s) A.ds.1 A.ds.2 (by omega) (by omega) (by omega) (by omega) (by omega);unfold bV YM;omega
omit A in
theorem Qzf(n aF:Int):∀ k:Nat,Jz c n aF k=(List.range k).map λs:Nat =>
  JC (slice (Q8 c) (QG (Q8 c) (Zh c) s).1 (QG (Q8 c) (Zh c) s).2) (Z7 (lP c) n s aF (aq false (nh c) s)) (decide ((s:Int)=n-1)) (aq false (nh c) s)
 | 0=>rfl
 | k+1=>by rw[Jz,Qzf n aF k,List.range_succ,List.map_append];rfl
theorem Qwg:Ze c b=QZ c b (λ_=>0):=by
 unfold Ze;rw[if_pos (QYj A),Ge A,Qzf,Int.toNat_natCast];refine Prod.ext rfl (Prod.ext ?_ (Prod.ext ?_ ?_))
 ·refine oN λs hs=>?_;have hm:=(w4 A hs).1;have e:slice (Q8 c) (QG (Q8 c) (Zh c) (s:Int)).1 (QG (Q8 c) (Zh c) (s:Int)).2=dZ c s:=QTz A.aA (by simp only[bG]at hs;omega);rw[e];unfold JC;rw[if_pos hm];have e2:decide ((s:Int)=((bG c:Nat):Int)-1)=Zf c s:=by
   simp only[Zf];rw[Bool.eq_iff_iff];simp only[decide_eq_true_eq];omega
  rw[e2];simp[df,st,F,G,K1,cf,cg,Ja,YA,J7,vX,vY,vG,vD,JD,YQ,fh,YM,YK]
 ·have e:=Bl A;show(JF c).map (λn=>((n,[]):Qd))=_;rw[QDS (0:Int),e];refine oN λs hs=>?_;simp[aQ,rc,sc,F,K1,cf,Ja,g8,hP]
 ·have e:=Bl A;show(JF c).map (λn=>((n,[]):Qd))=_;rw[QDS (0:Int),e];refine oN λs hs=>?_;simp[bQ,rg,sg,G,K1,cg,Ja,hZ,mj]
theorem QCg:Ok c b (λ_=>0):=by
 refine⟨λs hs=>Nat.zero_le _,λs hs=>?_,λs hs=>?_,λh=>?_⟩
 ·have:=rT A hs;simp[rc,sc,F,K1,cf,Ja,g8,hP];omega
 ·have:=rT A hs;simp[rg,sg,G,K1,cg,Ja,hZ,mj];omega
 ·obtain⟨s,hs,e⟩:=h;have:=QMD A hs;omega
def left(c:QC)(b:List Qi)(ks:Nat->Nat):Nat:=((List.range (bG c)).map λs=>bV c b s-ks s).sum
omit A in
theorem Rf{n:Nat}{f g:Nat->Nat}(h:∀ j,j<n->f j<=g j):((List.range n).map f).sum<=((List.range n).map g).sum:=by
 induction n with
 | zero=>simp
 | succ n ih =>
  rw[List.range_succ,List.map_append,List.map_append,List.sum_append,List.sum_append];have:=ih (λj hj=>h j (by omega));have:=h n (by omega);simp;omega
omit A in
theorem Q3O{n:Nat}{f g:Nat->Nat}{k:Nat}(hk:k<n)(h:∀ j,j<n->f j<=g j)(aY:f k+1<=g k):((List.range n).map f).sum+1<=((List.range n).map g).sum:=by
 induction n with
 | zero=>omega
 | succ n ih =>
  rw[List.range_succ,List.map_append,List.map_append,List.sum_append,List.sum_append];by_cases e:k=n
  ·subst e;have:=Rf (n:=k) (f:=f) (g:=g) (λj hj=>h j (by omega));simp;omega
  ·have:=ih (by omega) (λj hj=>h j (by omega));have:=h n (by omega);simp;omega
omit A in
theorem Rg{ks iG:Nat->Nat}(h:∀ j,ks j<=iG j):left c b iG<=left c b ks:=Rf λj hj=>by have:=h j;omega
omit A in
theorem QUu{n:Nat}{f g:Nat->Nat}{k:Nat}(hk:k<n)(h:∀ j,j<n->j≠k->f j=g j)(he:f k+1=g k):((List.range n).map f).sum+1=((List.range n).map g).sum:=by
 induction n with
 | zero=>omega
 | succ n ih =>
  rw[List.range_succ,List.map_append,List.map_append,List.sum_append,List.sum_append];by_cases e:k=n
  ·subst e;have:(List.range k).map f=(List.range k).map g:=oN λj hj=>h j (by omega) (by omega);rw[this];simp;omega
  ·have:=ih (by omega) (λj hj=>h j (by omega));have:=h n (by omega) (by omega);simp;omega
omit A in
theorem QZu{ks:Nat->Nat}{s:Nat}(hs:s<bG c)(hk:ks s<bV c b s):left c b (dN ks s)+1=left c b ks :=
 QUu hs (λj hj dk=>by rw[ZC _ dk]) (by rw[YD];omega)
omit A in
theorem Rh{ks:Nat->Nat}:left c b ks=0↔∀ s,s<bG c->bV c b s<=ks s:=by
 unfold left;constructor
 ·intro h s hs;apply Classical.byContradiction;intro hn;have:=Q3O (n:=bG c) (f:=λ_=>0) (g:=λs=>bV c b s-ks s) hs (λj hj=>Nat.zero_le _) (by omega);omega
 ·intro h;have:=Rf (n:=bG c) (f:=λs=>bV c b s-ks s) (g:=λ_=>0) (λj hj=>by have:=h j hj;omega);have e:((List.range (bG c)).map λ_=>0).sum=0:=by
   generalize bG c=n
   induction n with
   | zero=>rfl
   | succ n ih=>rw[List.range_succ,List.map_append,List.sum_append,ih];rfl
  omega
theorem Q3N{ks:Nat->Nat}:left c b ks<=bG c*(7*b.length+1):=by
 unfold left;have:∀ n,n<=bG c->((List.range n).map λs=>bV c b s-ks s).sum<=n*(7*b.length+1):=by
  intro n hn
  induction n with
  | zero=>simp
  | succ n ih =>
   rw[List.range_succ,List.map_append,List.sum_append,Nat.add_mul];have:=ih (by omega);have:=QAD A (s:=n) (by omega);simp;omega
 exact this _ (Nat.le_refl _)
theorem Ri{ks:Nat->Nat}:left c b ks<=144:=by
 have h1:=Q3N A (ks:=ks);have h2:=nG A;have h3:=qn A;have:bG c*(7*b.length+1)<=4*36:=Nat.mul_le_mul (by omega) (by omega);omega
theorem Rj{ks:Nat->Nat}(V:Ok c b ks):Y5 (QZ c b ks)=(left c b ks:Nat):=by
 unfold Y5;have e:((Qu (QZ c b ks)).map Jx).sum=((left c b ks:Nat):Int):=by
  unfold left;show(((List.range (bG c)).map (λs=>df c b s (ks s))).map Jx).sum=_;rw[List.map_map];have:∀ n,n<=bG c->((List.range n).map (Jx ∘ λs=>df c b s (ks s))).sum=((((List.range n).map λs=>bV c b s-ks s).sum:Nat):Int):=by
   intro n hn
   induction n with
   | zero=>rfl
   | succ n ih =>
    rw[List.range_succ,List.map_append,List.map_append,List.sum_append,List.sum_append,ih (by omega)];have hle:=V.le n (by omega);have e1:(df c b n (ks n)).1=((ks n:Nat):Int):=rfl;have e2:(df c b n (ks n)).2.1.length=bV c b n:=rfl;simp only[List.map_cons,List.map_nil,List.sum_cons,List.sum_nil,Function.comp_apply,Jx,e1,e2];unfold fB fC;repeat' split
    all_goals omega
  exact this _ (Nat.le_refl _)
 have:=Ri A (ks:=ks);have e':(List.map Jx (QZ c b ks).2.1).sum=((left c b ks:Nat):Int):=e;rw[e',Qy (by omega) (by omega)]
theorem Rk{ks:Nat->Nat}(V:Ok c b ks):YS (QZ c b ks)=decide (left c b ks=0):=by
 unfold YS;rw[Rj A V];have:=nG A;have e:=rU (c:=c) (b:=b) ks;show(decide (0<(Qu (QZ c b ks)).length)&&_)=_;rw[e,Bool.eq_iff_iff];simp only[Bool.and_eq_true,decide_eq_true_eq,beq_iff_eq];omega
theorem QMV{ks:Nat->Nat}(V:Ok c b ks)(h:left c b ks≠0):∃ s,s<bG c/\En c b ks s:=by
 refine QQE A V ?_;apply Classical.byContradiction;intro hn;refine h (Rh.2 λs hs=>?_);apply Classical.byContradiction;intro hk;exact hn ⟨s,hs,by omega⟩
omit A in
theorem Q3L(k n:Nat)(ks:Nat->Nat):ZH k (n+1) (QZ c b ks)=ZH (k+1) n (ZU (QZ c b ks) ((k % bG c:Nat):Int)):=by
 rw[ZH,rU];rfl
theorem w8:∀(n k:Nat){ks:Nat->Nat},Ok c b ks->∃ iG,Ok c b iG/\ZH k n (QZ c b ks)=QZ c b iG/\(∀ j,ks j<=iG j)/\(left c b iG<left c b ks\/(iG=ks/\∀ i,i<n->¬ En c b ks ((k+i) % bG c)))
 | 0,k,ks,V=>⟨ks,V,rfl,λ_=>Nat.le_refl _,.inr ⟨rfl,λi hi=>by omega⟩⟩
 | n+1,k,ks,V=>by
  have hn:=nG A;have aY:k % bG c<bG c:=Nat.mod_lt _ (by omega);rw[Q3L];by_cases E:En c b ks (k % bG c)
  ·have V1:=Qv5 A V aY E;obtain⟨k2,V2,e2,h2,_⟩:=w8 n (k+1) V1;rw[Q2T A V aY E];have hb:∀ j,ks j<=dN ks (k % bG c) j:=λj=>by unfold dN;split <;> omega
   refine⟨k2,V2,e2,λj=>Nat.le_trans (hb j) (h2 j),.inl ?_⟩;have h3:=QZu (b:=b) aY E.1;have h4:=Rg (c:=c) (b:=b) h2;omega
  ·rw[QN8 A V aY E];obtain⟨k2,V2,e2,h2,h3⟩:=w8 n (k+1) V;refine⟨k2,V2,e2,h2,h3.imp (λh=>h) λ⟨h4,h5⟩=>⟨h4,λi hi=>?_⟩⟩
   cases i with
   | zero=>exact E
   | succ i=>have:=h5 i (by omega);rwa [show k+1+i=k+(i+1) by omega]at this
omit A in
theorem Rl:∀(n k m:Nat)(p:Ql),ZH k (n+m) p=ZH (k+n) m (ZH k n p)
 | 0,k,m,p=>by rw[Nat.zero_add];rfl
 | n+1,k,m,p=>by
  rw[show n+1+m=(n+m)+1 by omega,ZH,Rl n (k+1) m,ZH,show k+1+n=k+(n+1) by omega]
theorem QwN{ks:Nat->Nat}(V:Ok c b ks)(k:Nat)(h:left c b ks≠0):∃ iG,Ok c b iG/\ZH k (bG c) (QZ c b ks)=QZ c b iG/\(∀ j,ks j<=iG j)/\left c b iG<left c b ks:=by
 obtain⟨k1,V1,e1,h1,h2⟩:=w8 A (bG c) k V;refine⟨k1,V1,e1,h1,?_⟩
 rcases h2 with h2 | ⟨_,h3⟩
 ·exact h2
 ·exfalso;have hn:=nG A;obtain⟨s,hs,E⟩:=QMV A V h;have aEA:k % bG c<bG c:=Nat.mod_lt _ (by omega);have hk:=Nat.div_add_mod k (bG c);refine h3 (if k % bG c<=s then s-k % bG c else s+bG c-k % bG c) (by split <;> omega) ?_;have:(k+if k % bG c<=s then s-k % bG c else s+bG c-k % bG c) % bG c=s:=by
   split
   ·rw[show k+(s-k % bG c)=bG c*(k / bG c)+s by omega,Nat.mul_add_mod,Nat.mod_eq_of_lt hs]
   ·rw[show k+(s+bG c-k % bG c)=bG c*(k / bG c)+(bG c+s) by omega,Nat.mul_add_mod,Nat.add_mod_left,Nat.mod_eq_of_lt hs]
  rw[this];exact E
theorem QHO:∀(L n k:Nat){ks:Nat->Nat},Ok c b ks->left c b ks<=L->bG c*L<=n->∃ iG,Ok c b iG/\ZH k n (QZ c b ks)=QZ c b iG/\left c b iG=0
 | 0,n,k,ks,V,h1,_=>by
  obtain⟨k1,V1,e1,h2,_⟩:=w8 A n k V;exact⟨k1,V1,e1,by have:=Rg (c:=c) (b:=b) h2;omega⟩
 | L+1,n,k,ks,V,h1,h2=>by
  by_cases h:left c b ks=0
  ·obtain⟨k1,V1,e1,h3,_⟩:=w8 A n k V;exact⟨k1,V1,e1,by have:=Rg (c:=c) (b:=b) h3;omega⟩
  ·obtain⟨k1,V1,e1,h3,h4⟩:=QwN A V k h;rw[Nat.mul_add,Nat.mul_one]at h2;obtain⟨k2,V2,e2,h5⟩:=QHO L (n-bG c) (k+bG c) V1 (by omega) (by omega);refine⟨k2,V2,?_,h5⟩;rw[show n=bG c+(n-bG c) by omega,Rl,e1,e2]
omit A in
theorem Q0k{ks iG:Nat->Nat}(h:∀ s,s<bG c->ks s=iG s):QZ c b ks=QZ c b iG:=by
 refine Prod.ext rfl (Prod.ext ?_ (Prod.ext ?_ ?_))
 ·exact oN λs hs=>by rw[h s hs]
 ·exact oN λs hs=>by unfold aQ;rw[h s (by omega),h (s+1) (by omega)]
 ·exact oN λs hs=>by unfold bQ;rw[h s (by omega),h (s+1) (by omega)]
theorem QDJ{ks:Nat->Nat}(V:Ok c b ks)(h:left c b ks=0):QZ c b ks=QZ c b (bV c b):=by
 have _:=A;exact Q0k λs hs=>by have:=V.le s hs;have:=Rh.1 h s hs;omega
def nJ(c:QC)(b:List Qi)(j:Nat):QL:=((List.range (bG c)).flatMap (λs=>JD c b s j),YQ c b j,(List.range (bG c)).any λs=>fh c b s j j)
theorem QzO:∀(k s:Nat),s+k=bG c->(List.range' s k).flatMap (λs=>dZ c s)=(Q8 c).drop (Zv (Q8 c) (Zh c) s)
 | 0,s,h=>by
  rw[show s=(Zh c).length+1 by unfold bG at h;omega,uO A.aA,List.drop_length];rfl
 | k+1,s,h=>by
  rw[List.range'_succ,List.flatMap_cons,QzO k (s+1) (by omega),w1 A.aA (s:=s) (by unfold bG at h;omega)]
theorem QZT:nJ c b 0=ZA (Q8 c):=by
 unfold nJ ZA;rw[if_pos A.model];refine Prod.ext ?_ (Prod.ext rfl ?_)
 ·show(List.range (bG c)).flatMap (λs=>(ZA (dZ c s)).1)=_;have h:=QzO A (bG c) 0 (by omega);rw[<- List.range_eq_range']at h;have e0:(Q8 c).drop (Zv (Q8 c) (Zh c) 0)=Q8 c:=rfl;rw[e0]at h;have e1:(Q8 c).map (λo=>List.replicate o.2.2.2.length (0:Int))=((List.range (bG c)).flatMap λs=>dZ c s).map (λo=>List.replicate o.2.2.2.length (0:Int)):=by rw[h]
  rw[e1,List.map_flatMap];have:∀ l:List Nat,(∀ s,s∈l->s<bG c)->l.flatMap (λs=>(ZA (dZ c s)).1)=l.flatMap (λs=>(dZ c s).map λo=>List.replicate o.2.2.2.length (0:Int)):=by
   intro l hl
   induction l with
   | nil=>rfl
   | cons s l ih =>
    rw[List.flatMap_cons,List.flatMap_cons,ih (λt ht=>hl t (List.mem_cons_of_mem _ ht))];unfold ZA;rw[if_pos (w4 A (hl s List.mem_cons_self)).1]
  exact this _ (λs hs=>List.mem_range.1 hs)
 ·show((List.range (bG c)).any λs=>false)=false;simp
theorem QS5{j:Nat}(hj:j<b.length):Z6 (nJ c b j) (zM (Q8 c) (b9 b j))=nJ c b (j+1):=by
 have hp:=oM A hj;have Gf:=Qw4 A.aA (b9 b j) (bG c) 0 (by simp[bG]);have Rm:=Qy8 A.aA (b9 b j).1 (bG c) 0 (by simp[bG]);rw[<- List.range_eq_range']at Gf Rm;have e0:(Q8 c).drop (Zv (Q8 c) (Zh c) 0)=Q8 c:=rfl;have e1:jZ (Q8 c) (Zh c) (b9 b j).1 0=(b9 b j).1:=Qwh A.aA _;have e2:J9 (Q8 c) (Zh c) (b9 b j) 0=QN (Q8 c) (QF (Q8 c) (b9 b j).1).1 (QV (ZX (Q8 c) (b9 b j).1) (b9 b j).2).1:=by unfold J9;rw[e0,e1]
 rw[e2]at Gf;rw[e0,e1]at Rm;have ey:aq [] (QF (Q8 c) (b9 b j).1).1 (Q8 c).length=ZX (Q8 c) (b9 b j).1:=rfl;have hra:=QDM (λs=>JD c b s j) (λs=>(jn c b s j).1) (List.range (bG c)) (λs hs=>by
  have hs:=List.mem_range.1 hs;rw[(P5 A hs (g:=j) (by omega)).1,(Qug A hs hj).1])
 unfold zM;rw[if_pos hp];simp only[ey];unfold Z6;simp only;rw[Gf.1,Gf.2,Rm];have Rn:Zg (nJ c b j).1 ((List.range (bG c)).flatMap λs=>(nA (Q8 c) (Zh c) (b9 b j) s).1)=_:=hra;rw[Rn];refine Prod.ext rfl (Prod.ext rfl ?_);show((List.range (bG c)).any (λs=>fh c b s j j)||_||_||_)=(List.range (bG c)).any (λs=>fh c b s (j+1) (j+1));have hs:∀ s,fh c b s (j+1) (j+1)=(fh c b s j j||(nz (Q8 c) (Zh c) (b9 b j).1 s||(Zf c s&&qm c b j))||((jn c b s j).2.2||(Zg (JD c b s j) (jn c b s j).1).2||(Zf c s&&(QV (gO c b j) (b9 b j).2).2))):=by
  intro s;unfold fh;rw[List.range_succ,List.any_append,List.any_append];simp only[List.any_cons,List.any_nil,Bool.or_false,w3,Bg];ac_rfl
 have hl:(List.range (bG c)).any (Zf c)=true:=by
  rw[List.any_eq_true];exact⟨(Zh c).length,List.mem_range.2 (by simp[bG]),by simp[Zf,bG]⟩
 have gq:(List.range (bG c)).any (λs=>Zf c s)=true:=hl;have:(List.range (bG c)).any (λs=>fh c b s (j+1) (j+1))=(List.range (bG c)).any (λs=>(fh c b s j j||(nz (Q8 c) (Zh c) (b9 b j).1 s||(Zf c s&&qm c b j))||((jn c b s j).2.2||(Zg (JD c b s j) (jn c b s j).1).2||(Zf c s&&(QV (gO c b j) (b9 b j).2).2)))):=by
  congr 1;funext s;exact hs s
 rw[this];simp only[Q1K,QZE,gq,Bool.true_and];unfold qm;show(_||(_||(ZO (gO c b j) (b9 b j).2).2||(QV (gO c b j) (b9 b j).2).2||_)||_||(Q4 (YQ c b j) (ZO (gO c b j) (b9 b j).2).1).2)=_;simp only[jn];generalize(List.range (bG c)).any (λs=>nz (Q8 c) (Zh c) (b9 b j).1 s)=X;ac_rfl
theorem Qyg:∀(n j:Nat),j+n=b.length->zN (Q8 c) (b.drop j) (nJ c b j)=nJ c b b.length
 | 0,j,h=>by rw[show j=b.length by omega,List.drop_length];rfl
 | n+1,j,h=>by
  have hj:j<b.length:=by omega
  rw[List.drop_eq_getElem_cons hj,zN];have e:b[j]=b9 b j:=(tS (List.getElem?_eq_getElem hj) QP).symm;rw[e,QS5 A hj];exact Qyg n (j+1) (by omega)
theorem Q0P:oE (Q8 c) b=nJ c b b.length:=by
 unfold oE;rw[if_pos A.batch,<- QZT A];have:=Qyg A b.length 0 (by omega);rwa [List.drop_zero]at this
theorem QuU:YJ (QZ c b (bV c b))=oE (Q8 c) b:=by
 have V:Ok c b (bV c b):=by
  refine⟨λs hs=>Nat.le_refl _,λs hs=>?_,λs hs=>?_,λ_ s hs=>by omega⟩
  ·have:=rS A (s:=s) (by omega);have:=rS A hs;have:=rT A hs;omega
  ·have:=rS A (s:=s) (by omega);have:=rS A hs;have:=rT A hs;omega
 have hd:YS (QZ c b (bV c b))=true:=by
  rw[Rk A V];exact decide_eq_true (Rh.2 λs hs=>Nat.le_refl _)
 unfold YJ;rw[if_pos hd,Q0P A];have fS:∀ s,s<bG c->df c b s (bV c b s)=st c b s (bV c b s) b.length b.length 8:=by
  intro s hs;obtain⟨h1,h2,h3⟩:=Ga A hs;unfold df;rw[h1,h2,h3]
 have xO:Qu (QZ c b (bV c b))=(List.range (bG c)).map λs=>st c b s (bV c b s) b.length b.length 8:=oN fS;rw[xO];refine Prod.ext ?_ (Prod.ext ?_ ?_)
 ·simp only[nJ];rw[List.flatMap_map];rfl
 ·simp only[nJ];rw[List.map_map,show bG c=(Zh c).length+1 from rfl,List.range_succ,List.map_append,List.map_cons,List.map_nil,List.getLast?_append];simp[st,Zf,bG]
 ·simp only[nJ];rw[List.any_map];rfl
end
end Go.Proofs.YtdplaepmjogjjaaGreat.Am
namespace Go.Proofs.YtdplaepmjogjjaaGreat.Am
open Go Sz
section
variable {c:QC} {b:List Qi} (A:ql c b)
include A
end
end Go.Proofs.YtdplaepmjogjjaaGreat.Am

set_option linter.all false
namespace Go.Proofs.YtdplaepmjogjjaaGreat.Am
open Go Sz
section
variable {m:Zo} {aA:List Int} (hc:Zr m aA=true)
include hc
end
end Go.Proofs.YtdplaepmjogjjaaGreat.Am
namespace Go.Proofs.YtdplaepmjogjjaaGreat.Am
open Go Sz
end Go.Proofs.YtdplaepmjogjjaaGreat.Am
namespace Go.Proofs.YtdplaepmjogjjaaGreat.Am
open Go Sz
def QCT(r:List Int):Int:=if 0<r.length then aI (aq 0 r (r.length-1)+1) else 1
def ext(lim:Int)(r:List Int):List (List Int):=(List.range (lim+1-QCT r).toNat).map λj:Nat=>r++[QCT r+(j:Int)]
def fill(now:List Int)(i:Nat):Nat->List Int
 | 0=>now
 | f+1=>fill (now.set i (aI (aq 0 now (i-1)+1))) (i+1) f
end Go.Proofs.YtdplaepmjogjjaaGreat.Am

