/- -/
import Derived.Test.YtdplaepmjogjjaaGreatVIM3
namespace Go.Proofs.YtdplaepmjogjjaaGreat.Am
open Go Go.RowKit Go.Proofs.YtdplaepmjogjjaaGreat
set_option linter.all false
noncomputable section
variable (K:aB->Prop)
def tZ(t:Int):aB:=b7 (aL t)
def Hk:aI:=Qg 55 [(.c (.sl QQ)),(.c TI)] λx=>(some (bJ (α:=List bp) x.1 x.2.1),tZ (bg (α:=List bp) x.1 x.2.1))
def QYe:aF:=⟨[],false⟩
def QK3:af :=
 (ag [(.ae [ab 4 (ar 0)]),(.ae [ab 5 1,ab 6 0,a9 7 6,aw 8 .sub 5 7,ab 1 8]),(ag [(.ae [ab 9 1,aw 10 .lss 9 (ar 0)]),(.cond 10 (ag [(.ae [ab 4 (ar (-1))]),.ret]) .skip)]),(.ae [ab 11 1,ab 4 11]),.ret])
def QWn:List (bm × Md):=[(.t 4,.one .d)]
theorem QIa(a:List bp)(left:Int)(hp:bJ (α:=List bp) a left):aK Tryz.prog 55 [(.c (.sl QQ) a),(.c TI left)] (tZ (bg (α:=List bp) a left)):=by
 refine bw QYe QK3 QWn 0 0 12 Hk kn (λK =>
 (aJ (decide ((aG (left-(a.length:Int)))<0)) (K (tZ (-1:Int))) (K (tZ (aG (left-(a.length:Int))))))) (λhb=>?_)
 exact Ta (Q:=λx=>tZ x=tZ (bg (α:=List bp) a left)) (λ_=>rfl) hp hb.1.1 rfl
theorem QHd:Qf Tryz.prog Hk:=Qi λx h=>QIa x.1 x.2.1 h
def AR(t:Int):aB:=b7 (aL t)
def Hl:aI:=Qg 153 [(.a QE),(.c TI)] λx=>(some (bJ (α:=QD) x.1 x.2.1),AR (bg (α:=QD) x.1 x.2.1))
def QXT:aF:=⟨[xA],false⟩
def QTF:af :=
 (ag [(.ae [aC 2 (.box 187 0 2),ab 4 (ar 0)]),(.ae [ak 5 2 1,an 6 5 1,ab 7 1,aD 8 58 [6,7],ab 1 8]),(ag [(.ae [ab 9 1,aw 10 .lss 9 (ar 0)]),(.cond 10 (ag [(.ae [ab 4 (ar (-1))]),.ret]) .skip)]),(.ae [ab 11 1,ab 4 11]),.ret])
def QUd:List (bm × Md):=[(.t 4,.one .d)]
theorem QJN(a:QD)(left:Int)(hp:bJ (α:=QD) a left):aK Tryz.prog 153 [(.a [(.c TI a.1),(.c (.sl [(.sl [TI])]) a.2)]),(.c TI left)] (AR (bg (α:=QD) a left)):=by
 refine bw QXT QTF QUd 0 0 12 Hl (kc GO kn) (λK =>
 ((bJ (α:=List (List Int)) a.2 left)/\(aJ (decide ((bg (α:=List (List Int)) a.2 left)<0)) (K (AR (-1:Int))) (K (AR (bg (α:=List (List Int)) a.2 left)))))) (λhb=>?_)
 refine⟨hp,λh=>au (Z0 (of_decide_eq_true h) (by first | omega | (simp only[QR,QL,QY];omega)) hp.1),λh=>?_⟩;exact au (congrArg (Z7 · _) (by first | rfl | omega | (simp only[QR,QL,QY];omega)))
theorem QQC:Qf Tryz.prog Hl:=Qi λx h=>QJN x.1 x.2.1 h
def rT(t:Int):aB:=b7 (aL t)
def Hm:aI:=Qg 57 [(.c (.sl QE)),(.c TI)] λx=>(some (bJ (α:=List QD) x.1 x.2.1),rT (bg (α:=List QD) x.1 x.2.1))
def Hn:aF:=⟨[Hl],false⟩
def Ut:af :=
 (ag [(ag [(.ae [ab 12 5,ab 13 0,a9 14 13,aw 15 .lss 12 14]),(.cond 15 .skip (.exit 0))]),(.block 1 (ag [(.ae [ab 18 0,ab 19 5,aZ 20 18 19 QE,a7 21 20 2,ab 22 1,aD 23 153 [21,22],ab 1 23]),(.ae [ab 24 1,aw 25 .lss 24 (ar 0)]),(.cond 25 (ag [(.ae [ab 4 (ar (-1))]),.ret]) .skip)])),(.ae [ab 16 5,aw 17 .add 16 (ar 1),ab 5 17])])
def Uu:List (Nat × Md):=eW [0,1,5]
def Uv:af :=
 (ag [(.ae [ab 26 1,ab 4 26]),.ret])
def QMJ:af :=
 (ag [(.ae [ab 4 (ar 0)]),(.ae [ab 6 1,ab 7 0,a9 8 7,aw 9 .sub 6 8,ab 1 9]),(ag [(.ae [ab 10 1,aw 11 .lss 10 (ar 0)]),(.cond 11 (ag [(.ae [ab 4 (ar (-1))]),.ret]) .skip)]),(ag [(.ae [ab 5 (ar 0)]),(.block 0 (.loop Uu Ut))]),Uv])
def Uw:List (bm × Md):=[(.t 4,.one .d)]
def Ux:Qb:=TQ 0 0 Uw K
def QTb:Qb:=aY (aN Hn 0 Uv (Ux K)) (Ux K)
def QGd:Qb:=a6 0 (QTb K)
def Ho(a:List QD)(bC:Int)(i:Int):Prop:=Loop Hn 0 Uu Ut (QGd K) ⟨[(0,(bc QE a)),(1,(aL bC)),(5,(aL i))],[],0⟩
theorem QPm(a:List QD)(bC:Int)(i:Int) (h :
 (aJ (decide (i<(a.length:Int))) (((0<=i/\Int.toNat i<a.length)/\(bJ (α:=QD) (aq QT a (Int.toNat i)) bC))/\(aJ (decide ((bg (α:=QD) (aq QT a (Int.toNat i)) bC)<0)) (K (rT (-1:Int))) (Ho K a (bg (α:=QD) (aq QT a (Int.toNat i)) bC) (aG (i+1))))) (K (rT bC)))):Ho K a bC i :=
 Loop.of h
theorem QFI(a:List QD)(left:Int)(hp:bJ (α:=List QD) a left):aK Tryz.prog 57 [(.c (.sl QE) a),(.c TI left)] (rT (bg (α:=List QD) a left)):=by
 refine bw Hn QMJ Uw 0 0 27 Hm (kc QQC kn) (λK =>
 (aJ (decide ((aG (left-(a.length:Int)))<0)) (K (rT (-1:Int))) (Ho K a (aG (left-(a.length:Int))) 0))) (λhb=>?_)
 exact rz (Q:=λx=>rT x=rT (bg (α:=List QD) a left)) QT hp hb.1.1 (λl i h=>QPm _ a l i h) rfl
theorem QYp:Qf Tryz.prog Hm:=Qi λx h=>QFI x.1 x.2.1 h
def Hp(t:bp):aB:=b7 (.a [(aL t.1),(aL t.2)])
def Hq:aI:=Qg 161 [(.a QQ)] λx=>(some (bA (α:=bp) x.1),Hp (id (α:=bp) x.1))
def QGG:aF:=⟨[],true⟩
def QSt:af :=
 (ag [(.ae [aC 1 (.box 195 0 2),aC 2 (.new 175 (bG QQ))]),(.ae [aC 3 (.new 175 (bG QQ))]),(.ae [ak 4 1 0,an 5 4 1,ak 6 3 0,aT 6 5 1]),(.ae [ak 7 1 1,an 8 7 1,ak 9 3 1,aT 9 8 1]),(.ae [a7 10 3 2,aT 2 10 2]),.ret])
def QXA:List (bm × Md):=[(.l 2 2 true,.b [.d,.d])]
theorem QYh(a:bp)(hp:bA (α:=bp) a):aK Tryz.prog 161 [(.a [(.c TI a.1),(.c TI a.2)])] (Hp (id (α:=bp) a)):=by
 refine bw QGG QSt QXA 0 0 11 Hq kn (λK =>
 K (Hp a)) (λhb=>?_)
 exact au rfl
theorem QYt:Qf Tryz.prog Hq:=Qi λx h=>QYh x.1 h
def t4(t:(List bp)):aB:=⟨(.r QQ 0 0 t.length),[(.sl 175 QQ (.dp 0 true []) t)],[],false,[]⟩
def Hr:aI:=Qg 65 [(.c (.sl QQ))] λx=>(some (bA (α:=List bp) x.1),t4 (id (α:=List bp) x.1))
def Hs:aF:=⟨[Hq],true⟩
def Uy:af :=
 (ag [(ag [(.ae [ab 8 4,ab 9 0,a9 10 9,aw 11 .lss 8 10]),(.cond 11 .skip (.exit 0))]),(.block 1 (.ae [ab 14 3,ab 15 4,ab 16 0,ab 17 4,aZ 18 16 17 QQ,a7 19 18 2,aD 20 161 [19],aZ 21 14 15 QQ,aT 21 20 2])),(.ae [ab 12 4,aw 13 .add 12 (ar 1),ab 4 13])])
def Uz:List (Nat × Md):=[(0,.one .d),(3,.one .f),(4,.one .d)]
def UA:af :=
 (ag [(.ae [ab 22 3,ab 2 22]),.ret])
def QLl:af :=
 (ag [(.ae [ab 2 (.k (.n QQ))]),(.ae [ab 5 0,a9 6 5,aC 7 (.mk 175 QQ (bG QQ) 6),ab 3 7]),(ag [(.ae [ab 4 (ar 0)]),(.block 0 (.loop Uz Uy))]),UA])
def UB:List (bm × Md):=[(.t 2,.one (.p 175))]
def UC:Qb:=TQ 0 0 UB K
def QQg:Qb:=aY (aN Hs 0 UA (UC K)) (UC K)
def QSh:Qb:=a6 0 (QQg K)
def AS(a:List bp)(i:Int)(out:List bp):Prop:=Loop Hs 0 Uz Uy (QSh K) ⟨[(0,(bc QQ a)),(3,(.r QQ 0 0 out.length)),(4,(aL i))],[(0,(.sl 175 QQ (.dp 0 true []) out))],1⟩
theorem UD(a:List bp)(i:Int)(out:List bp) (h :
 (aJ (decide (i<(a.length:Int))) (((0<=i/\Int.toNat i<a.length)/\((bA (α:=bp) (aq eG a (Int.toNat i)))/\((0<=i/\Int.toNat i<out.length)/\((0+(Int.toNat i))<out.length))))/\(AS K a (aG (i+1)) (List.take out.length ((out).set (0+(Int.toNat i)) (id (α:=bp) (aq eG a (Int.toNat i))))))) (K (t4 (List.take out.length out))))):AS K a i out :=
 Loop.of h
theorem QV7(a:List bp)(hp:bA (α:=List bp) a):aK Tryz.prog 65 [(.c (.sl QQ) a)] (t4 (id (α:=List bp) a)):=by
 refine bw Hs QLl UB 0 0 23 Hr (kc QYt kn) (λK =>
 ((0<=(a.length:Int)/\(a.length:Int)<=cc)/\(AS K a 0 (List.take (Int.toNat (a.length:Int)) (List.replicate (Int.toNat (a.length:Int)) ((0:Int),(0:Int))))))) (λhb=>?_)
 refine⟨⟨by omega,by rw[gT];have:=Yr hp;omega⟩,?_⟩;refine nN a (A:=λii ll=>AS (λr'=>r'=t4 (id (α:=List bp) a)) a ii ll) (Q:=λz=>t4 z=t4 (id (α:=List bp) a)) hp ?_ ?_ rfl
 ·intro k x out aU hg ho hx hA;have hw:aG (((k:Nat):Int)+1)=((k+1:Nat):Int):=by have:=Yr hp;rw[QG (by omega) (by omega)];omega
  have hP:k<out.length:=by omega
  refine UD _ _ _ _ ?_;refine⟨λ_=>?_,λh=>absurd h (by simp;omega)⟩;simp only[Int.toNat_natCast,Nat.zero_add,hg,hw,aU,hP,J0,List.drop_zero,List.take_length,id_eq,and_true,true_and,Int.natCast_nonneg]
  first | exact hA | exact⟨hx,hA⟩
 ·intro out ho hq;refine UD _ _ _ _ ?_;refine⟨λh=>absurd h (by simp),λ_=>?_⟩;simp only[List.drop_zero,List.take_length];exact hq
theorem QVV:Qf Tryz.prog Hr:=Qi λx h=>QV7 x.1 h
def Ht(t:QD):aB:=⟨(.a [(aL t.1),(.r [(.sl [TI])] 0 0 ((t.2).length))]),[(.sl 106 [(.sl [TI])] (.dp 0 true []) t.2)],[],false,[]⟩
def Hu:aI:=Qg 163 [(.a QE)] λx=>(some (bA (α:=QD) x.1),Ht (id (α:=QD) x.1))
def QIq:aF:=⟨[xC],true⟩
def QNQ:af :=
 (ag [(.ae [aC 1 (.box 187 0 2),aC 2 (.new 108 (bG QE))]),(.ae [aC 3 (.new 108 (bG QE))]),(.ae [ak 4 1 0,an 5 4 1,ak 6 3 0,aT 6 5 1]),(.ae [ak 7 1 1,an 8 7 1,aD 9 68 [8],ak 10 3 1,aT 10 9 1]),(.ae [a7 11 3 2,aT 2 11 2]),.ret])
def QJv:List (bm × Md):=[(.l 2 2 true,.b [.d,.p 106])]
theorem QWW(a:QD)(hp:bA (α:=QD) a):aK Tryz.prog 163 [(.a [(.c TI a.1),(.c (.sl [(.sl [TI])]) a.2)])] (Ht (id (α:=QD) a)):=by
 refine bw QIq QNQ QJv 0 0 12 Hu (kc G1 kn) (λK =>
 ((bA (α:=List (List Int)) a.2)/\K (Ht (a.1,(List.take ((id (α:=List (List Int)) a.2).length) (id (α:=List (List Int)) a.2)))))) (λhb=>?_)
 repeat' (first | refine And.intro ?_ ?_ | exact au (by simp))
 all_goals (simp only[bA,QR,QL,QY,List.drop_zero,List.take_length,id_eq]at hp ⊢;omega)
theorem QYf:Qf Tryz.prog Hu:=Qi λx h=>QWW x.1 h
def t6(t:(List QD)):aB:=⟨(.r QE 0 0 t.length),[(.sl 108 QE (.dp 0 true []) t)],[],false,[]⟩
def Hv:aI:=Qg 67 [(.c (.sl QE))] λx=>(some (bA (α:=List QD) x.1),t6 (id (α:=List QD) x.1))
def Hw:aF:=⟨[Hu],true⟩
def UE:af :=
 (ag [(ag [(.ae [ab 8 4,ab 9 0,a9 10 9,aw 11 .lss 8 10]),(.cond 11 .skip (.exit 0))]),(.block 1 (.ae [ab 14 3,ab 15 4,ab 16 0,ab 17 4,aZ 18 16 17 QE,a7 19 18 2,aD 20 163 [19],aZ 21 14 15 QE,aT 21 20 2])),(.ae [ab 12 4,aw 13 .add 12 (ar 1),ab 4 13])])
def UF:List (Nat × Md):=[(0,.one .d),(3,.one .f),(4,.one .d)]
def UG:af :=
 (ag [(.ae [ab 22 3,ab 2 22]),.ret])
def QK4:af :=
 (ag [(.ae [ab 2 (.k (.n QE))]),(.ae [ab 5 0,a9 6 5,aC 7 (.mk 108 QE (bG QE) 6),ab 3 7]),(ag [(.ae [ab 4 (ar 0)]),(.block 0 (.loop UF UE))]),UG])
def UH:List (bm × Md):=[(.t 2,.one (.p 108))]
def UI:Qb:=TQ 0 0 UH K
def QXf:Qb:=aY (aN Hw 0 UG (UI K)) (UI K)
def QLh:Qb:=a6 0 (QXf K)
def AU(a:List QD)(i:Int)(out:List QD):Prop:=Loop Hw 0 UF UE (QLh K) ⟨[(0,(bc QE a)),(3,(.r QE 0 0 out.length)),(4,(aL i))],[(0,(.sl 108 QE (.dp 0 true []) out))],1⟩
theorem UJ(a:List QD)(i:Int)(out:List QD) (h :
 (aJ (decide (i<(a.length:Int))) (((0<=i/\Int.toNat i<a.length)/\((bA (α:=QD) (aq QT a (Int.toNat i)))/\((0<=i/\Int.toNat i<out.length)/\((0+(Int.toNat i))<out.length))))/\(AU K a (aG (i+1)) (List.take out.length ((out).set (0+(Int.toNat i)) ((id (α:=QD) (aq QT a (Int.toNat i))).1,(List.take (((id (α:=QD) (aq QT a (Int.toNat i))).2).length) (List.drop 0 ((id (α:=QD) (aq QT a (Int.toNat i))).2)))))))) (K (t6 (List.take out.length out))))):AU K a i out :=
 Loop.of h
theorem QNW(a:List QD)(hp:bA (α:=List QD) a):aK Tryz.prog 67 [(.c (.sl QE) a)] (t6 (id (α:=List QD) a)):=by
 refine bw Hw QK4 UH 0 0 23 Hv (kc QYf kn) (λK =>
 ((0<=(a.length:Int)/\(a.length:Int)<=cc)/\(AU K a 0 (List.take (Int.toNat (a.length:Int)) (List.replicate (Int.toNat (a.length:Int)) ((0:Int),[])))))) (λhb=>?_)
 refine⟨⟨by omega,by rw[gT];have:=Yr hp;omega⟩,?_⟩;refine nN a (A:=λii ll=>AU (λr'=>r'=t6 (id (α:=List QD) a)) a ii ll) (Q:=λz=>t6 z=t6 (id (α:=List QD) a)) hp ?_ ?_ rfl
 ·intro k x out aU hg ho hx hA;have hw:aG (((k:Nat):Int)+1)=((k+1:Nat):Int):=by have:=Yr hp;rw[QG (by omega) (by omega)];omega
  have hP:k<out.length:=by omega
  refine UJ _ _ _ _ ?_;refine⟨λ_=>?_,λh=>absurd h (by simp;omega)⟩;simp only[Int.toNat_natCast,Nat.zero_add,hg,hw,aU,hP,J0,List.drop_zero,List.take_length,id_eq,and_true,true_and,Int.natCast_nonneg]
  first | exact hA | exact⟨hx,hA⟩
 ·intro out ho hq;refine UJ _ _ _ _ ?_;refine⟨λh=>absurd h (by simp),λ_=>?_⟩;simp only[List.drop_zero,List.take_length];exact hq
theorem QVA:Qf Tryz.prog Hv:=Qi λx h=>QNW x.1 h
def xF(t:Bool):aB:=b7 (bE t)
def Hx:aI:=Qg 171 [(.a QQ),(.a QQ)] λx=>(none,xF (aX (α:=bp) x.1 x.2.1))
def QJT:aF:=⟨[],false⟩
def QSg:af :=
 (ag [(.ae [aC 2 (.box 175 0 2),aC 3 (.box 175 1 2),ab 4 (a0 false)]),(ag [(.ae [ak 5 2 0,an 6 5 1,ak 7 3 0,an 8 7 1,aw 9 .neq 6 8]),(.cond 9 (ag [(.ae [ab 4 (a0 false)]),.ret]) .skip)]),(ag [(.ae [ak 10 2 1,an 11 10 1,ak 12 3 1,an 13 12 1,aw 14 .neq 11 13]),(.cond 14 (ag [(.ae [ab 4 (a0 false)]),.ret]) .skip)]),(.ae [ab 4 (a0 true)]),.ret])
def QQi:List (bm × Md):=[(.t 4,.one .d)]
theorem QPX(a:bp)(b:bp):aK Tryz.prog 171 [(.a [(.c TI a.1),(.c TI a.2)]),(.a [(.c TI b.1),(.c TI b.2)])] (xF (aX (α:=bp) a b)):=by
 refine bw QJT QSg QQi 0 0 15 Hx kn (λK =>
 (aJ (a.1 != b.1) (K (xF false)) (aJ (a.2 != b.2) (K (xF false)) (K (xF true))))) (λhb=>?_)
 refine⟨λh=>au (Eq.symm (decide_eq_false (by rintro rfl;simp[aX]at h))),λh0=>?_⟩;refine⟨λh=>au (Eq.symm (decide_eq_false (by rintro rfl;simp[aX]at h))),λh1=>?_⟩;refine au (Eq.symm (decide_eq_true ?_));simp[aX]at h0 h1;simp[Prod.ext_iff, *]
theorem QQZ:Qf Tryz.prog Hx:=Qi λx _=>QPX x.1 x.2.1
def rU(t:Bool):aB:=b7 (bE t)
def Hy:aI:=Qg 75 [(.c (.sl QQ)),(.c (.sl QQ))] λx=>(none,rU (aX (α:=List bp) x.1 x.2.1))
def Hz:aF:=⟨[Hx],false⟩
def UK:af :=
 (ag [(ag [(.ae [ab 11 5,ab 12 0,a9 13 12,aw 14 .lss 11 13]),(.cond 14 .skip (.exit 0))]),(.block 1 (ag [(.draw [ab 17 0,ab 18 5,aZ 19 17 18 QQ,a7 20 19 2,ab 21 1,ab 22 5,aZ 23 21 22 QQ,a7 24 23 2,aD 25 171 [20,24],bL 26 25] []),(.cond 26 (ag [(.ae [ab 4 (a0 false)]),.ret]) .skip)])),(.ae [ab 15 5,aw 16 .add 15 (ar 1),ab 5 16])])
def UL:List (Nat × Md):=eW [0,1,5]
def UM:af :=
 (ag [(.ae [ab 4 (a0 true)]),.ret])
def QMZ:af :=
 (ag [(.ae [ab 4 (a0 false)]),(ag [(.ae [ab 6 0,a9 7 6,ab 8 1,a9 9 8,aw 10 .neq 7 9]),(.cond 10 (ag [(.ae [ab 4 (a0 false)]),.ret]) .skip)]),(ag [(.ae [ab 5 (ar 0)]),(.block 0 (.loop UL UK))]),UM])
def UN:List (bm × Md):=[(.t 4,.one .d)]
def UO:Qb:=TQ 0 0 UN K
def QFp:Qb:=aY (aN Hz 0 UM (UO K)) (UO K)
def QNP:Qb:=a6 0 (QFp K)
def HA(a:List bp)(b:List bp)(i:Int):Prop:=Loop Hz 0 UL UK (QNP K) ⟨[(0,(bc QQ a)),(1,(bc QQ b)),(5,(aL i))],[],0⟩
theorem QGB(a:List bp)(b:List bp)(i:Int) (h :
 (aJ (decide (i<(a.length:Int))) (((0<=i/\Int.toNat i<a.length)/\(0<=i/\Int.toNat i<b.length))/\(aJ (!(aX (α:=bp) (aq eG a (Int.toNat i)) (aq eG b (Int.toNat i)))) (K (rU false)) (HA K a b (aG (i+1))))) (K (rU true)))):HA K a b i :=
 Loop.of h
theorem QWk(a:List bp)(b:List bp):aK Tryz.prog 75 [(.c (.sl QQ) a),(.c (.sl QQ) b)] (rU (aX (α:=List bp) a b)):=by
 refine bw Hz QMZ UN 0 0 27 Hy (kc QQZ kn) (λK =>
 (aJ ((a.length:Int) != (b.length:Int)) (K (rU false)) (HA K a b 0))) (λhb=>?_)
 exact nG eG (E:=aX) (λ_ _=>rfl) hb.1.1 (λi h=>QGB _ a b i h) (Q:=λx=>rU x=rU (aX (α:=List bp) a b)) rfl
theorem QHx:Qf Tryz.prog Hy:=Qi λx _=>QWk x.1 x.2.1
def xG(t:Bool):aB:=b7 (bE t)
def HC:aI:=Qg 173 [(.a QE),(.a QE)] λx=>(none,xG (aX (α:=QD) x.1 x.2.1))
def QSS:aF:=⟨[xD],false⟩
def QIk:af :=
 (ag [(.ae [aC 2 (.box 108 0 2),aC 3 (.box 108 1 2),ab 4 (a0 false)]),(ag [(.ae [ak 5 2 0,an 6 5 1,ak 7 3 0,an 8 7 1,aw 9 .neq 6 8]),(.cond 9 (ag [(.ae [ab 4 (a0 false)]),.ret]) .skip)]),(ag [(.ae [ak 10 2 1,an 11 10 1,ak 12 3 1,an 13 12 1,aD 14 78 [11,13],bL 15 14]),(.cond 15 (ag [(.ae [ab 4 (a0 false)]),.ret]) .skip)]),(.ae [ab 4 (a0 true)]),.ret])
def QMz:List (bm × Md):=[(.t 4,.one .d)]
theorem QTt(a:QD)(b:QD):aK Tryz.prog 173 [(.a [(.c TI a.1),(.c (.sl [(.sl [TI])]) a.2)]),(.a [(.c TI b.1),(.c (.sl [(.sl [TI])]) b.2)])] (xG (aX (α:=QD) a b)):=by
 refine bw QSS QIk QMz 0 0 16 HC (kc He kn) (λK =>
 (aJ (a.1 != b.1) (K (xG false)) (aJ (!(aX (α:=List (List Int)) a.2 b.2)) (K (xG false)) (K (xG true))))) (λhb=>?_)
 refine⟨λh=>au (Eq.symm (decide_eq_false (by rintro rfl;simp[aX]at h))),λh0=>?_⟩;refine⟨λh=>au (Eq.symm (decide_eq_false (by rintro rfl;simp[aX]at h))),λh1=>?_⟩;refine au (Eq.symm (decide_eq_true ?_));simp[aX]at h0 h1;simp[Prod.ext_iff, *]
theorem QVp:Qf Tryz.prog HC:=Qi λx _=>QTt x.1 x.2.1
def rV(t:Bool):aB:=b7 (bE t)
def HD:aI:=Qg 77 [(.c (.sl QE)),(.c (.sl QE))] λx=>(none,rV (aX (α:=List QD) x.1 x.2.1))
def HE:aF:=⟨[HC],false⟩
def UP:af :=
 (ag [(ag [(.ae [ab 11 5,ab 12 0,a9 13 12,aw 14 .lss 11 13]),(.cond 14 .skip (.exit 0))]),(.block 1 (ag [(.draw [ab 17 0,ab 18 5,aZ 19 17 18 QE,a7 20 19 2,ab 21 1,ab 22 5,aZ 23 21 22 QE,a7 24 23 2,aD 25 173 [20,24],bL 26 25] []),(.cond 26 (ag [(.ae [ab 4 (a0 false)]),.ret]) .skip)])),(.ae [ab 15 5,aw 16 .add 15 (ar 1),ab 5 16])])
def UQ:List (Nat × Md):=eW [0,1,5]
def UR:af :=
 (ag [(.ae [ab 4 (a0 true)]),.ret])
def QLc:af :=
 (ag [(.ae [ab 4 (a0 false)]),(ag [(.ae [ab 6 0,a9 7 6,ab 8 1,a9 9 8,aw 10 .neq 7 9]),(.cond 10 (ag [(.ae [ab 4 (a0 false)]),.ret]) .skip)]),(ag [(.ae [ab 5 (ar 0)]),(.block 0 (.loop UQ UP))]),UR])
def US:List (bm × Md):=[(.t 4,.one .d)]
def UT:Qb:=TQ 0 0 US K
def QPn:Qb:=aY (aN HE 0 UR (UT K)) (UT K)
def QF7:Qb:=a6 0 (QPn K)
def HF(a:List QD)(b:List QD)(i:Int):Prop:=Loop HE 0 UQ UP (QF7 K) ⟨[(0,(bc QE a)),(1,(bc QE b)),(5,(aL i))],[],0⟩
theorem QV3(a:List QD)(b:List QD)(i:Int) (h :
 (aJ (decide (i<(a.length:Int))) (((0<=i/\Int.toNat i<a.length)/\(0<=i/\Int.toNat i<b.length))/\(aJ (!(aX (α:=QD) (aq QT a (Int.toNat i)) (aq QT b (Int.toNat i)))) (K (rV false)) (HF K a b (aG (i+1))))) (K (rV true)))):HF K a b i :=
 Loop.of h
theorem QNy(a:List QD)(b:List QD):aK Tryz.prog 77 [(.c (.sl QE) a),(.c (.sl QE) b)] (rV (aX (α:=List QD) a b)):=by
 refine bw HE QLc US 0 0 27 HD (kc QVp kn) (λK =>
 (aJ ((a.length:Int) != (b.length:Int)) (K (rV false)) (HF K a b 0))) (λhb=>?_)
 exact nG QT (E:=aX) (λ_ _=>rfl) hb.1.1 (λi h=>QV3 _ a b i h) (Q:=λx=>rV x=rV (aX (α:=List QD) a b)) rfl
theorem QGh:Qf Tryz.prog HD:=Qi λx _=>QNy x.1 x.2.1
def AW(t:Int):aB:=b7 (aL t)
def HG:aI:=Qg 152 [(.a aM),(.c TI)] λx=>(some (bJ (α:=aH) x.1 x.2.1),AW (bg (α:=aH) x.1 x.2.1))
def QLJ:aF:=⟨[rN],false⟩
def QOb:af :=
 (ag [(.ae [aC 2 (.box 184 0 4),ab 4 (ar 0)]),(.ae [ak 5 2 3,an 6 5 1,ab 7 1,aD 8 59 [6,7],ab 1 8]),(ag [(.ae [ab 9 1,aw 10 .lss 9 (ar 0)]),(.cond 10 (ag [(.ae [ab 4 (ar (-1))]),.ret]) .skip)]),(.ae [ab 11 1,ab 4 11]),.ret])
def QMT:List (bm × Md):=[(.t 4,.one .d)]
theorem QYm(a:aH)(left:Int)(hp:bJ (α:=aH) a left):aK Tryz.prog 152 [(.a (aR.cells aM a)),(.c TI left)] (AW (bg (α:=aH) a left)):=by
 refine bw QLJ QOb QMT 0 0 12 HG (kc xz kn) (λK =>
 ((bJ (α:=List Int) a.2.2.2 left)/\(aJ (decide ((bg (α:=List Int) a.2.2.2 left)<0)) (K (AW (-1:Int))) (K (AW (bg (α:=List Int) a.2.2.2 left)))))) (λhb=>?_)
 refine⟨hp,λh=>au (Z0 (of_decide_eq_true h) (by first | omega | (simp only[QR,QL,QY];omega)) hp.1),λh=>?_⟩;exact au (congrArg (Z7 · _) (by first | rfl | omega | (simp only[QR,QL,QY];omega)))
theorem QH9:Qf Tryz.prog HG:=Qi λx h=>QYm x.1 x.2.1 h
def rW(t:Int):aB:=b7 (aL t)
def HI:aI:=Qg 56 [(.c (.sl aM)),(.c TI)] λx=>(some (bJ (α:=List aH) x.1 x.2.1),rW (bg (α:=List aH) x.1 x.2.1))
def HJ:aF:=⟨[HG],false⟩
def UU:af :=
 (ag [(ag [(.ae [ab 12 5,ab 13 0,a9 14 13,aw 15 .lss 12 14]),(.cond 15 .skip (.exit 0))]),(.block 1 (ag [(.ae [ab 18 0,ab 19 5,aZ 20 18 19 aM,a7 21 20 4,ab 22 1,aD 23 152 [21,22],ab 1 23]),(.ae [ab 24 1,aw 25 .lss 24 (ar 0)]),(.cond 25 (ag [(.ae [ab 4 (ar (-1))]),.ret]) .skip)])),(.ae [ab 16 5,aw 17 .add 16 (ar 1),ab 5 17])])
def UW:List (Nat × Md):=eW [0,1,5]
def UX:af :=
 (ag [(.ae [ab 26 1,ab 4 26]),.ret])
def QUh:af :=
 (ag [(.ae [ab 4 (ar 0)]),(.ae [ab 6 1,ab 7 0,a9 8 7,aw 9 .sub 6 8,ab 1 9]),(ag [(.ae [ab 10 1,aw 11 .lss 10 (ar 0)]),(.cond 11 (ag [(.ae [ab 4 (ar (-1))]),.ret]) .skip)]),(ag [(.ae [ab 5 (ar 0)]),(.block 0 (.loop UW UU))]),UX])
def UY:List (bm × Md):=[(.t 4,.one .d)]
def UZ:Qb:=TQ 0 0 UY K
def QQJ:Qb:=aY (aN HJ 0 UX (UZ K)) (UZ K)
def QGM:Qb:=a6 0 (QQJ K)
def HK(a:List aH)(bC:Int)(i:Int):Prop:=Loop HJ 0 UW UU (QGM K) ⟨[(0,(bc aM a)),(1,(aL bC)),(5,(aL i))],[],0⟩
theorem QIx(a:List aH)(bC:Int)(i:Int) (h :
 (aJ (decide (i<(a.length:Int))) (((0<=i/\Int.toNat i<a.length)/\(bJ (α:=aH) (aq b6 a (Int.toNat i)) bC))/\(aJ (decide ((bg (α:=aH) (aq b6 a (Int.toNat i)) bC)<0)) (K (rW (-1:Int))) (HK K a (bg (α:=aH) (aq b6 a (Int.toNat i)) bC) (aG (i+1))))) (K (rW bC)))):HK K a bC i :=
 Loop.of h
theorem QWq(a:List aH)(left:Int)(hp:bJ (α:=List aH) a left):aK Tryz.prog 56 [(.c (.sl aM) a),(.c TI left)] (rW (bg (α:=List aH) a left)):=by
 refine bw HJ QUh UY 0 0 27 HI (kc QH9 kn) (λK =>
 (aJ (decide ((aG (left-(a.length:Int)))<0)) (K (rW (-1:Int))) (HK K a (aG (left-(a.length:Int))) 0))) (λhb=>?_)
 exact rz (Q:=λx=>rW x=rW (bg (α:=List aH) a left)) b6 hp hb.1.1 (λl i h=>QIx _ a l i h) rfl
theorem QUe:Qf Tryz.prog HI:=Qi λx h=>QWq x.1 x.2.1 h
def HL(t:aH):aB:=⟨(.a [(aL t.1),(aL t.2.1),(aL t.2.2.1),(.r [TI] 0 0 ((t.2.2.2).length))]),[(.sl 3 [TI] (.dp 0 true []) t.2.2.2)],[],false,[]⟩
def HM:aI:=Qg 162 [(.a aM)] λx=>(some (bA (α:=aH) x.1),HL (id (α:=aH) x.1))
def QS7:aF:=⟨[pb],true⟩
def QTR:af :=
 (ag [(.ae [aC 1 (.box 184 0 4),aC 2 (.new 134 (bG aM))]),(.ae [aC 3 (.new 134 (bG aM))]),(.ae [ak 4 1 0,an 5 4 1,ak 6 3 0,aT 6 5 1]),(.ae [ak 7 1 1,an 8 7 1,ak 9 3 1,aT 9 8 1]),(.ae [ak 10 1 2,an 11 10 1,ak 12 3 2,aT 12 11 1]),(.ae [ak 13 1 3,an 14 13 1,aD 15 29 [14],ak 16 3 3,aT 16 15 1]),(.ae [a7 17 3 4,aT 2 17 4]),.ret])
def QRn:List (bm × Md):=[(.l 2 4 true,.b [.d,.d,.d,.p 3])]
theorem QE6(a:aH)(hp:bA (α:=aH) a):aK Tryz.prog 162 [(.a (aR.cells aM a))] (HL (id (α:=aH) a)):=by
 refine bw QS7 QTR QRn 0 0 18 HM (kc tU kn) (λK =>
 ((bA (α:=List Int) a.2.2.2)/\K (HL (a.1,a.2.1,a.2.2.1,(List.take ((id (α:=List Int) a.2.2.2).length) (id (α:=List Int) a.2.2.2)))))) (λhb=>?_)
 repeat' (first | refine And.intro ?_ ?_ | exact au (by simp))
 all_goals (simp only[bA,QR,QL,QY,List.drop_zero,List.take_length,id_eq]at hp ⊢;omega)
theorem QYT:Qf Tryz.prog HM:=Qi λx h=>QE6 x.1 h
def t7(t:(List aH)):aB:=⟨(.r aM 0 0 t.length),[(.sl 134 aM (.dp 0 true []) t)],[],false,[]⟩
def HN:aI:=Qg 66 [(.c (.sl aM))] λx=>(some (bA (α:=List aH) x.1),t7 (id (α:=List aH) x.1))
def HO:aF:=⟨[HM],true⟩
def U0:af :=
 (ag [(ag [(.ae [ab 8 4,ab 9 0,a9 10 9,aw 11 .lss 8 10]),(.cond 11 .skip (.exit 0))]),(.block 1 (.ae [ab 14 3,ab 15 4,ab 16 0,ab 17 4,aZ 18 16 17 aM,a7 19 18 4,aD 20 162 [19],aZ 21 14 15 aM,aT 21 20 4])),(.ae [ab 12 4,aw 13 .add 12 (ar 1),ab 4 13])])
def U1:List (Nat × Md):=[(0,.one .d),(3,.one .f),(4,.one .d)]
def U2:af :=
 (ag [(.ae [ab 22 3,ab 2 22]),.ret])
def QQR:af :=
 (ag [(.ae [ab 2 (.k (.n aM))]),(.ae [ab 5 0,a9 6 5,aC 7 (.mk 134 aM (bG aM) 6),ab 3 7]),(ag [(.ae [ab 4 (ar 0)]),(.block 0 (.loop U1 U0))]),U2])
def U3:List (bm × Md):=[(.t 2,.one (.p 134))]
def U4:Qb:=TQ 0 0 U3 K
def QM4:Qb:=aY (aN HO 0 U2 (U4 K)) (U4 K)
def QM9:Qb:=a6 0 (QM4 K)
def AX(a:List aH)(i:Int)(out:List aH):Prop:=Loop HO 0 U1 U0 (QM9 K) ⟨[(0,(bc aM a)),(3,(.r aM 0 0 out.length)),(4,(aL i))],[(0,(.sl 134 aM (.dp 0 true []) out))],1⟩
theorem U5(a:List aH)(i:Int)(out:List aH) (h :
 (aJ (decide (i<(a.length:Int))) (((0<=i/\Int.toNat i<a.length)/\((bA (α:=aH) (aq b6 a (Int.toNat i)))/\((0<=i/\Int.toNat i<out.length)/\((0+(Int.toNat i))<out.length))))/\(AX K a (aG (i+1)) (List.take out.length ((out).set (0+(Int.toNat i)) ((id (α:=aH) (aq b6 a (Int.toNat i))).1,(id (α:=aH) (aq b6 a (Int.toNat i))).2.1,(id (α:=aH) (aq b6 a (Int.toNat i))).2.2.1,(List.take (((id (α:=aH) (aq b6 a (Int.toNat i))).2.2.2).length) (List.drop 0 ((id (α:=aH) (aq b6 a (Int.toNat i))).2.2.2)))))))) (K (t7 (List.take out.length out))))):AX K a i out :=
 Loop.of h
theorem QRb(a:List aH)(hp:bA (α:=List aH) a):aK Tryz.prog 66 [(.c (.sl aM) a)] (t7 (id (α:=List aH) a)):=by
 refine bw HO QQR U3 0 0 23 HN (kc QYT kn) (λK =>
 ((0<=(a.length:Int)/\(a.length:Int)<=cc)/\(AX K a 0 (List.take (Int.toNat (a.length:Int)) (List.replicate (Int.toNat (a.length:Int)) ((0:Int),(0:Int),(0:Int),[])))))) (λhb=>?_)
 refine⟨⟨by omega,by rw[gT];have:=Yr hp;omega⟩,?_⟩;refine nN a (A:=λii ll=>AX (λr'=>r'=t7 (id (α:=List aH) a)) a ii ll) (Q:=λz=>t7 z=t7 (id (α:=List aH) a)) hp ?_ ?_ rfl
 ·intro k x out aU hg ho hx hA;have hw:aG (((k:Nat):Int)+1)=((k+1:Nat):Int):=by have:=Yr hp;rw[QG (by omega) (by omega)];omega
  have hP:k<out.length:=by omega
  refine U5 _ _ _ _ ?_;refine⟨λ_=>?_,λh=>absurd h (by simp;omega)⟩;simp only[Int.toNat_natCast,Nat.zero_add,hg,hw,aU,hP,J0,List.drop_zero,List.take_length,id_eq,and_true,true_and,Int.natCast_nonneg]
  first | exact hA | exact⟨hx,hA⟩
 ·intro out ho hq;refine U5 _ _ _ _ ?_;refine⟨λh=>absurd h (by simp),λ_=>?_⟩;simp only[List.drop_zero,List.take_length];exact hq
theorem QYF:Qf Tryz.prog HN:=Qi λx h=>QRb x.1 h
def rX(t:Bool):aB:=b7 (bE t)
def HP:aI:=Qg 172 [(.a aM),(.a aM)] λx=>(none,rX (aX (α:=aH) x.1 x.2.1))
def QH5:aF:=⟨[pc],false⟩
def QH2:af :=
 (ag [(.ae [aC 2 (.box 134 0 4),aC 3 (.box 134 1 4),ab 4 (a0 false)]),(ag [(.ae [ak 5 2 0,an 6 5 1,ak 7 3 0,an 8 7 1,aw 9 .neq 6 8]),(.cond 9 (ag [(.ae [ab 4 (a0 false)]),.ret]) .skip)]),(ag [(.ae [ak 10 2 1,an 11 10 1,ak 12 3 1,an 13 12 1,aw 14 .neq 11 13]),(.cond 14 (ag [(.ae [ab 4 (a0 false)]),.ret]) .skip)]),(ag [(.ae [ak 15 2 2,an 16 15 1,ak 17 3 2,an 18 17 1,aw 19 .neq 16 18]),(.cond 19 (ag [(.ae [ab 4 (a0 false)]),.ret]) .skip)]),(ag [(.ae [ak 20 2 3,an 21 20 1,ak 22 3 3,an 23 22 1,aD 24 23 [21,23],bL 25 24]),(.cond 25 (ag [(.ae [ab 4 (a0 false)]),.ret]) .skip)]),(.ae [ab 4 (a0 true)]),.ret])
def QHT:List (bm × Md):=[(.t 4,.one .d)]
theorem QRE(a:aH)(b:aH):aK Tryz.prog 172 [(.a (aR.cells aM a)),(.a (aR.cells aM b))] (rX (aX (α:=aH) a b)):=by
 refine bw QH5 QH2 QHT 0 0 26 HP (kc tX kn) (λK =>
 (aJ (a.1 != b.1) (K (rX false)) (aJ (a.2.1 != b.2.1) (K (rX false)) (aJ (a.2.2.1 != b.2.2.1) (K (rX false)) (aJ (!(aX (α:=List Int) a.2.2.2 b.2.2.2)) (K (rX false)) (K (rX true))))))) (λhb=>?_)
 refine⟨λh=>au (Eq.symm (decide_eq_false (by rintro rfl;simp[aX]at h))),λh0=>?_⟩;refine⟨λh=>au (Eq.symm (decide_eq_false (by rintro rfl;simp[aX]at h))),λh1=>?_⟩;refine⟨λh=>au (Eq.symm (decide_eq_false (by rintro rfl;simp[aX]at h))),λh2=>?_⟩;refine⟨λh=>au (Eq.symm (decide_eq_false (by rintro rfl;simp[aX]at h))),λh3=>?_⟩;refine au (Eq.symm (decide_eq_true ?_));simp[aX]at h0 h1 h2 h3;simp[Prod.ext_iff, *]
theorem QQ1:Qf Tryz.prog HP:=Qi λx _=>QRE x.1 x.2.1
def rY(t:Bool):aB:=b7 (bE t)
def HQ:aI:=Qg 76 [(.c (.sl aM)),(.c (.sl aM))] λx=>(none,rY (aX (α:=List aH) x.1 x.2.1))
def HR:aF:=⟨[HP],false⟩
def U6:af :=
 (ag [(ag [(.ae [ab 11 5,ab 12 0,a9 13 12,aw 14 .lss 11 13]),(.cond 14 .skip (.exit 0))]),(.block 1 (ag [(.draw [ab 17 0,ab 18 5,aZ 19 17 18 aM,a7 20 19 4,ab 21 1,ab 22 5,aZ 23 21 22 aM,a7 24 23 4,aD 25 172 [20,24],bL 26 25] []),(.cond 26 (ag [(.ae [ab 4 (a0 false)]),.ret]) .skip)])),(.ae [ab 15 5,aw 16 .add 15 (ar 1),ab 5 16])])
def U7:List (Nat × Md):=eW [0,1,5]
def U8:af :=
 (ag [(.ae [ab 4 (a0 true)]),.ret])
def QJx:af :=
 (ag [(.ae [ab 4 (a0 false)]),(ag [(.ae [ab 6 0,a9 7 6,ab 8 1,a9 9 8,aw 10 .neq 7 9]),(.cond 10 (ag [(.ae [ab 4 (a0 false)]),.ret]) .skip)]),(ag [(.ae [ab 5 (ar 0)]),(.block 0 (.loop U7 U6))]),U8])
def U9:List (bm × Md):=[(.t 4,.one .d)]
def Va:Qb:=TQ 0 0 U9 K
def QRg:Qb:=aY (aN HR 0 U8 (Va K)) (Va K)
def QO2:Qb:=a6 0 (QRg K)
def HS(a:List aH)(b:List aH)(i:Int):Prop:=Loop HR 0 U7 U6 (QO2 K) ⟨[(0,(bc aM a)),(1,(bc aM b)),(5,(aL i))],[],0⟩
theorem QXQ(a:List aH)(b:List aH)(i:Int) (h :
 (aJ (decide (i<(a.length:Int))) (((0<=i/\Int.toNat i<a.length)/\(0<=i/\Int.toNat i<b.length))/\(aJ (!(aX (α:=aH) (aq b6 a (Int.toNat i)) (aq b6 b (Int.toNat i)))) (K (rY false)) (HS K a b (aG (i+1))))) (K (rY true)))):HS K a b i :=
 Loop.of h
theorem QYU(a:List aH)(b:List aH):aK Tryz.prog 76 [(.c (.sl aM) a),(.c (.sl aM) b)] (rY (aX (α:=List aH) a b)):=by
 refine bw HR QJx U9 0 0 27 HQ (kc QQ1 kn) (λK =>
 (aJ ((a.length:Int) != (b.length:Int)) (K (rY false)) (HS K a b 0))) (λhb=>?_)
 exact nG b6 (E:=aX) (λ_ _=>rfl) hb.1.1 (λi h=>QXQ _ a b i h) (Q:=λx=>rY x=rY (aX (α:=List aH) a b)) rfl
theorem QTp:Qf Tryz.prog HQ:=Qi λx _=>QYU x.1 x.2.1
def Js(t:Int):aB:=b7 (aL t)
def HT:aI:=Qg 12 [(.a Qe),(.c TI)] λx=>(some (bJ (α:=Qc) x.1 x.2.1),Js (bg (α:=Qc) x.1 x.2.1))
def QYS:aF:=⟨[Hk,HI,Hm,xA,rN,GP],false⟩
def QYg:af :=
 (ag [(.ae [aC 2 (.box 30 0 14),ab 4 (ar 0)]),(.ae [ak 5 2 1,an 6 5 1,ab 7 1,aD 8 55 [6,7],ab 1 8]),(ag [(.ae [ab 9 1,aw 10 .lss 9 (ar 0)]),(.cond 10 (ag [(.ae [ab 4 (ar (-1))]),.ret]) .skip)]),(.ae [ak 11 2 2,an 12 11 1,ab 13 1,aD 14 56 [12,13],ab 1 14]),(ag [(.ae [ab 15 1,aw 16 .lss 15 (ar 0)]),(.cond 16 (ag [(.ae [ab 4 (ar (-1))]),.ret]) .skip)]),(.ae [ak 17 2 5,an 18 17 1,ab 19 1,aD 20 57 [18,19],ab 1 20]),(ag [(.ae [ab 21 1,aw 22 .lss 21 (ar 0)]),(.cond 22 (ag [(.ae [ab 4 (ar (-1))]),.ret]) .skip)]),(.ae [ak 23 2 6,an 24 23 1,ab 25 1,aD 26 58 [24,25],ab 1 26]),(ag [(.ae [ab 27 1,aw 28 .lss 27 (ar 0)]),(.cond 28 (ag [(.ae [ab 4 (ar (-1))]),.ret]) .skip)]),(.ae [ak 29 2 7,an 30 29 1,ab 31 1,aD 32 59 [30,31],ab 1 32]),(ag [(.ae [ab 33 1,aw 34 .lss 33 (ar 0)]),(.cond 34 (ag [(.ae [ab 4 (ar (-1))]),.ret]) .skip)]),(.ae [ak 35 2 8,an 36 35 1,ab 37 1,aD 38 59 [36,37],ab 1 38]),(ag [(.ae [ab 39 1,aw 40 .lss 39 (ar 0)]),(.cond 40 (ag [(.ae [ab 4 (ar (-1))]),.ret]) .skip)]),(.ae [ak 41 2 9,an 42 41 1,ab 43 1,aD 44 59 [42,43],ab 1 44]),(ag [(.ae [ab 45 1,aw 46 .lss 45 (ar 0)]),(.cond 46 (ag [(.ae [ab 4 (ar (-1))]),.ret]) .skip)]),(.ae [ak 47 2 10,an 48 47 1,ab 49 1,aD 50 59 [48,49],ab 1 50]),(ag [(.ae [ab 51 1,aw 52 .lss 51 (ar 0)]),(.cond 52 (ag [(.ae [ab 4 (ar (-1))]),.ret]) .skip)]),(.ae [ak 53 2 11,a7 54 53 3,ab 55 1,aD 56 60 [54,55],ab 1 56]),(ag [(.ae [ab 57 1,aw 58 .lss 57 (ar 0)]),(.cond 58 (ag [(.ae [ab 4 (ar (-1))]),.ret]) .skip)]),(.ae [ab 59 1,ab 4 59]),.ret])
def QVv:List (bm × Md):=[(.t 4,.one .d)]
theorem QQV(a:Qc)(left:Int)(hp:bJ (α:=Qc) a left):aK Tryz.prog 12 [(.a (aR.cells Qe a)),(.c TI left)] (Js (bg (α:=Qc) a left)):=by
 refine bw QYS QYg QVv 0 0 60 HT (kc QHd (kc QUe (kc QYp (kc GO (kc xz (kc QXD kn)))))) (λK =>
 let z8:=bg (α:=List bp) a.2.1 left
 let z5:=bg (α:=List aH) a.2.2.1 z8
 let z3:=bg (α:=List QD) a.2.2.2.2.2.1 z5
 let z6:=bg (α:=List (List Int)) a.2.2.2.2.2.2.1 z3
 let z1:=bg (α:=List Int) a.2.2.2.2.2.2.2.1 z6
 let z7:=bg (α:=List Int) a.2.2.2.2.2.2.2.2.1 z1
 let z2:=bg (α:=List Int) a.2.2.2.2.2.2.2.2.2.1 z7
 let z4:=bg (α:=List Int) a.2.2.2.2.2.2.2.2.2.2.1 z2
 let z9:=bg (α:=QO) a.2.2.2.2.2.2.2.2.2.2.2 z4
 ((bJ (α:=List bp) a.2.1 left)/\(aJ (decide (z8<0)) (K (Js (-1:Int))) ((bJ (α:=List aH) a.2.2.1 z8)/\(aJ (decide (z5<0)) (K (Js (-1:Int))) ((bJ (α:=List QD) a.2.2.2.2.2.1 z5)/\(aJ (decide (z3<0)) (K (Js (-1:Int))) ((bJ (α:=List (List Int)) a.2.2.2.2.2.2.1 z3)/\(aJ (decide (z6<0)) (K (Js (-1:Int))) ((bJ (α:=List Int) a.2.2.2.2.2.2.2.1 z6)/\(aJ (decide (z1<0)) (K (Js (-1:Int))) ((bJ (α:=List Int) a.2.2.2.2.2.2.2.2.1 z1)/\(aJ (decide (z7<0)) (K (Js (-1:Int))) ((bJ (α:=List Int) a.2.2.2.2.2.2.2.2.2.1 z7)/\(aJ (decide (z2<0)) (K (Js (-1:Int))) ((bJ (α:=List Int) a.2.2.2.2.2.2.2.2.2.2.1 z2)/\(aJ (decide (z4<0)) (K (Js (-1:Int))) ((bJ (α:=QO) a.2.2.2.2.2.2.2.2.2.2.2 z4)/\(aJ (decide (z9<0)) (K (Js (-1:Int))) (K (Js z9))))))))))))))))))))) (λhb=>?_)
 refine⟨hp,λh=>au (Z0 (of_decide_eq_true h) (by first | omega | (simp only[QR,QL,QY];omega)) hp.1),λh=>?_⟩;rw[Jv (Int.not_lt.1 (of_decide_eq_false h))];refine⟨Jp hp,λh=>au (Z0 (of_decide_eq_true h) (by first | omega | (simp only[QR,QL,QY];omega)) hp.1),λh=>?_⟩;rw[Jv (Int.not_lt.1 (of_decide_eq_false h))];refine⟨Jp hp,λh=>au (Z0 (of_decide_eq_true h) (by first | omega | (simp only[QR,QL,QY];omega)) hp.1),λh=>?_⟩;rw[Jv (Int.not_lt.1 (of_decide_eq_false h))];refine⟨Jp hp,λh=>au (Z0 (of_decide_eq_true h) (by first | omega | (simp only[QR,QL,QY];omega)) hp.1),λh=>?_⟩;rw[Jv (Int.not_lt.1 (of_decide_eq_false h))];refine⟨Jp hp,λh=>au (Z0 (of_decide_eq_true h) (by first | omega | (simp only[QR,QL,QY];omega)) hp.1),λh=>?_⟩;rw[Jv (Int.not_lt.1 (of_decide_eq_false h))];refine⟨Jp hp,λh=>au (Z0 (of_decide_eq_true h) (by first | omega | (simp only[QR,QL,QY];omega)) hp.1),λh=>?_⟩;rw[Jv (Int.not_lt.1 (of_decide_eq_false h))];refine⟨Jp hp,λh=>au (Z0 (of_decide_eq_true h) (by first | omega | (simp only[QR,QL,QY];omega)) hp.1),λh=>?_⟩;rw[Jv (Int.not_lt.1 (of_decide_eq_false h))];refine⟨Jp hp,λh=>au (Z0 (of_decide_eq_true h) (by first | omega | (simp only[QR,QL,QY];omega)) hp.1),λh=>?_⟩;rw[Jv (Int.not_lt.1 (of_decide_eq_false h))];refine⟨Jp hp,λh=>au (Z0 (of_decide_eq_true h) (by first | omega | (simp only[QR,QL,QY];omega)) hp.1),λh=>?_⟩;exact au (congrArg (Z7 · _) (by first | rfl | omega | (simp only[QR,QL,QY];omega)))
theorem QWY:Qf Tryz.prog HT:=Qi λx h=>QQV x.1 x.2.1 h
def rZ(t:Int):aB:=b7 (aL t)
def HU:aI:=Qg 87 [(.c (.sl Qe)),(.c TI)] λx=>(some (bJ (α:=List Qc) x.1 x.2.1),rZ (bg (α:=List Qc) x.1 x.2.1))
def HV:aF:=⟨[HT],false⟩
def Vb:af :=
 (ag [(ag [(.ae [ab 12 5,ab 13 0,a9 14 13,aw 15 .lss 12 14]),(.cond 15 .skip (.exit 0))]),(.block 1 (ag [(.ae [ab 18 0,ab 19 5,aZ 20 18 19 Qe,a7 21 20 14,ab 22 1,aD 23 12 [21,22],ab 1 23]),(.ae [ab 24 1,aw 25 .lss 24 (ar 0)]),(.cond 25 (ag [(.ae [ab 4 (ar (-1))]),.ret]) .skip)])),(.ae [ab 16 5,aw 17 .add 16 (ar 1),ab 5 17])])
def Vc:List (Nat × Md):=eW [0,1,5]
def Vd:af :=
 (ag [(.ae [ab 26 1,ab 4 26]),.ret])
def QTo:af :=
 (ag [(.ae [ab 4 (ar 0)]),(.ae [ab 6 1,ab 7 0,a9 8 7,aw 9 .sub 6 8,ab 1 9]),(ag [(.ae [ab 10 1,aw 11 .lss 10 (ar 0)]),(.cond 11 (ag [(.ae [ab 4 (ar (-1))]),.ret]) .skip)]),(ag [(.ae [ab 5 (ar 0)]),(.block 0 (.loop Vc Vb))]),Vd])
def Ve:List (bm × Md):=[(.t 4,.one .d)]
def Vf:Qb:=TQ 0 0 Ve K
def QS5:Qb:=aY (aN HV 0 Vd (Vf K)) (Vf K)
def QR7:Qb:=a6 0 (QS5 K)
def HW(a:List Qc)(bC:Int)(i:Int):Prop:=Loop HV 0 Vc Vb (QR7 K) ⟨[(0,(bc Qe a)),(1,(aL bC)),(5,(aL i))],[],0⟩
theorem QL6(a:List Qc)(bC:Int)(i:Int) (h :
 (aJ (decide (i<(a.length:Int))) (((0<=i/\Int.toNat i<a.length)/\(bJ (α:=Qc) (aq Qz a (Int.toNat i)) bC))/\(aJ (decide ((bg (α:=Qc) (aq Qz a (Int.toNat i)) bC)<0)) (K (rZ (-1:Int))) (HW K a (bg (α:=Qc) (aq Qz a (Int.toNat i)) bC) (aG (i+1))))) (K (rZ bC)))):HW K a bC i :=
 Loop.of h
theorem QGA(a:List Qc)(left:Int)(hp:bJ (α:=List Qc) a left):aK Tryz.prog 87 [(.c (.sl Qe) a),(.c TI left)] (rZ (bg (α:=List Qc) a left)):=by
 refine bw HV QTo Ve 0 0 27 HU (kc QWY kn) (λK =>
 (aJ (decide ((aG (left-(a.length:Int)))<0)) (K (rZ (-1:Int))) (HW K a (aG (left-(a.length:Int))) 0))) (λhb=>?_)
 exact rz (Q:=λx=>rZ x=rZ (bg (α:=List Qc) a left)) Qz hp hb.1.1 (λl i h=>QL6 _ a l i h) rfl
theorem QYz:Qf Tryz.prog HU:=Qi λx h=>QGA x.1 x.2.1 h
def HX(t:Qc):aB:=⟨(.a [(aL t.1),(.r QQ 0 0 ((t.2.1).length)),(.r aM 1 0 ((t.2.2.1).length)),(bE t.2.2.2.1),(bE t.2.2.2.2.1),(.r QE 2 0 ((t.2.2.2.2.2.1).length)),(.r [(.sl [TI])] 3 0 ((t.2.2.2.2.2.2.1).length)),(.r [TI] 4 0 ((t.2.2.2.2.2.2.2.1).length)),(.r [TI] 5 0 ((t.2.2.2.2.2.2.2.2.1).length)),(.r [TI] 6 0 ((t.2.2.2.2.2.2.2.2.2.1).length)),(.r [TI] 7 0 ((t.2.2.2.2.2.2.2.2.2.2.1).length)),(.r [(.sl [TI])] 8 0 ((t.2.2.2.2.2.2.2.2.2.2.2.1).length)),(aL t.2.2.2.2.2.2.2.2.2.2.2.2.1),(bE t.2.2.2.2.2.2.2.2.2.2.2.2.2)]),[(.sl 175 QQ (.dp 0 true []) t.2.1),(.sl 134 aM (.dp 0 true []) t.2.2.1),(.sl 108 QE (.dp 0 true []) t.2.2.2.2.2.1),(.sl 106 [(.sl [TI])] (.dp 0 true []) t.2.2.2.2.2.2.1),(.sl 3 [TI] (.dp 0 true []) t.2.2.2.2.2.2.2.1),(.sl 3 [TI] (.dp 0 true []) t.2.2.2.2.2.2.2.2.1),(.sl 3 [TI] (.dp 0 true []) t.2.2.2.2.2.2.2.2.2.1),(.sl 3 [TI] (.dp 0 true []) t.2.2.2.2.2.2.2.2.2.2.1),(.sl 106 [(.sl [TI])] (.dp 0 true []) t.2.2.2.2.2.2.2.2.2.2.2.1)],[],false,[]⟩
def HY:aI:=Qg 14 [(.a Qe)] λx=>(some (bA (α:=Qc) x.1),HX (id (α:=Qc) x.1))
def QXW:aF:=⟨[Hr,HN,Hv,xC,pb,G3],true⟩
def QKJ:af :=
 (ag [(.ae [aC 1 (.box 30 0 14),aC 2 (.new 39 (bG Qe))]),(.ae [aC 3 (.new 39 (bG Qe))]),(.ae [ak 4 1 0,an 5 4 1,ak 6 3 0,aT 6 5 1]),(.ae [ak 7 1 1,an 8 7 1,aD 9 65 [8],ak 10 3 1,aT 10 9 1]),(.ae [ak 11 1 2,an 12 11 1,aD 13 66 [12],ak 14 3 2,aT 14 13 1]),(.ae [ak 15 1 3,an 16 15 1,ak 17 3 3,aT 17 16 1]),(.ae [ak 18 1 4,an 19 18 1,ak 20 3 4,aT 20 19 1]),(.ae [ak 21 1 5,an 22 21 1,aD 23 67 [22],ak 24 3 5,aT 24 23 1]),(.ae [ak 25 1 6,an 26 25 1,aD 27 68 [26],ak 28 3 6,aT 28 27 1]),(.ae [ak 29 1 7,an 30 29 1,aD 31 29 [30],ak 32 3 7,aT 32 31 1]),(.ae [ak 33 1 8,an 34 33 1,aD 35 29 [34],ak 36 3 8,aT 36 35 1]),(.ae [ak 37 1 9,an 38 37 1,aD 39 29 [38],ak 40 3 9,aT 40 39 1]),(.ae [ak 41 1 10,an 42 41 1,aD 43 29 [42],ak 44 3 10,aT 44 43 1]),(.ae [ak 45 1 11,a7 46 45 3,aD 47 69 [46],ak 48 3 11,aT 48 47 3]),(.ae [a7 49 3 14,aT 2 49 14]),.ret])
def QTn:List (bm × Md):=[(.l 2 14 true,.b [.d,.p 175,.p 134,.d,.d,.p 108,.p 106,.p 3,.p 3,.p 3,.p 3,.p 106,.d,.d])]
theorem QFu(a:Qc)(hp:bA (α:=Qc) a):aK Tryz.prog 14 [(.a (aR.cells Qe a))] (HX (id (α:=Qc) a)):=by
 refine bw QXW QKJ QTn 0 0 50 HY (kc QVV (kc QYF (kc QVA (kc G1 (kc tU (kc QF3 kn)))))) (λK =>
 ((bA (α:=List bp) a.2.1)/\((bA (α:=List aH) a.2.2.1)/\((bA (α:=List QD) a.2.2.2.2.2.1)/\((bA (α:=List (List Int)) a.2.2.2.2.2.2.1)/\((bA (α:=List Int) a.2.2.2.2.2.2.2.1)/\((bA (α:=List Int) a.2.2.2.2.2.2.2.2.1)/\((bA (α:=List Int) a.2.2.2.2.2.2.2.2.2.1)/\((bA (α:=List Int) a.2.2.2.2.2.2.2.2.2.2.1)/\((bA (α:=QO) a.2.2.2.2.2.2.2.2.2.2.2)/\K (HX (a.1,(List.take ((id (α:=List bp) a.2.1).length) (id (α:=List bp) a.2.1)),(List.take ((id (α:=List aH) a.2.2.1).length) (id (α:=List aH) a.2.2.1)),a.2.2.2.1,a.2.2.2.2.1,(List.take ((id (α:=List QD) a.2.2.2.2.2.1).length) (id (α:=List QD) a.2.2.2.2.2.1)),(List.take ((id (α:=List (List Int)) a.2.2.2.2.2.2.1).length) (id (α:=List (List Int)) a.2.2.2.2.2.2.1)),(List.take ((id (α:=List Int) a.2.2.2.2.2.2.2.1).length) (id (α:=List Int) a.2.2.2.2.2.2.2.1)),(List.take ((id (α:=List Int) a.2.2.2.2.2.2.2.2.1).length) (id (α:=List Int) a.2.2.2.2.2.2.2.2.1)),(List.take ((id (α:=List Int) a.2.2.2.2.2.2.2.2.2.1).length) (id (α:=List Int) a.2.2.2.2.2.2.2.2.2.1)),(List.take ((id (α:=List Int) a.2.2.2.2.2.2.2.2.2.2.1).length) (id (α:=List Int) a.2.2.2.2.2.2.2.2.2.2.1)),(List.take (((id (α:=QO) a.2.2.2.2.2.2.2.2.2.2.2).1).length) ((id (α:=QO) a.2.2.2.2.2.2.2.2.2.2.2).1)),(id (α:=QO) a.2.2.2.2.2.2.2.2.2.2.2).2.1,(id (α:=QO) a.2.2.2.2.2.2.2.2.2.2.2).2.2)))))))))))) (λhb=>?_)
 repeat' (first | refine And.intro ?_ ?_ | exact au (by simp))
 all_goals (simp only[bA,QR,QL,QY,List.drop_zero,List.take_length,id_eq]at hp ⊢;omega)
theorem QM0:Qf Tryz.prog HY:=Qi λx h=>QFu x.1 h
def t8(t:(List Qc)):aB:=⟨(.r Qe 0 0 t.length),[(.sl 39 Qe (.dp 0 true []) t)],[],false,[]⟩
def HZ:aI:=Qg 90 [(.c (.sl Qe))] λx=>(some (bA (α:=List Qc) x.1),t8 (id (α:=List Qc) x.1))
def H0:aF:=⟨[HY],true⟩
def Vg:af :=
 (ag [(ag [(.ae [ab 8 4,ab 9 0,a9 10 9,aw 11 .lss 8 10]),(.cond 11 .skip (.exit 0))]),(.block 1 (.ae [ab 14 3,ab 15 4,ab 16 0,ab 17 4,aZ 18 16 17 Qe,a7 19 18 14,aD 20 14 [19],aZ 21 14 15 Qe,aT 21 20 14])),(.ae [ab 12 4,aw 13 .add 12 (ar 1),ab 4 13])])
def Vh:List (Nat × Md):=[(0,.one .d),(3,.one .f),(4,.one .d)]
def Vi:af :=
 (ag [(.ae [ab 22 3,ab 2 22]),.ret])
def QT6:af :=
 (ag [(.ae [ab 2 (.k (.n Qe))]),(.ae [ab 5 0,a9 6 5,aC 7 (.mk 39 Qe (bG Qe) 6),ab 3 7]),(ag [(.ae [ab 4 (ar 0)]),(.block 0 (.loop Vh Vg))]),Vi])
def Vj:List (bm × Md):=[(.t 2,.one (.p 39))]
def Vk:Qb:=TQ 0 0 Vj K
def QPC:Qb:=aY (aN H0 0 Vi (Vk K)) (Vk K)
def QXh:Qb:=a6 0 (QPC K)
def AY(a:List Qc)(i:Int)(out:List Qc):Prop:=Loop H0 0 Vh Vg (QXh K) ⟨[(0,(bc Qe a)),(3,(.r Qe 0 0 out.length)),(4,(aL i))],[(0,(.sl 39 Qe (.dp 0 true []) out))],1⟩
theorem Vl(a:List Qc)(i:Int)(out:List Qc) (h :
 let z1:=id (α:=Qc) (aq Qz a (Int.toNat i))
 (aJ (decide (i<(a.length:Int))) (((0<=i/\Int.toNat i<a.length)/\((bA (α:=Qc) (aq Qz a (Int.toNat i)))/\((0<=i/\Int.toNat i<out.length)/\((0+(Int.toNat i))<out.length))))/\(AY K a (aG (i+1)) (List.take out.length ((out).set (0+(Int.toNat i)) (z1.1,(List.take ((z1.2.1).length) (List.drop 0 (z1.2.1))),(List.take ((z1.2.2.1).length) (List.drop 0 (z1.2.2.1))),z1.2.2.2.1,z1.2.2.2.2.1,(List.take ((z1.2.2.2.2.2.1).length) (List.drop 0 (z1.2.2.2.2.2.1))),(List.take ((z1.2.2.2.2.2.2.1).length) (List.drop 0 (z1.2.2.2.2.2.2.1))),(List.take ((z1.2.2.2.2.2.2.2.1).length) (List.drop 0 (z1.2.2.2.2.2.2.2.1))),(List.take ((z1.2.2.2.2.2.2.2.2.1).length) (List.drop 0 (z1.2.2.2.2.2.2.2.2.1))),(List.take ((z1.2.2.2.2.2.2.2.2.2.1).length) (List.drop 0 (z1.2.2.2.2.2.2.2.2.2.1))),(List.take ((z1.2.2.2.2.2.2.2.2.2.2.1).length) (List.drop 0 (z1.2.2.2.2.2.2.2.2.2.2.1))),(List.take ((z1.2.2.2.2.2.2.2.2.2.2.2.1).length) (List.drop 0 (z1.2.2.2.2.2.2.2.2.2.2.2.1))),z1.2.2.2.2.2.2.2.2.2.2.2.2.1,z1.2.2.2.2.2.2.2.2.2.2.2.2.2))))) (K (t8 (List.take out.length out))))):AY K a i out :=
 Loop.of h
theorem QHa(a:List Qc)(hp:bA (α:=List Qc) a):aK Tryz.prog 90 [(.c (.sl Qe) a)] (t8 (id (α:=List Qc) a)):=by
 refine bw H0 QT6 Vj 0 0 23 HZ (kc QM0 kn) (λK =>
 ((0<=(a.length:Int)/\(a.length:Int)<=cc)/\(AY K a 0 (List.take (Int.toNat (a.length:Int)) (List.replicate (Int.toNat (a.length:Int)) ((0:Int),[],[],false,false,[],[],[],[],[],[],[],(0:Int),false)))))) (λhb=>?_)
 refine⟨⟨by omega,by rw[gT];have:=Yr hp;omega⟩,?_⟩;refine nN a (A:=λii ll=>AY (λr'=>r'=t8 (id (α:=List Qc) a)) a ii ll) (Q:=λz=>t8 z=t8 (id (α:=List Qc) a)) hp ?_ ?_ rfl
 ·intro k x out aU hg ho hx hA;have hw:aG (((k:Nat):Int)+1)=((k+1:Nat):Int):=by have:=Yr hp;rw[QG (by omega) (by omega)];omega
  have hP:k<out.length:=by omega
  refine Vl _ _ _ _ ?_
  conv=>zeta
  refine⟨λ_=>?_,λh=>absurd h (by simp;omega)⟩;simp only[Int.toNat_natCast,Nat.zero_add,hg,hw,aU,hP,J0,List.drop_zero,List.take_length,id_eq,and_true,true_and,Int.natCast_nonneg]
  first | exact hA | exact⟨hx,hA⟩
 ·intro out ho hq;refine Vl _ _ _ _ ?_
  conv=>zeta
  refine⟨λh=>absurd h (by simp),λ_=>?_⟩;simp only[List.drop_zero,List.take_length];exact hq
theorem QJ0:Qf Tryz.prog HZ:=Qi λx h=>QHa x.1 h
def YI(t:Bool):aB:=b7 (bE t)
def H3:aI:=Qg 16 [(.a Qe),(.a Qe)] λx=>(none,YI (aX (α:=Qc) x.1 x.2.1))
def QQj:aF:=⟨[Hy,HQ,HD,xD,pc,Hf],false⟩
def QPW:af :=
 (ag [(.ae [aC 2 (.box 39 0 14),aC 3 (.box 39 1 14),ab 4 (a0 false)]),(ag [(.ae [ak 5 2 0,an 6 5 1,ak 7 3 0,an 8 7 1,aw 9 .neq 6 8]),(.cond 9 (ag [(.ae [ab 4 (a0 false)]),.ret]) .skip)]),(ag [(.ae [ak 10 2 1,an 11 10 1,ak 12 3 1,an 13 12 1,aD 14 75 [11,13],bL 15 14]),(.cond 15 (ag [(.ae [ab 4 (a0 false)]),.ret]) .skip)]),(ag [(.ae [ak 16 2 2,an 17 16 1,ak 18 3 2,an 19 18 1,aD 20 76 [17,19],bL 21 20]),(.cond 21 (ag [(.ae [ab 4 (a0 false)]),.ret]) .skip)]),(ag [(.ae [ak 22 2 3,an 23 22 1,ak 24 3 3,an 25 24 1,aC 26 (.ij true 23 25)]),(.cond 26 (ag [(.ae [ab 4 (a0 false)]),.ret]) .skip)]),(ag [(.ae [ak 27 2 4,an 28 27 1,ak 29 3 4,an 30 29 1,aC 31 (.ij true 28 30)]),(.cond 31 (ag [(.ae [ab 4 (a0 false)]),.ret]) .skip)]),(ag [(.ae [ak 32 2 5,an 33 32 1,ak 34 3 5,an 35 34 1,aD 36 77 [33,35],bL 37 36]),(.cond 37 (ag [(.ae [ab 4 (a0 false)]),.ret]) .skip)]),(ag [(.ae [ak 38 2 6,an 39 38 1,ak 40 3 6,an 41 40 1,aD 42 78 [39,41],bL 43 42]),(.cond 43 (ag [(.ae [ab 4 (a0 false)]),.ret]) .skip)]),(ag [(.ae [ak 44 2 7,an 45 44 1,ak 46 3 7,an 47 46 1,aD 48 23 [45,47],bL 49 48]),(.cond 49 (ag [(.ae [ab 4 (a0 false)]),.ret]) .skip)]),(ag [(.ae [ak 50 2 8,an 51 50 1,ak 52 3 8,an 53 52 1,aD 54 23 [51,53],bL 55 54]),(.cond 55 (ag [(.ae [ab 4 (a0 false)]),.ret]) .skip)]),(ag [(.ae [ak 56 2 9,an 57 56 1,ak 58 3 9,an 59 58 1,aD 60 23 [57,59],bL 61 60]),(.cond 61 (ag [(.ae [ab 4 (a0 false)]),.ret]) .skip)]),(ag [(.ae [ak 62 2 10,an 63 62 1,ak 64 3 10,an 65 64 1,aD 66 23 [63,65],bL 67 66]),(.cond 67 (ag [(.ae [ab 4 (a0 false)]),.ret]) .skip)]),(ag [(.ae [ak 68 2 11,a7 69 68 3,ak 70 3 11,a7 71 70 3,aD 72 46 [69,71],bL 73 72]),(.cond 73 (ag [(.ae [ab 4 (a0 false)]),.ret]) .skip)]),(.ae [ab 4 (a0 true)]),.ret])
def QSE:List (bm × Md):=[(.t 4,.one .d)]
theorem QQK(a:Qc)(b:Qc):aK Tryz.prog 16 [(.a (aR.cells Qe a)),(.a (aR.cells Qe b))] (YI (aX (α:=Qc) a b)):=by
 refine bw QQj QPW QSE 0 0 74 H3 (kc QHx (kc QTp (kc QGh (kc He (kc tX (kc QTO kn)))))) (λK =>
 (aJ (a.1 != b.1) (K (YI false)) (aJ (!(aX (α:=List bp) a.2.1 b.2.1)) (K (YI false)) (aJ (!(aX (α:=List aH) a.2.2.1 b.2.2.1)) (K (YI false)) (aJ (!(a.2.2.2.1==b.2.2.2.1)) (K (YI false)) (aJ (!(a.2.2.2.2.1==b.2.2.2.2.1)) (K (YI false)) (aJ (!(aX (α:=List QD) a.2.2.2.2.2.1 b.2.2.2.2.2.1)) (K (YI false)) (aJ (!(aX (α:=List (List Int)) a.2.2.2.2.2.2.1 b.2.2.2.2.2.2.1)) (K (YI false)) (aJ (!(aX (α:=List Int) a.2.2.2.2.2.2.2.1 b.2.2.2.2.2.2.2.1)) (K (YI false)) (aJ (!(aX (α:=List Int) a.2.2.2.2.2.2.2.2.1 b.2.2.2.2.2.2.2.2.1)) (K (YI false)) (aJ (!(aX (α:=List Int) a.2.2.2.2.2.2.2.2.2.1 b.2.2.2.2.2.2.2.2.2.1)) (K (YI false)) (aJ (!(aX (α:=List Int) a.2.2.2.2.2.2.2.2.2.2.1 b.2.2.2.2.2.2.2.2.2.2.1)) (K (YI false)) (aJ (!(aX (α:=QO) a.2.2.2.2.2.2.2.2.2.2.2 b.2.2.2.2.2.2.2.2.2.2.2)) (K (YI false)) (K (YI true))))))))))))))) (λhb=>?_)
 refine⟨λh=>au (Eq.symm (decide_eq_false (by rintro rfl;simp[aX]at h))),λh0=>?_⟩;refine⟨λh=>au (Eq.symm (decide_eq_false (by rintro rfl;simp[aX]at h))),λh1=>?_⟩;refine⟨λh=>au (Eq.symm (decide_eq_false (by rintro rfl;simp[aX]at h))),λh2=>?_⟩;refine⟨λh=>au (Eq.symm (decide_eq_false (by rintro rfl;simp[aX]at h))),λh3=>?_⟩;refine⟨λh=>au (Eq.symm (decide_eq_false (by rintro rfl;simp[aX]at h))),λh4=>?_⟩;refine⟨λh=>au (Eq.symm (decide_eq_false (by rintro rfl;simp[aX]at h))),λh5=>?_⟩;refine⟨λh=>au (Eq.symm (decide_eq_false (by rintro rfl;simp[aX]at h))),λh6=>?_⟩;refine⟨λh=>au (Eq.symm (decide_eq_false (by rintro rfl;simp[aX]at h))),λh7=>?_⟩;refine⟨λh=>au (Eq.symm (decide_eq_false (by rintro rfl;simp[aX]at h))),λh8=>?_⟩;refine⟨λh=>au (Eq.symm (decide_eq_false (by rintro rfl;simp[aX]at h))),λh9=>?_⟩;refine⟨λh=>au (Eq.symm (decide_eq_false (by rintro rfl;simp[aX]at h))),λnk=>?_⟩;refine⟨λh=>au (Eq.symm (decide_eq_false (by rintro rfl;simp[aX]at h))),λxH=>?_⟩;refine au (Eq.symm (decide_eq_true ?_));simp[aX]at h0 h1 h2 h3 h4 h5 h6 h7 h8 h9 nk xH;simp[Prod.ext_iff, *]
theorem QKj:Qf Tryz.prog H3:=Qi λx _=>QQK x.1 x.2.1
def r0(t:Bool):aB:=b7 (bE t)
def H4:aI:=Qg 93 [(.c (.sl Qe)),(.c (.sl Qe))] λx=>(none,r0 (aX (α:=List Qc) x.1 x.2.1))
def H5:aF:=⟨[H3],false⟩
def Vm:af :=
 (ag [(ag [(.ae [ab 11 5,ab 12 0,a9 13 12,aw 14 .lss 11 13]),(.cond 14 .skip (.exit 0))]),(.block 1 (ag [(.draw [ab 17 0,ab 18 5,aZ 19 17 18 Qe,a7 20 19 14,ab 21 1,ab 22 5,aZ 23 21 22 Qe,a7 24 23 14,aD 25 16 [20,24],bL 26 25] []),(.cond 26 (ag [(.ae [ab 4 (a0 false)]),.ret]) .skip)])),(.ae [ab 15 5,aw 16 .add 15 (ar 1),ab 5 16])])
def Vn:List (Nat × Md):=eW [0,1,5]
def Vo:af :=
 (ag [(.ae [ab 4 (a0 true)]),.ret])
def QK0:af :=
 (ag [(.ae [ab 4 (a0 false)]),(ag [(.ae [ab 6 0,a9 7 6,ab 8 1,a9 9 8,aw 10 .neq 7 9]),(.cond 10 (ag [(.ae [ab 4 (a0 false)]),.ret]) .skip)]),(ag [(.ae [ab 5 (ar 0)]),(.block 0 (.loop Vn Vm))]),Vo])
def Vp:List (bm × Md):=[(.t 4,.one .d)]
def Vq:Qb:=TQ 0 0 Vp K
def QRh:Qb:=aY (aN H5 0 Vo (Vq K)) (Vq K)
def QF1:Qb:=a6 0 (QRh K)
def H6(a:List Qc)(b:List Qc)(i:Int):Prop:=Loop H5 0 Vn Vm (QF1 K) ⟨[(0,(bc Qe a)),(1,(bc Qe b)),(5,(aL i))],[],0⟩
theorem QKV(a:List Qc)(b:List Qc)(i:Int) (h :
 (aJ (decide (i<(a.length:Int))) (((0<=i/\Int.toNat i<a.length)/\(0<=i/\Int.toNat i<b.length))/\(aJ (!(aX (α:=Qc) (aq Qz a (Int.toNat i)) (aq Qz b (Int.toNat i)))) (K (r0 false)) (H6 K a b (aG (i+1))))) (K (r0 true)))):H6 K a b i :=
 Loop.of h
theorem QVr(a:List Qc)(b:List Qc):aK Tryz.prog 93 [(.c (.sl Qe) a),(.c (.sl Qe) b)] (r0 (aX (α:=List Qc) a b)):=by
 refine bw H5 QK0 Vp 0 0 27 H4 (kc QKj kn) (λK =>
 (aJ ((a.length:Int) != (b.length:Int)) (K (r0 false)) (H6 K a b 0))) (λhb=>?_)
 exact nG Qz (E:=aX) (λ_ _=>rfl) hb.1.1 (λi h=>QKV _ a b i h) (Q:=λx=>r0 x=r0 (aX (α:=List Qc) a b)) rfl
theorem QTY:Qf Tryz.prog H4:=Qi λx _=>QVr x.1 x.2.1
def AZ(t:Int):aB:=b7 (aL t)
def H7:aI:=Qg 260 [(.a Qu),(.c TI)] λx=>(some (bJ (α:=Qm) x.1 x.2.1),AZ (bg (α:=Qm) x.1 x.2.1))
def QX2:aF:=⟨[rN],false⟩
def QXa:af :=
 (ag [(.ae [aC 2 (.box 249 0 2),ab 4 (ar 0)]),(.ae [ak 5 2 1,an 6 5 1,ab 7 1,aD 8 59 [6,7],ab 1 8]),(ag [(.ae [ab 9 1,aw 10 .lss 9 (ar 0)]),(.cond 10 (ag [(.ae [ab 4 (ar (-1))]),.ret]) .skip)]),(.ae [ab 11 1,ab 4 11]),.ret])
def QUM:List (bm × Md):=[(.t 4,.one .d)]
theorem QUW(a:Qm)(left:Int)(hp:bJ (α:=Qm) a left):aK Tryz.prog 260 [(.a [(.c TI a.1),(.c (.sl [TI]) a.2)]),(.c TI left)] (AZ (bg (α:=Qm) a left)):=by
 refine bw QX2 QXa QUM 0 0 12 H7 (kc xz kn) (λK =>
 ((bJ (α:=List Int) a.2 left)/\(aJ (decide ((bg (α:=List Int) a.2 left)<0)) (K (AZ (-1:Int))) (K (AZ (bg (α:=List Int) a.2 left)))))) (λhb=>?_)
 refine⟨hp,λh=>au (Z0 (of_decide_eq_true h) (by first | omega | (simp only[QR,QL,QY];omega)) hp.1),λh=>?_⟩;exact au (congrArg (Z7 · _) (by first | rfl | omega | (simp only[QR,QL,QY];omega)))
theorem QGj:Qf Tryz.prog H7:=Qi λx h=>QUW x.1 x.2.1 h
def r8(t:Int):aB:=b7 (aL t)
def H8:aI:=Qg 234 [(.c (.sl Qu)),(.c TI)] λx=>(some (bJ (α:=List Qm) x.1 x.2.1),r8 (bg (α:=List Qm) x.1 x.2.1))
def H9:aF:=⟨[H7],false⟩
def Vr:af :=
 (ag [(ag [(.ae [ab 12 5,ab 13 0,a9 14 13,aw 15 .lss 12 14]),(.cond 15 .skip (.exit 0))]),(.block 1 (ag [(.ae [ab 18 0,ab 19 5,aZ 20 18 19 Qu,a7 21 20 2,ab 22 1,aD 23 260 [21,22],ab 1 23]),(.ae [ab 24 1,aw 25 .lss 24 (ar 0)]),(.cond 25 (ag [(.ae [ab 4 (ar (-1))]),.ret]) .skip)])),(.ae [ab 16 5,aw 17 .add 16 (ar 1),ab 5 17])])
def Vs:List (Nat × Md):=eW [0,1,5]
def Vt:af :=
 (ag [(.ae [ab 26 1,ab 4 26]),.ret])
def QTu:af :=
 (ag [(.ae [ab 4 (ar 0)]),(.ae [ab 6 1,ab 7 0,a9 8 7,aw 9 .sub 6 8,ab 1 9]),(ag [(.ae [ab 10 1,aw 11 .lss 10 (ar 0)]),(.cond 11 (ag [(.ae [ab 4 (ar (-1))]),.ret]) .skip)]),(ag [(.ae [ab 5 (ar 0)]),(.block 0 (.loop Vs Vr))]),Vt])
def Vu:List (bm × Md):=[(.t 4,.one .d)]
def Vv:Qb:=TQ 0 0 Vu K
def QIE:Qb:=aY (aN H9 0 Vt (Vv K)) (Vv K)
def QTc:Qb:=a6 0 (QIE K)
def Ia(a:List Qm)(bC:Int)(i:Int):Prop:=Loop H9 0 Vs Vr (QTc K) ⟨[(0,(bc Qu a)),(1,(aL bC)),(5,(aL i))],[],0⟩
theorem QGl(a:List Qm)(bC:Int)(i:Int) (h :
 (aJ (decide (i<(a.length:Int))) (((0<=i/\Int.toNat i<a.length)/\(bJ (α:=Qm) (aq ((0,[]):Qm) a (Int.toNat i)) bC))/\(aJ (decide ((bg (α:=Qm) (aq ((0,[]):Qm) a (Int.toNat i)) bC)<0)) (K (r8 (-1:Int))) (Ia K a (bg (α:=Qm) (aq ((0,[]):Qm) a (Int.toNat i)) bC) (aG (i+1))))) (K (r8 bC)))):Ia K a bC i :=
 Loop.of h
theorem QUV(a:List Qm)(left:Int)(hp:bJ (α:=List Qm) a left):aK Tryz.prog 234 [(.c (.sl Qu) a),(.c TI left)] (r8 (bg (α:=List Qm) a left)):=by
 refine bw H9 QTu Vu 0 0 27 H8 (kc QGj kn) (λK =>
 (aJ (decide ((aG (left-(a.length:Int)))<0)) (K (r8 (-1:Int))) (Ia K a (aG (left-(a.length:Int))) 0))) (λhb=>?_)
 exact rz (Q:=λx=>r8 x=r8 (bg (α:=List Qm) a left)) ((0,[]):Qm) hp hb.1.1 (λl i h=>QGl _ a l i h) rfl
theorem QN1:Qf Tryz.prog H8:=Qi λx h=>QUV x.1 x.2.1 h
def A0(t:Int):aB:=b7 (aL t)
def Ib:aI:=Qg 175 [(.a Qh),(.c TI)] λx=>(some (bJ (α:=Qd) x.1 x.2.1),A0 (bg (α:=Qd) x.1 x.2.1))
def QRZ:aF:=⟨[H8],false⟩
def QUx:af :=
 (ag [(.ae [aC 2 (.box 208 0 2),ab 4 (ar 0)]),(.ae [ak 5 2 1,an 6 5 1,ab 7 1,aD 8 234 [6,7],ab 1 8]),(ag [(.ae [ab 9 1,aw 10 .lss 9 (ar 0)]),(.cond 10 (ag [(.ae [ab 4 (ar (-1))]),.ret]) .skip)]),(.ae [ab 11 1,ab 4 11]),.ret])
def QVE:List (bm × Md):=[(.t 4,.one .d)]
theorem QQb(a:Qd)(left:Int)(hp:bJ (α:=Qd) a left):aK Tryz.prog 175 [(.a [(.c TI a.1),(.c (.sl Qu) a.2)]),(.c TI left)] (A0 (bg (α:=Qd) a left)):=by
 refine bw QRZ QUx QVE 0 0 12 Ib (kc QN1 kn) (λK =>
 ((bJ (α:=List Qm) a.2 left)/\(aJ (decide ((bg (α:=List Qm) a.2 left)<0)) (K (A0 (-1:Int))) (K (A0 (bg (α:=List Qm) a.2 left)))))) (λhb=>?_)
 refine⟨hp,λh=>au (Z0 (of_decide_eq_true h) (by first | omega | (simp only[QR,QL,QY];omega)) hp.1),λh=>?_⟩;exact au (congrArg (Z7 · _) (by first | rfl | omega | (simp only[QR,QL,QY];omega)))
theorem QYc:Qf Tryz.prog Ib:=Qi λx h=>QQb x.1 x.2.1 h
def r9(t:Int):aB:=b7 (aL t)
def Ic:aI:=Qg 88 [(.c (.sl Qh)),(.c TI)] λx=>(some (bJ (α:=List Qd) x.1 x.2.1),r9 (bg (α:=List Qd) x.1 x.2.1))
def Ie:aF:=⟨[Ib],false⟩
def Vw:af :=
 (ag [(ag [(.ae [ab 12 5,ab 13 0,a9 14 13,aw 15 .lss 12 14]),(.cond 15 .skip (.exit 0))]),(.block 1 (ag [(.ae [ab 18 0,ab 19 5,aZ 20 18 19 Qh,a7 21 20 2,ab 22 1,aD 23 175 [21,22],ab 1 23]),(.ae [ab 24 1,aw 25 .lss 24 (ar 0)]),(.cond 25 (ag [(.ae [ab 4 (ar (-1))]),.ret]) .skip)])),(.ae [ab 16 5,aw 17 .add 16 (ar 1),ab 5 17])])
def Vx:List (Nat × Md):=eW [0,1,5]
def Vy:af :=
 (ag [(.ae [ab 26 1,ab 4 26]),.ret])
def QNm:af :=
 (ag [(.ae [ab 4 (ar 0)]),(.ae [ab 6 1,ab 7 0,a9 8 7,aw 9 .sub 6 8,ab 1 9]),(ag [(.ae [ab 10 1,aw 11 .lss 10 (ar 0)]),(.cond 11 (ag [(.ae [ab 4 (ar (-1))]),.ret]) .skip)]),(ag [(.ae [ab 5 (ar 0)]),(.block 0 (.loop Vx Vw))]),Vy])
def Vz:List (bm × Md):=[(.t 4,.one .d)]
def VA:Qb:=TQ 0 0 Vz K
def QNo:Qb:=aY (aN Ie 0 Vy (VA K)) (VA K)
def QKc:Qb:=a6 0 (QNo K)
def Ig(a:List Qd)(bC:Int)(i:Int):Prop:=Loop Ie 0 Vx Vw (QKc K) ⟨[(0,(bc Qh a)),(1,(aL bC)),(5,(aL i))],[],0⟩
theorem QQF(a:List Qd)(bC:Int)(i:Int) (h :
 (aJ (decide (i<(a.length:Int))) (((0<=i/\Int.toNat i<a.length)/\(bJ (α:=Qd) (aq Qx a (Int.toNat i)) bC))/\(aJ (decide ((bg (α:=Qd) (aq Qx a (Int.toNat i)) bC)<0)) (K (r9 (-1:Int))) (Ig K a (bg (α:=Qd) (aq Qx a (Int.toNat i)) bC) (aG (i+1))))) (K (r9 bC)))):Ig K a bC i :=
 Loop.of h
theorem QO6(a:List Qd)(left:Int)(hp:bJ (α:=List Qd) a left):aK Tryz.prog 88 [(.c (.sl Qh) a),(.c TI left)] (r9 (bg (α:=List Qd) a left)):=by
 refine bw Ie QNm Vz 0 0 27 Ic (kc QYc kn) (λK =>
 (aJ (decide ((aG (left-(a.length:Int)))<0)) (K (r9 (-1:Int))) (Ig K a (aG (left-(a.length:Int))) 0))) (λhb=>?_)
 exact rz (Q:=λx=>r9 x=r9 (bg (α:=List Qd) a left)) Qx hp hb.1.1 (λl i h=>QQF _ a l i h) rfl
theorem QTP:Qf Tryz.prog Ic:=Qi λx h=>QO6 x.1 x.2.1 h
def Ih(t:Qm):aB:=⟨(.a [(aL t.1),(.r [TI] 0 0 ((t.2).length))]),[(.sl 3 [TI] (.dp 0 true []) t.2)],[],false,[]⟩
def Ii:aI:=Qg 261 [(.a Qu)] λx=>(some (bA (α:=Qm) x.1),Ih (id (α:=Qm) x.1))
def QLR:aF:=⟨[pb],true⟩
def QHk:af :=
 (ag [(.ae [aC 1 (.box 249 0 2),aC 2 (.new 178 (bG Qu))]),(.ae [aC 3 (.new 178 (bG Qu))]),(.ae [ak 4 1 0,an 5 4 1,ak 6 3 0,aT 6 5 1]),(.ae [ak 7 1 1,an 8 7 1,aD 9 29 [8],ak 10 3 1,aT 10 9 1]),(.ae [a7 11 3 2,aT 2 11 2]),.ret])
def QK6:List (bm × Md):=[(.l 2 2 true,.b [.d,.p 3])]
theorem QVI(a:Qm)(hp:bA (α:=Qm) a):aK Tryz.prog 261 [(.a [(.c TI a.1),(.c (.sl [TI]) a.2)])] (Ih (id (α:=Qm) a)):=by
 refine bw QLR QHk QK6 0 0 12 Ii (kc tU kn) (λK =>
 ((bA (α:=List Int) a.2)/\K (Ih (a.1,(List.take ((id (α:=List Int) a.2).length) (id (α:=List Int) a.2)))))) (λhb=>?_)
 repeat' (first | refine And.intro ?_ ?_ | exact au (by simp))
 all_goals (simp only[bA,QR,QL,QY,List.drop_zero,List.take_length,id_eq]at hp ⊢;omega)
theorem QMi:Qf Tryz.prog Ii:=Qi λx h=>QVI x.1 h
def t9(t:(List Qm)):aB:=⟨(.r Qu 0 0 t.length),[(.sl 178 Qu (.dp 0 true []) t)],[],false,[]⟩
def Ij:aI:=Qg 235 [(.c (.sl Qu))] λx=>(some (bA (α:=List Qm) x.1),t9 (id (α:=List Qm) x.1))
def Ik:aF:=⟨[Ii],true⟩
def VB:af :=
 (ag [(ag [(.ae [ab 8 4,ab 9 0,a9 10 9,aw 11 .lss 8 10]),(.cond 11 .skip (.exit 0))]),(.block 1 (.ae [ab 14 3,ab 15 4,ab 16 0,ab 17 4,aZ 18 16 17 Qu,a7 19 18 2,aD 20 261 [19],aZ 21 14 15 Qu,aT 21 20 2])),(.ae [ab 12 4,aw 13 .add 12 (ar 1),ab 4 13])])
def VC:List (Nat × Md):=[(0,.one .d),(3,.one .f),(4,.one .d)]
def VD:af :=
 (ag [(.ae [ab 22 3,ab 2 22]),.ret])
def QXv:af :=
 (ag [(.ae [ab 2 (.k (.n Qu))]),(.ae [ab 5 0,a9 6 5,aC 7 (.mk 178 Qu (bG Qu) 6),ab 3 7]),(ag [(.ae [ab 4 (ar 0)]),(.block 0 (.loop VC VB))]),VD])
def VE:List (bm × Md):=[(.t 2,.one (.p 178))]
def VF:Qb:=TQ 0 0 VE K
def QWv:Qb:=aY (aN Ik 0 VD (VF K)) (VF K)
def QP0:Qb:=a6 0 (QWv K)
def A1(a:List Qm)(i:Int)(out:List Qm):Prop:=Loop Ik 0 VC VB (QP0 K) ⟨[(0,(bc Qu a)),(3,(.r Qu 0 0 out.length)),(4,(aL i))],[(0,(.sl 178 Qu (.dp 0 true []) out))],1⟩
theorem VG(a:List Qm)(i:Int)(out:List Qm) (h :
 (aJ (decide (i<(a.length:Int))) (((0<=i/\Int.toNat i<a.length)/\((bA (α:=Qm) (aq ((0,[]):Qm) a (Int.toNat i)))/\((0<=i/\Int.toNat i<out.length)/\((0+(Int.toNat i))<out.length))))/\(A1 K a (aG (i+1)) (List.take out.length ((out).set (0+(Int.toNat i)) ((id (α:=Qm) (aq ((0,[]):Qm) a (Int.toNat i))).1,(List.take (((id (α:=Qm) (aq ((0,[]):Qm) a (Int.toNat i))).2).length) (List.drop 0 ((id (α:=Qm) (aq ((0,[]):Qm) a (Int.toNat i))).2)))))))) (K (t9 (List.take out.length out))))):A1 K a i out :=
 Loop.of h
theorem QGZ(a:List Qm)(hp:bA (α:=List Qm) a):aK Tryz.prog 235 [(.c (.sl Qu) a)] (t9 (id (α:=List Qm) a)):=by
 refine bw Ik QXv VE 0 0 23 Ij (kc QMi kn) (λK =>
 ((0<=(a.length:Int)/\(a.length:Int)<=cc)/\(A1 K a 0 (List.take (Int.toNat (a.length:Int)) (List.replicate (Int.toNat (a.length:Int)) ((0:Int),[])))))) (λhb=>?_)
 refine⟨⟨by omega,by rw[gT];have:=Yr hp;omega⟩,?_⟩;refine nN a (A:=λii ll=>A1 (λr'=>r'=t9 (id (α:=List Qm) a)) a ii ll) (Q:=λz=>t9 z=t9 (id (α:=List Qm) a)) hp ?_ ?_ rfl
 ·intro k x out aU hg ho hx hA;have hw:aG (((k:Nat):Int)+1)=((k+1:Nat):Int):=by have:=Yr hp;rw[QG (by omega) (by omega)];omega
  have hP:k<out.length:=by omega
  refine VG _ _ _ _ ?_;refine⟨λ_=>?_,λh=>absurd h (by simp;omega)⟩;simp only[Int.toNat_natCast,Nat.zero_add,hg,hw,aU,hP,J0,List.drop_zero,List.take_length,id_eq,and_true,true_and,Int.natCast_nonneg]
  first | exact hA | exact⟨hx,hA⟩
 ·intro out ho hq;refine VG _ _ _ _ ?_;refine⟨λh=>absurd h (by simp),λ_=>?_⟩;simp only[List.drop_zero,List.take_length];exact hq
theorem QIB:Qf Tryz.prog Ij:=Qi λx h=>QGZ x.1 h
def Il(t:Qd):aB:=⟨(.a [(aL t.1),(.r Qu 0 0 ((t.2).length))]),[(.sl 178 Qu (.dp 0 true []) t.2)],[],false,[]⟩
def Im:aI:=Qg 178 [(.a Qh)] λx=>(some (bA (α:=Qd) x.1),Il (id (α:=Qd) x.1))
def QFJ:aF:=⟨[Ij],true⟩
def QON:af :=
 (ag [(.ae [aC 1 (.box 208 0 2),aC 2 (.new 161 (bG Qh))]),(.ae [aC 3 (.new 161 (bG Qh))]),(.ae [ak 4 1 0,an 5 4 1,ak 6 3 0,aT 6 5 1]),(.ae [ak 7 1 1,an 8 7 1,aD 9 235 [8],ak 10 3 1,aT 10 9 1]),(.ae [a7 11 3 2,aT 2 11 2]),.ret])
def QSD:List (bm × Md):=[(.l 2 2 true,.b [.d,.p 178])]
theorem QFU(a:Qd)(hp:bA (α:=Qd) a):aK Tryz.prog 178 [(.a [(.c TI a.1),(.c (.sl Qu) a.2)])] (Il (id (α:=Qd) a)):=by
 refine bw QFJ QON QSD 0 0 12 Im (kc QIB kn) (λK =>
 ((bA (α:=List Qm) a.2)/\K (Il (a.1,(List.take ((id (α:=List Qm) a.2).length) (id (α:=List Qm) a.2)))))) (λhb=>?_)
 repeat' (first | refine And.intro ?_ ?_ | exact au (by simp))
 all_goals (simp only[bA,QR,QL,QY,List.drop_zero,List.take_length,id_eq]at hp ⊢;omega)
theorem QWQ:Qf Tryz.prog Im:=Qi λx h=>QFU x.1 h
def ua(t:(List Qd)):aB:=⟨(.r Qh 0 0 t.length),[(.sl 161 Qh (.dp 0 true []) t)],[],false,[]⟩
def Ip:aI:=Qg 91 [(.c (.sl Qh))] λx=>(some (bA (α:=List Qd) x.1),ua (id (α:=List Qd) x.1))
def Iq:aF:=⟨[Im],true⟩
def VH:af :=
 (ag [(ag [(.ae [ab 8 4,ab 9 0,a9 10 9,aw 11 .lss 8 10]),(.cond 11 .skip (.exit 0))]),(.block 1 (.ae [ab 14 3,ab 15 4,ab 16 0,ab 17 4,aZ 18 16 17 Qh,a7 19 18 2,aD 20 178 [19],aZ 21 14 15 Qh,aT 21 20 2])),(.ae [ab 12 4,aw 13 .add 12 (ar 1),ab 4 13])])
def VI:List (Nat × Md):=[(0,.one .d),(3,.one .f),(4,.one .d)]
def VJ:af :=
 (ag [(.ae [ab 22 3,ab 2 22]),.ret])
def QXl:af :=
 (ag [(.ae [ab 2 (.k (.n Qh))]),(.ae [ab 5 0,a9 6 5,aC 7 (.mk 161 Qh (bG Qh) 6),ab 3 7]),(ag [(.ae [ab 4 (ar 0)]),(.block 0 (.loop VI VH))]),VJ])
def VK:List (bm × Md):=[(.t 2,.one (.p 161))]
def VL:Qb:=TQ 0 0 VK K
def QHP:Qb:=aY (aN Iq 0 VJ (VL K)) (VL K)
def QN3:Qb:=a6 0 (QHP K)
def A2(a:List Qd)(i:Int)(out:List Qd):Prop:=Loop Iq 0 VI VH (QN3 K) ⟨[(0,(bc Qh a)),(3,(.r Qh 0 0 out.length)),(4,(aL i))],[(0,(.sl 161 Qh (.dp 0 true []) out))],1⟩
theorem VM(a:List Qd)(i:Int)(out:List Qd) (h :
 (aJ (decide (i<(a.length:Int))) (((0<=i/\Int.toNat i<a.length)/\((bA (α:=Qd) (aq Qx a (Int.toNat i)))/\((0<=i/\Int.toNat i<out.length)/\((0+(Int.toNat i))<out.length))))/\(A2 K a (aG (i+1)) (List.take out.length ((out).set (0+(Int.toNat i)) ((id (α:=Qd) (aq Qx a (Int.toNat i))).1,(List.take (((id (α:=Qd) (aq Qx a (Int.toNat i))).2).length) (List.drop 0 ((id (α:=Qd) (aq Qx a (Int.toNat i))).2)))))))) (K (ua (List.take out.length out))))):A2 K a i out :=
 Loop.of h
theorem QJn(a:List Qd)(hp:bA (α:=List Qd) a):aK Tryz.prog 91 [(.c (.sl Qh) a)] (ua (id (α:=List Qd) a)):=by
 refine bw Iq QXl VK 0 0 23 Ip (kc QWQ kn) (λK =>
 ((0<=(a.length:Int)/\(a.length:Int)<=cc)/\(A2 K a 0 (List.take (Int.toNat (a.length:Int)) (List.replicate (Int.toNat (a.length:Int)) ((0:Int),[])))))) (λhb=>?_)
 refine⟨⟨by omega,by rw[gT];have:=Yr hp;omega⟩,?_⟩;refine nN a (A:=λii ll=>A2 (λr'=>r'=ua (id (α:=List Qd) a)) a ii ll) (Q:=λz=>ua z=ua (id (α:=List Qd) a)) hp ?_ ?_ rfl
 ·intro k x out aU hg ho hx hA;have hw:aG (((k:Nat):Int)+1)=((k+1:Nat):Int):=by have:=Yr hp;rw[QG (by omega) (by omega)];omega
  have hP:k<out.length:=by omega
  refine VM _ _ _ _ ?_;refine⟨λ_=>?_,λh=>absurd h (by simp;omega)⟩;simp only[Int.toNat_natCast,Nat.zero_add,hg,hw,aU,hP,J0,List.drop_zero,List.take_length,id_eq,and_true,true_and,Int.natCast_nonneg]
  first | exact hA | exact⟨hx,hA⟩
 ·intro out ho hq;refine VM _ _ _ _ ?_;refine⟨λh=>absurd h (by simp),λ_=>?_⟩;simp only[List.drop_zero,List.take_length];exact hq
theorem QWV:Qf Tryz.prog Ip:=Qi λx h=>QJn x.1 h
def xI(t:Bool):aB:=b7 (bE t)
def Ir:aI:=Qg 262 [(.a Qu),(.a Qu)] λx=>(none,xI (aX (α:=Qm) x.1 x.2.1))
def QYD:aF:=⟨[pc],false⟩
def QQo:af :=
 (ag [(.ae [aC 2 (.box 178 0 2),aC 3 (.box 178 1 2),ab 4 (a0 false)]),(ag [(.ae [ak 5 2 0,an 6 5 1,ak 7 3 0,an 8 7 1,aw 9 .neq 6 8]),(.cond 9 (ag [(.ae [ab 4 (a0 false)]),.ret]) .skip)]),(ag [(.ae [ak 10 2 1,an 11 10 1,ak 12 3 1,an 13 12 1,aD 14 23 [11,13],bL 15 14]),(.cond 15 (ag [(.ae [ab 4 (a0 false)]),.ret]) .skip)]),(.ae [ab 4 (a0 true)]),.ret])
def QIg:List (bm × Md):=[(.t 4,.one .d)]
theorem QWd(a:Qm)(b:Qm):aK Tryz.prog 262 [(.a [(.c TI a.1),(.c (.sl [TI]) a.2)]),(.a [(.c TI b.1),(.c (.sl [TI]) b.2)])] (xI (aX (α:=Qm) a b)):=by
 refine bw QYD QQo QIg 0 0 16 Ir (kc tX kn) (λK =>
 (aJ (a.1 != b.1) (K (xI false)) (aJ (!(aX (α:=List Int) a.2 b.2)) (K (xI false)) (K (xI true))))) (λhb=>?_)
 refine⟨λh=>au (Eq.symm (decide_eq_false (by rintro rfl;simp[aX]at h))),λh0=>?_⟩;refine⟨λh=>au (Eq.symm (decide_eq_false (by rintro rfl;simp[aX]at h))),λh1=>?_⟩;refine au (Eq.symm (decide_eq_true ?_));simp[aX]at h0 h1;simp[Prod.ext_iff, *]
theorem QLg:Qf Tryz.prog Ir:=Qi λx _=>QWd x.1 x.2.1
def sa(t:Bool):aB:=b7 (bE t)
def Is:aI:=Qg 236 [(.c (.sl Qu)),(.c (.sl Qu))] λx=>(none,sa (aX (α:=List Qm) x.1 x.2.1))
def It:aF:=⟨[Ir],false⟩
def VN:af :=
 (ag [(ag [(.ae [ab 11 5,ab 12 0,a9 13 12,aw 14 .lss 11 13]),(.cond 14 .skip (.exit 0))]),(.block 1 (ag [(.draw [ab 17 0,ab 18 5,aZ 19 17 18 Qu,a7 20 19 2,ab 21 1,ab 22 5,aZ 23 21 22 Qu,a7 24 23 2,aD 25 262 [20,24],bL 26 25] []),(.cond 26 (ag [(.ae [ab 4 (a0 false)]),.ret]) .skip)])),(.ae [ab 15 5,aw 16 .add 15 (ar 1),ab 5 16])])
def VO:List (Nat × Md):=eW [0,1,5]
def VP:af :=
 (ag [(.ae [ab 4 (a0 true)]),.ret])
def QT2:af :=
 (ag [(.ae [ab 4 (a0 false)]),(ag [(.ae [ab 6 0,a9 7 6,ab 8 1,a9 9 8,aw 10 .neq 7 9]),(.cond 10 (ag [(.ae [ab 4 (a0 false)]),.ret]) .skip)]),(ag [(.ae [ab 5 (ar 0)]),(.block 0 (.loop VO VN))]),VP])
def VQ:List (bm × Md):=[(.t 4,.one .d)]
def VS:Qb:=TQ 0 0 VQ K
def QPS:Qb:=aY (aN It 0 VP (VS K)) (VS K)
def QF0:Qb:=a6 0 (QPS K)
def Iu(a:List Qm)(b:List Qm)(i:Int):Prop:=Loop It 0 VO VN (QF0 K) ⟨[(0,(bc Qu a)),(1,(bc Qu b)),(5,(aL i))],[],0⟩
theorem QMo(a:List Qm)(b:List Qm)(i:Int) (h :
 (aJ (decide (i<(a.length:Int))) (((0<=i/\Int.toNat i<a.length)/\(0<=i/\Int.toNat i<b.length))/\(aJ (!(aX (α:=Qm) (aq ((0,[]):Qm) a (Int.toNat i)) (aq ((0,[]):Qm) b (Int.toNat i)))) (K (sa false)) (Iu K a b (aG (i+1))))) (K (sa true)))):Iu K a b i :=
 Loop.of h
theorem QGN(a:List Qm)(b:List Qm):aK Tryz.prog 236 [(.c (.sl Qu) a),(.c (.sl Qu) b)] (sa (aX (α:=List Qm) a b)):=by
 refine bw It QT2 VQ 0 0 27 Is (kc QLg kn) (λK =>
 (aJ ((a.length:Int) != (b.length:Int)) (K (sa false)) (Iu K a b 0))) (λhb=>?_)
 exact nG ((0,[]):Qm) (E:=aX) (λ_ _=>rfl) hb.1.1 (λi h=>QMo _ a b i h) (Q:=λx=>sa x=sa (aX (α:=List Qm) a b)) rfl
theorem QPw:Qf Tryz.prog Is:=Qi λx _=>QGN x.1 x.2.1
def xJ(t:Bool):aB:=b7 (bE t)
def Iv:aI:=Qg 181 [(.a Qh),(.a Qh)] λx=>(none,xJ (aX (α:=Qd) x.1 x.2.1))
def QOM:aF:=⟨[Is],false⟩
def QUX:af :=
 (ag [(.ae [aC 2 (.box 161 0 2),aC 3 (.box 161 1 2),ab 4 (a0 false)]),(ag [(.ae [ak 5 2 0,an 6 5 1,ak 7 3 0,an 8 7 1,aw 9 .neq 6 8]),(.cond 9 (ag [(.ae [ab 4 (a0 false)]),.ret]) .skip)]),(ag [(.ae [ak 10 2 1,an 11 10 1,ak 12 3 1,an 13 12 1,aD 14 236 [11,13],bL 15 14]),(.cond 15 (ag [(.ae [ab 4 (a0 false)]),.ret]) .skip)]),(.ae [ab 4 (a0 true)]),.ret])
def QSM:List (bm × Md):=[(.t 4,.one .d)]
theorem QTz(a:Qd)(b:Qd):aK Tryz.prog 181 [(.a [(.c TI a.1),(.c (.sl Qu) a.2)]),(.a [(.c TI b.1),(.c (.sl Qu) b.2)])] (xJ (aX (α:=Qd) a b)):=by
 refine bw QOM QUX QSM 0 0 16 Iv (kc QPw kn) (λK =>
 (aJ (a.1 != b.1) (K (xJ false)) (aJ (!(aX (α:=List Qm) a.2 b.2)) (K (xJ false)) (K (xJ true))))) (λhb=>?_)
 refine⟨λh=>au (Eq.symm (decide_eq_false (by rintro rfl;simp[aX]at h))),λh0=>?_⟩;refine⟨λh=>au (Eq.symm (decide_eq_false (by rintro rfl;simp[aX]at h))),λh1=>?_⟩;refine au (Eq.symm (decide_eq_true ?_));simp[aX]at h0 h1;simp[Prod.ext_iff, *]
theorem QQh:Qf Tryz.prog Iv:=Qi λx _=>QTz x.1 x.2.1
def sb(t:Bool):aB:=b7 (bE t)
def Iw:aI:=Qg 94 [(.c (.sl Qh)),(.c (.sl Qh))] λx=>(none,sb (aX (α:=List Qd) x.1 x.2.1))
def Ix:aF:=⟨[Iv],false⟩
def VT:af :=
 (ag [(ag [(.ae [ab 11 5,ab 12 0,a9 13 12,aw 14 .lss 11 13]),(.cond 14 .skip (.exit 0))]),(.block 1 (ag [(.draw [ab 17 0,ab 18 5,aZ 19 17 18 Qh,a7 20 19 2,ab 21 1,ab 22 5,aZ 23 21 22 Qh,a7 24 23 2,aD 25 181 [20,24],bL 26 25] []),(.cond 26 (ag [(.ae [ab 4 (a0 false)]),.ret]) .skip)])),(.ae [ab 15 5,aw 16 .add 15 (ar 1),ab 5 16])])
def VU:List (Nat × Md):=eW [0,1,5]
def VV:af :=
 (ag [(.ae [ab 4 (a0 true)]),.ret])
def QYo:af :=
 (ag [(.ae [ab 4 (a0 false)]),(ag [(.ae [ab 6 0,a9 7 6,ab 8 1,a9 9 8,aw 10 .neq 7 9]),(.cond 10 (ag [(.ae [ab 4 (a0 false)]),.ret]) .skip)]),(ag [(.ae [ab 5 (ar 0)]),(.block 0 (.loop VU VT))]),VV])
def VW:List (bm × Md):=[(.t 4,.one .d)]
def VX:Qb:=TQ 0 0 VW K
def QVy:Qb:=aY (aN Ix 0 VV (VX K)) (VX K)
def QGt:Qb:=a6 0 (QVy K)
def Iy(a:List Qd)(b:List Qd)(i:Int):Prop:=Loop Ix 0 VU VT (QGt K) ⟨[(0,(bc Qh a)),(1,(bc Qh b)),(5,(aL i))],[],0⟩
theorem QQT(a:List Qd)(b:List Qd)(i:Int) (h :
 (aJ (decide (i<(a.length:Int))) (((0<=i/\Int.toNat i<a.length)/\(0<=i/\Int.toNat i<b.length))/\(aJ (!(aX (α:=Qd) (aq Qx a (Int.toNat i)) (aq Qx b (Int.toNat i)))) (K (sb false)) (Iy K a b (aG (i+1))))) (K (sb true)))):Iy K a b i :=
 Loop.of h
theorem QYA(a:List Qd)(b:List Qd):aK Tryz.prog 94 [(.c (.sl Qh) a),(.c (.sl Qh) b)] (sb (aX (α:=List Qd) a b)):=by
 refine bw Ix QYo VW 0 0 27 Iw (kc QQh kn) (λK =>
 (aJ ((a.length:Int) != (b.length:Int)) (K (sb false)) (Iy K a b 0))) (λhb=>?_)
 exact nG Qx (E:=aX) (λ_ _=>rfl) hb.1.1 (λi h=>QQT _ a b i h) (Q:=λx=>sb x=sb (aX (α:=List Qd) a b)) rfl
theorem QHf:Qf Tryz.prog Iw:=Qi λx _=>QYA x.1 x.2.1
def sd(t:Int):aB:=b7 (aL t)
def Iz:aI:=Qg 19 [(.a QM),(.c TI)] λx=>(some (bJ (α:=Qk) x.1 x.2.1),sd (bg (α:=Qk) x.1 x.2.1))
def QRm:aF:=⟨[GR,HU,Ic],false⟩
def QJY:af :=
 (ag [(.ae [aC 2 (.box 49 0 4),ab 4 (ar 0)]),(.ae [ak 5 2 0,an 6 5 1,ab 7 1,aD 8 34 [6,7],ab 1 8]),(ag [(.ae [ab 9 1,aw 10 .lss 9 (ar 0)]),(.cond 10 (ag [(.ae [ab 4 (ar (-1))]),.ret]) .skip)]),(.ae [ak 11 2 1,an 12 11 1,ab 13 1,aD 14 87 [12,13],ab 1 14]),(ag [(.ae [ab 15 1,aw 16 .lss 15 (ar 0)]),(.cond 16 (ag [(.ae [ab 4 (ar (-1))]),.ret]) .skip)]),(.ae [ak 17 2 2,an 18 17 1,ab 19 1,aD 20 88 [18,19],ab 1 20]),(ag [(.ae [ab 21 1,aw 22 .lss 21 (ar 0)]),(.cond 22 (ag [(.ae [ab 4 (ar (-1))]),.ret]) .skip)]),(.ae [ak 23 2 3,an 24 23 1,ab 25 1,aD 26 88 [24,25],ab 1 26]),(ag [(.ae [ab 27 1,aw 28 .lss 27 (ar 0)]),(.cond 28 (ag [(.ae [ab 4 (ar (-1))]),.ret]) .skip)]),(.ae [ab 29 1,ab 4 29]),.ret])
def QRJ:List (bm × Md):=[(.t 4,.one .d)]
theorem QS8(a:Qk)(left:Int)(hp:bJ (α:=Qk) a left):aK Tryz.prog 19 [(.a (aR.cells QM a)),(.c TI left)] (sd (bg (α:=Qk) a left)):=by
 refine bw QRm QJY QRJ 0 0 30 Iz (kc QYN (kc QYz (kc QTP kn))) (λK =>
 let z3:=bg (α:=List Qo) a.1 left
 let z1:=bg (α:=List Qc) a.2.1 z3
 let z2:=bg (α:=List Qd) a.2.2.1 z1
 ((bJ (α:=List Qo) a.1 left)/\(aJ (decide (z3<0)) (K (sd (-1:Int))) ((bJ (α:=List Qc) a.2.1 z3)/\(aJ (decide (z1<0)) (K (sd (-1:Int))) ((bJ (α:=List Qd) a.2.2.1 z1)/\(aJ (decide (z2<0)) (K (sd (-1:Int))) ((bJ (α:=List Qd) a.2.2.2 z2)/\(aJ (decide ((bg (α:=List Qd) a.2.2.2 z2)<0)) (K (sd (-1:Int))) (K (sd (bg (α:=List Qd) a.2.2.2 z2)))))))))))) (λhb=>?_)
 refine⟨hp,λh=>au (Z0 (of_decide_eq_true h) (by first | omega | (simp only[QR,QL,QY];omega)) hp.1),λh=>?_⟩;rw[Jv (Int.not_lt.1 (of_decide_eq_false h))];refine⟨Jp hp,λh=>au (Z0 (of_decide_eq_true h) (by first | omega | (simp only[QR,QL,QY];omega)) hp.1),λh=>?_⟩;rw[Jv (Int.not_lt.1 (of_decide_eq_false h))];refine⟨Jp hp,λh=>au (Z0 (of_decide_eq_true h) (by first | omega | (simp only[QR,QL,QY];omega)) hp.1),λh=>?_⟩;rw[Jv (Int.not_lt.1 (of_decide_eq_false h))];refine⟨Jp hp,λh=>au (Z0 (of_decide_eq_true h) (by first | omega | (simp only[QR,QL,QY];omega)) hp.1),λh=>?_⟩;exact au (congrArg (Z7 · _) (by first | rfl | omega | (simp only[QR,QL,QY];omega)))
theorem QXc:Qf Tryz.prog Iz:=Qi λx h=>QS8 x.1 x.2.1 h
def IA(t:Qk):aB:=⟨(.a [(.r QF 0 0 ((t.1).length)),(.r Qe 1 0 ((t.2.1).length)),(.r Qh 2 0 ((t.2.2.1).length)),(.r Qh 3 0 ((t.2.2.2).length))]),[(.sl 154 QF (.dp 0 true []) t.1),(.sl 39 Qe (.dp 0 true []) t.2.1),(.sl 161 Qh (.dp 0 true []) t.2.2.1),(.sl 161 Qh (.dp 0 true []) t.2.2.2)],[],false,[]⟩
def IB:aI:=Qg 21 [(.a QM)] λx=>(some (bA (α:=Qk) x.1),IA (id (α:=Qk) x.1))
def QSU:aF:=⟨[G6,HZ,Ip],true⟩
def QXs:af :=
 (ag [(.ae [aC 1 (.box 49 0 4),aC 2 (.new 56 (bG QM))]),(.ae [aC 3 (.new 56 (bG QM))]),(.ae [ak 4 1 0,an 5 4 1,aD 6 37 [5],ak 7 3 0,aT 7 6 1]),(.ae [ak 8 1 1,an 9 8 1,aD 10 90 [9],ak 11 3 1,aT 11 10 1]),(.ae [ak 12 1 2,an 13 12 1,aD 14 91 [13],ak 15 3 2,aT 15 14 1]),(.ae [ak 16 1 3,an 17 16 1,aD 18 91 [17],ak 19 3 3,aT 19 18 1]),(.ae [a7 20 3 4,aT 2 20 4]),.ret])
def QUK:List (bm × Md):=[(.l 2 4 true,.b [.p 154,.p 39,.p 161,.p 161])]
theorem QJF(a:Qk)(hp:bA (α:=Qk) a):aK Tryz.prog 21 [(.a (aR.cells QM a))] (IA (id (α:=Qk) a)):=by
 refine bw QSU QXs QUK 0 0 21 IB (kc QIc (kc QJ0 (kc QWV kn))) (λK =>
 ((bA (α:=List Qo) a.1)/\((bA (α:=List Qc) a.2.1)/\((bA (α:=List Qd) a.2.2.1)/\((bA (α:=List Qd) a.2.2.2)/\K (IA ((List.take ((id (α:=List Qo) a.1).length) (id (α:=List Qo) a.1)),(List.take ((id (α:=List Qc) a.2.1).length) (id (α:=List Qc) a.2.1)),(List.take ((id (α:=List Qd) a.2.2.1).length) (id (α:=List Qd) a.2.2.1)),(List.take ((id (α:=List Qd) a.2.2.2).length) (id (α:=List Qd) a.2.2.2))))))))) (λhb=>?_)
 repeat' (first | refine And.intro ?_ ?_ | exact au (by simp))
 all_goals (simp only[bA,QR,QL,QY,List.drop_zero,List.take_length,id_eq]at hp ⊢;omega)
theorem QLy:Qf Tryz.prog IB:=Qi λx h=>QJF x.1 h
def se(t:Bool):aB:=b7 (bE t)
def IC:aI:=Qg 24 [(.a QM),(.a QM)] λx=>(none,se (aX (α:=Qk) x.1 x.2.1))
def QFn:aF:=⟨[Hh,H4,Iw],false⟩
def QLB:af :=
 (ag [(.ae [aC 2 (.box 56 0 4),aC 3 (.box 56 1 4),ab 4 (a0 false)]),(ag [(.ae [ak 5 2 0,an 6 5 1,ak 7 3 0,an 8 7 1,aD 9 40 [6,8],bL 10 9]),(.cond 10 (ag [(.ae [ab 4 (a0 false)]),.ret]) .skip)]),(ag [(.ae [ak 11 2 1,an 12 11 1,ak 13 3 1,an 14 13 1,aD 15 93 [12,14],bL 16 15]),(.cond 16 (ag [(.ae [ab 4 (a0 false)]),.ret]) .skip)]),(ag [(.ae [ak 17 2 2,an 18 17 1,ak 19 3 2,an 20 19 1,aD 21 94 [18,20],bL 22 21]),(.cond 22 (ag [(.ae [ab 4 (a0 false)]),.ret]) .skip)]),(ag [(.ae [ak 23 2 3,an 24 23 1,ak 25 3 3,an 26 25 1,aD 27 94 [24,26],bL 28 27]),(.cond 28 (ag [(.ae [ab 4 (a0 false)]),.ret]) .skip)]),(.ae [ab 4 (a0 true)]),.ret])
def QP5:List (bm × Md):=[(.t 4,.one .d)]
theorem QSs(a:Qk)(b:Qk):aK Tryz.prog 24 [(.a (aR.cells QM a)),(.a (aR.cells QM b))] (se (aX (α:=Qk) a b)):=by
 refine bw QFn QLB QP5 0 0 29 IC (kc QX6 (kc QTY (kc QHf kn))) (λK =>
 (aJ (!(aX (α:=List Qo) a.1 b.1)) (K (se false)) (aJ (!(aX (α:=List Qc) a.2.1 b.2.1)) (K (se false)) (aJ (!(aX (α:=List Qd) a.2.2.1 b.2.2.1)) (K (se false)) (aJ (!(aX (α:=List Qd) a.2.2.2 b.2.2.2)) (K (se false)) (K (se true))))))) (λhb=>?_)
 refine⟨λh=>au (Eq.symm (decide_eq_false (by rintro rfl;simp[aX]at h))),λh0=>?_⟩;refine⟨λh=>au (Eq.symm (decide_eq_false (by rintro rfl;simp[aX]at h))),λh1=>?_⟩;refine⟨λh=>au (Eq.symm (decide_eq_false (by rintro rfl;simp[aX]at h))),λh2=>?_⟩;refine⟨λh=>au (Eq.symm (decide_eq_false (by rintro rfl;simp[aX]at h))),λh3=>?_⟩;refine au (Eq.symm (decide_eq_true ?_));simp[aX]at h0 h1 h2 h3;simp[Prod.ext_iff, *]
theorem QWy:Qf Tryz.prog IC:=Qi λx _=>QSs x.1 x.2.1
def ID(t:Bool):aB:=b7 (bE t)
def YQ:aI:=Qg 158 [(.c TI),(.c TI),(.c TI)] λx=>(none,ID (bh x.1 x.2.1 x.2.2.1))
def QVF:aF:=⟨[],false⟩
def QPI:af :=
 (ag [(.ae [ab 6 (a0 false)]),(.ae [ab 7 0,ab 8 1,aw 9 .geq 7 8,ab 10 9,.bt 10 true [ab 11 0,ab 12 2,aw 13 .leq 11 12] 14 13,ab 6 14]),.ret])
def QHJ:List (bm × Md):=[(.t 6,.one .d)]
theorem QXi(x:Int)(low:Int)(high:Int):aK Tryz.prog 158 [(.c TI x),(.c TI low),(.c TI high)] (ID (bh x low high)):=by
 refine bw QVF QPI QHJ 0 0 15 YQ kn (λK =>
 K (ID ((decide (x>=low))&&(decide (x<=high))))) (λhb=>?_)
 exact au rfl
theorem Jo:Qf Tryz.prog YQ:=Qi λx _=>QXi x.1 x.2.1 x.2.2.1
def IE(t:Bool):aB:=b7 (bE t)
def ub:aI:=Qg 183 [(.c TI)] λx=>(none,IE (Zt x.1))
def QXS:aF:=⟨[YQ],false⟩
def QE9:af :=
 (ag [(.ae [ab 2 (a0 false)]),(.ae [ab 3 0,aD 4 158 [3,(ar (-2147483647)),(ar 2147483647)],ab 2 4]),.ret])
def QYn:List (bm × Md):=[(.t 2,.one .d)]
theorem QOc(x:Int):aK Tryz.prog 183 [(.c TI x)] (IE (Zt x)):=by
 refine bw QXS QE9 QYn 0 0 5 ub (kc Jo kn) (λK =>
 K (IE (bh x (-2147483647:Int) (2147483647:Int)))) (λhb=>?_)
 exact au rfl
theorem A3:Qf Tryz.prog ub:=Qi λx _=>QOc x.1
def IF(t:Bool):aB:=b7 (bE t)
def xK:aI:=Qg 240 [(.c TI)] λx=>(none,IF (Zt x.1))
def QFt:aF:=⟨[],false⟩
def QRj:af :=
 (ag [(.ae [ab 2 (a0 false)]),(.ae [ab 3 0,aw 4 .geq 3 (ar (-2147483647)),ab 5 4,.bt 5 true [ab 6 0,aw 7 .leq 6 (ar 2147483647)] 8 7,ab 2 8]),.ret])
def QJk:List (bm × Md):=[(.t 2,.one .d)]
theorem QFO(x:Int):aK Tryz.prog 240 [(.c TI x)] (IF (Zt x)):=by
 refine bw QFt QRj QJk 0 0 9 xK kn (λK =>
 K (IF ((decide (x>=(-2147483647:Int)))&&(decide (x<=2147483647))))) (λhb=>?_)
 exact au rfl
theorem IG:Qf Tryz.prog xK:=Qi λx _=>QFO x.1
def uc(t:Bool):aB:=b7 (bE t)
def xL:aI:=Qg 238 [(.c (.sl [TI]))] λx=>(none,uc (Z8 x.1))
def IH:aF:=⟨[xK],false⟩
def VY:af :=
 (ag [(.ae [aw 8 .lss 7 6]),(.cond 8 .skip (.exit 0)),(.block 1 (ag [(.ae [aZ 9 5 7 [TI],an 10 9 1,ab 4 10]),(.ae [ab 11 4,aD 12 240 [11],bL 13 12]),(.cond 13 (ag [(.ae [ab 2 (a0 false)]),.ret]) .skip)])),(.ae [aw 14 .add 7 (ar 1),ab 7 14])])
def VZ:List (Nat × Md):=eW [5,6,7]
def V0:af :=
 (ag [(.ae [ab 2 (a0 true)]),.ret])
def QId:af :=
 (ag [(.ae [ab 2 (a0 false)]),(ag [(.ae [ab 5 0,a9 6 5,ab 7 (ar 0)]),(.block 0 (.loop VZ VY))]),V0])
def V1:List (bm × Md):=[(.t 2,.one .d)]
def V2:Qb:=TQ 0 0 V1 K
def QXr:Qb:=aY (aN IH 0 V0 (V2 K)) (V2 K)
def QNc:Qb:=a6 0 (QXr K)
def II(v:List Int)(x:Int):Prop:=Loop IH 0 VZ VY (QNc K) ⟨[(5,(bc [TI] v)),(6,(aL (v.length:Int))),(7,(aL x))],[],0⟩
theorem QIm(v:List Int)(x:Int) (h :
 (aJ (decide (x<(v.length:Int))) ((0<=x/\Int.toNat x<v.length)/\(aJ (!(Zt (aq (0:Int) v (Int.toNat x)))) (K (uc false)) (II K v (aG (x+1))))) (K (uc true)))):II K v x :=
 Loop.of h
theorem QMl(v:List Int):aK Tryz.prog 238 [(.c (.sl [TI]) v)] (uc (Z8 v)):=by
 refine bw IH QId V1 0 0 15 xL (kc IG kn) (λK =>
 (II K v 0)) (λhb=>?_)
 have sf:v.length<=9223372036854775807:=hb.1.1;exact oZ (Q:=λx=>uc x=uc (Z8 v)) (p:=Zt) (c:=λx=>!(Zt x)) 0 sf (λ_=>rfl) (λi h=>QIm _ v i h) (au (by simp[Z8]))
theorem IJ:Qf Tryz.prog xL:=Qi λx _=>QMl x.1
def ud(t:Bool):aB:=b7 (bE t)
def Yy:aI:=Qg 97 [(.c (.sl [TI]))] λx=>(none,ud (QK x.1))
def IK:aF:=⟨[ub,YQ],false⟩
def V3:af :=
 (ag [(ag [(.ae [ab 4 3,ab 5 0,a9 6 5,aw 7 .lss 4 6]),(.cond 7 .skip (.exit 0))]),(.block 1 (ag [(.ae [ab 10 0,ab 11 3,aZ 12 10 11 [TI],an 13 12 1,aD 14 183 [13],bL 15 14]),(.cond 15 (ag [(.ae [ab 2 (a0 false)]),.ret]) .skip)])),(.ae [ab 8 3,aw 9 .add 8 (ar 1),ab 3 9])])
def V4:List (Nat × Md):=eW [0,3]
def V5:af :=
 (ag [(.ae [ab 16 0,a9 17 16,aD 18 158 [17,(ar 1),(ar 6)],ab 2 18]),.ret])
def QXO:af :=
 (ag [(.ae [ab 2 (a0 false)]),(ag [(.ae [ab 3 (ar 0)]),(.block 0 (.loop V4 V3))]),V5])
def V6:List (bm × Md):=[(.t 2,.one .d)]
def V7:Qb:=TQ 0 0 V6 K
def QIZ:Qb:=aY (aN IK 0 V5 (V7 K)) (V7 K)
def QWz:Qb:=a6 0 (QIZ K)
def IL(v:List Int)(i:Int):Prop:=Loop IK 0 V4 V3 (QWz K) ⟨[(0,(bc [TI] v)),(3,(aL i))],[],0⟩
theorem QG1(v:List Int)(i:Int) (h :
 (aJ (decide (i<(v.length:Int))) ((0<=i/\Int.toNat i<v.length)/\(aJ (!(Zt (aq (0:Int) v (Int.toNat i)))) (K (ud false)) (IL K v (aG (i+1))))) (K (ud (bh (v.length:Int) (1:Int) (6:Int)))))):IL K v i :=
 Loop.of h
theorem QQu(v:List Int):aK Tryz.prog 97 [(.c (.sl [TI]) v)] (ud (QK v)):=by
 refine bw IK QXO V6 0 0 19 Yy (kc A3 (kc Jo kn)) (λK =>
 (IL K v 0)) (λhb=>?_)
 have sf:v.length<=9223372036854775807:=hb.1.1;exact oZ (Q:=λx=>ud x=ud (QK v)) (p:=Zt) (c:=λx=>!(Zt x)) 0 sf (λ_=>rfl) (λi h=>QG1 _ v i h) (au (by grind[QK,Z8]))
theorem YL:Qf Tryz.prog Yy:=Qi λx _=>QQu x.1
def IM(t:Bool):aB:=b7 (bE t)
def nQ:aI:=Qg 187 [(.c (.sl [TI]))] λx=>(none,IM (QK x.1))
def QU5:aF:=⟨[xL],false⟩
def QRS:af :=
 (ag [(.ae [ab 2 (a0 false)]),(.ae [ab 3 0,a9 4 3,aw 5 .geq 4 (ar 1),ab 6 5,.bt 6 true [ab 7 0,a9 8 7,aw 9 .leq 8 (ar 6)] 10 9,ab 11 10,.bt 11 true [ab 12 0,aD 13 238 [12]] 14 13,ab 2 14]),.ret])
def QHH:List (bm × Md):=[(.t 2,.one .d)]
theorem QWl(v:List Int):aK Tryz.prog 187 [(.c (.sl [TI]) v)] (IM (QK v)):=by
 refine bw QU5 QRS QHH 0 0 15 nQ (kc IJ kn) (λK =>
 K (IM (((decide ((v.length:Int)>=1))&&(decide ((v.length:Int)<=6)))&&(Z8 v)))) (λhb=>?_)
 exact au (by grind[QK,bh])
theorem si:Qf Tryz.prog nQ:=Qi λx _=>QWl x.1
def IP(t:Bool):aB:=b7 (bE t)
def Ju:aI:=Qg 100 [(.c (.sl [TI])),(.c TI)] λx=>(none,IP (QH x.1 x.2.1))
def QGg:aF:=⟨[nQ],false⟩
def QVW:af :=
 (ag [(.ae [ab 4 (a0 false)]),(.ae [ab 5 0,aD 6 187 [5],ab 7 6,.bt 7 true [ab 8 0,a9 9 8,ab 10 1,aw 11 .eql 9 10] 12 11,ab 4 12]),.ret])
def QX4:List (bm × Md):=[(.t 4,.one .d)]
theorem QWO(v:List Int)(n:Int):aK Tryz.prog 100 [(.c (.sl [TI]) v),(.c TI n)] (IP (QH v n)):=by
 refine bw QGg QVW QX4 0 0 13 Ju (kc si kn) (λK =>
 K (IP ((QK v)&&((v.length:Int)==n)))) (λhb=>?_)
 exact au (by simp[QH])
theorem JU:Qf Tryz.prog Ju:=Qi λx _=>QWO x.1 x.2.1
def IQ(t:Bool):aB:=b7 (bE t)
def IU:aI:=Qg 169 [(.c (.sl [TI])),(.c TI)] λx=>(none,IQ (Yn x.1 x.2.1))
def QOJ:aF:=⟨[Ju],false⟩
def QFA:af :=
 (ag [(.ae [ab 4 (a0 false)]),(.ae [ab 5 0,a9 6 5,aw 7 .eql 6 (ar 0),ab 8 7,.bt 8 false [ab 9 0,ab 10 1,aD 11 100 [9,10]] 12 11,ab 4 12]),.ret])
def QS3:List (bm × Md):=[(.t 4,.one .d)]
theorem QIS(v:List Int)(n:Int):aK Tryz.prog 169 [(.c (.sl [TI]) v),(.c TI n)] (IQ (Yn v n)):=by
 refine bw QOJ QFA QS3 0 0 13 IU (kc JU kn) (λK =>
 K (IQ (((v.length:Int)==0)||(QH v n)))) (λhb=>?_)
 exact au (by simp[Yn,QH])
theorem QLT:Qf Tryz.prog IU:=Qi λx _=>QIS x.1 x.2.1
def IV(t:Bool):aB:=b7 (bE t)
def IW:aI:=Qg 159 [(.c (.sl [TI])),(.c TI)] λx=>(none,IV (Yn x.1 x.2.1))
def QI1:aF:=⟨[Yy],false⟩
def QFc:af :=
 (ag [(.ae [ab 4 (a0 false)]),(.ae [ab 5 0,a9 6 5,aw 7 .eql 6 (ar 0),ab 8 7,.bt 8 false [ab 9 0,aD 10 97 [9],ab 11 10,.bt 11 true [ab 12 0,a9 13 12,ab 14 1,aw 15 .eql 13 14] 16 15] 17 16,ab 4 17]),.ret])
def QTg:List (bm × Md):=[(.t 4,.one .d)]
theorem QYr(v:List Int)(n:Int):aK Tryz.prog 159 [(.c (.sl [TI]) v),(.c TI n)] (IV (Yn v n)):=by
 refine bw QI1 QFc QTg 0 0 18 IW (kc YL kn) (λK =>
 K (IV (((v.length:Int)==0)||((QK v)&&((v.length:Int)==n))))) (λhb=>?_)
 exact au (by simp[Yn,QH])
theorem QOk:Qf Tryz.prog IW:=Qi λx _=>QYr x.1 x.2.1
def nR(t:Int):aB:=b7 (aL t)
def IX:aI:=Qg 253 [(.a aM)] λx=>(none,nR (YG x.1))
def IY:aF:=⟨[YQ],false⟩
def V8:af :=
 (.cond 15 (ag [(.ae [ak 18 1 1,an 19 18 1,ak 20 1 2,an 21 20 1,aw 22 .mul 19 21,ab 2 22]),.ret]) (ag [(.ae [aw 24 .eql 14 (ar 2),ab 23 24]),(.cond 23 (ag [(.ae [ak 25 1 1,an 26 25 1,ab 2 26]),.ret]) (ag [(.ae [aw 28 .eql 14 (ar 4),ab 27 28]),(.cond 27 (ag [(.ae [ab 2 (ar 1)]),.ret]) .skip)]))]))
def QVi:List (Nat × Md):=[(1,.b (dH 4)),(14,.one .d),(15,.one .d)]
def QSK:af:=.wk QVi V8
def V9:af :=
 (ag [(.ae [ab 2 (ar 0)]),.ret])
def QUN:af :=
 (ag [(.ae [aC 1 (.box 134 0 4),ab 2 (ar 0)]),(ag [(.ae [ak 3 1 1,an 4 3 1,aD 5 158 [4,(ar 1),(ar 6)],bL 6 5,ab 7 6,.bt 7 false [ak 8 1 2,an 9 8 1,aD 10 158 [9,(ar 1),(ar 6)],bL 11 10] 12 11]),(.cond 12 (ag [(.ae [ab 2 (ar 0)]),.ret]) .skip)]),(ag [(.ae [ak 13 1 0,an 14 13 1]),(.block 0 (ag [(ag [(.ae [aw 16 .eql 14 (ar 1),ab 15 16]),(.cond 15 .skip (.ae [aw 17 .eql 14 (ar 5),ab 15 17]))]),QSK]))]),V9])
def Wa:List (bm × Md):=[(.t 2,.one .d)]
def Wb:Qb:=TQ 0 0 Wa K
def QLP:Qb:=aY (aN IY 0 V9 (Wb K)) (Wb K)
def QTe:Qb:=a6 0 (QLP K)
@[irreducible] def IZ(o:aH)(x:Bool):Prop:=aN IY 0 V8 (QTe K) ⟨[(1,(.p 0 0 0)),(14,(aL o.1)),(15,(bE x))],[(0,(.box (aR.cells aM o)))],1⟩
theorem Wc(o:aH)(x:Bool) (h :
 (aJ x (K (nR (aG (o.2.1*o.2.2.1)))) (aJ (o.1==2) (K (nR o.2.1)) (aJ (o.1==4) (K (nR (1:Int))) (K (nR (0:Int))))))):du (IZ K o x) :=
 du.of h
theorem QW6(o:aH):aK Tryz.prog 253 [(.a (aR.cells aM o))] (nR (YG o)):=by
 refine bw IY QUN Wa 0 0 29 IX (kc Jo kn) (λK =>
 (aJ ((!(bh o.2.1 (1:Int) (6:Int)))||(!(bh o.2.2.1 (1:Int) (6:Int)))) (K (nR (0:Int))) (aJ (o.1==1) (IZ K o (o.1==1)) (IZ K o (o.1==5))))) (λhb=>?_)
 refine⟨λh=>au (by grind[YG]),λh=>?_⟩;have hi:bh o.2.1 1 6=true/\bh o.2.2.1 1 6=true:=by simpa using h
 have hm:=rA (Zb.1 hi.1).1 (Zb.1 hi.1).2 (Zb.1 hi.2).1 (Zb.1 hi.2).2;have hw:=QG (x:=o.2.1*o.2.2.1) (by omega) (by omega);refine⟨λh1=>(Wc (λr'=>r'=nR (YG o)) o _ ?_).h,λh1=>(Wc (λr'=>r'=nR (YG o)) o _ ?_).h⟩ <;> grind[YG]
theorem QYW:Qf Tryz.prog IX:=Qi λx _=>QW6 x.1
def nS(t:Int):aB:=b7 (aL t)
def I0:aI:=Qg 257 [(.a aM)] λx=>(none,nS (YG x.1))
def I1:aF:=⟨[],false⟩
def Wd:af :=
 (.cond 23 (ag [(.ae [ak 26 1 1,an 27 26 1,ak 28 1 2,an 29 28 1,aw 30 .mul 27 29,ab 2 30]),.ret]) (ag [(.ae [aw 32 .eql 22 (ar 2),ab 31 32]),(.cond 31 (ag [(.ae [ak 33 1 1,an 34 33 1,ab 2 34]),.ret]) (ag [(.ae [aw 36 .eql 22 (ar 4),ab 35 36]),(.cond 35 (ag [(.ae [ab 2 (ar 1)]),.ret]) .skip)]))]))
def QNe:List (Nat × Md):=[(1,.b (dH 4)),(22,.one .d),(23,.one .d)]
def QIn:af:=.wk QNe Wd
def We:af :=
 (ag [(.ae [ab 2 (ar 0)]),.ret])
def QGf:af :=
 (ag [(.ae [aC 1 (.box 134 0 4),ab 2 (ar 0)]),(ag [(.ae [ak 3 1 1,an 4 3 1,aw 5 .lss 4 (ar 1),ab 6 5,.bt 6 false [ak 7 1 1,an 8 7 1,aw 9 .gtr 8 (ar 6)] 10 9,ab 11 10,.bt 11 false [ak 12 1 2,an 13 12 1,aw 14 .lss 13 (ar 1)] 15 14,ab 16 15,.bt 16 false [ak 17 1 2,an 18 17 1,aw 19 .gtr 18 (ar 6)] 20 19]),(.cond 20 (ag [(.ae [ab 2 (ar 0)]),.ret]) .skip)]),(ag [(.ae [ak 21 1 0,an 22 21 1]),(.block 0 (ag [(ag [(.ae [aw 24 .eql 22 (ar 1),ab 23 24]),(.cond 23 .skip (.ae [aw 25 .eql 22 (ar 5),ab 23 25]))]),QIn]))]),We])
def Wf:List (bm × Md):=[(.t 2,.one .d)]
def Wg:Qb:=TQ 0 0 Wf K
def QOx:Qb:=aY (aN I1 0 We (Wg K)) (Wg K)
def QXP:Qb:=a6 0 (QOx K)
@[irreducible] def I2(o:aH)(x:Bool):Prop:=aN I1 0 Wd (QXP K) ⟨[(1,(.p 0 0 0)),(22,(aL o.1)),(23,(bE x))],[(0,(.box (aR.cells aM o)))],1⟩
theorem Wh(o:aH)(x:Bool) (h :
 (aJ x (K (nS (aG (o.2.1*o.2.2.1)))) (aJ (o.1==2) (K (nS o.2.1)) (aJ (o.1==4) (K (nS (1:Int))) (K (nS (0:Int))))))):du (I2 K o x) :=
 du.of h
theorem QLG(o:aH):aK Tryz.prog 257 [(.a (aR.cells aM o))] (nS (YG o)):=by
 refine bw I1 QGf Wf 0 0 37 I0 kn (λK =>
 (aJ ((((decide (o.2.1<1))||(decide (o.2.1>6)))||(decide (o.2.2.1<1)))||(decide (o.2.2.1>6))) (K (nS (0:Int))) (aJ (o.1==1) (I2 K o (o.1==1)) (I2 K o (o.1==5))))) (λhb=>?_)
 refine⟨λh=>au (by grind[YG,bh]),λh=>?_⟩;have hi:bh o.2.1 1 6=true/\bh o.2.2.1 1 6=true:=by grind[bh]
 have hm:=rA (Zb.1 hi.1).1 (Zb.1 hi.1).2 (Zb.1 hi.2).1 (Zb.1 hi.2).2;have hw:=QG (x:=o.2.1*o.2.2.1) (by omega) (by omega);refine⟨λh1=>(Wh (λr'=>r'=nS (YG o)) o _ ?_).h,λh1=>(Wh (λr'=>r'=nS (YG o)) o _ ?_).h⟩ <;> grind[YG]
theorem QFf:Qf Tryz.prog I0:=Qi λx _=>QLG x.1
def pd(t:Bool):aB:=b7 (bE t)
def xM:aI:=Qg 222 [(.a aM)] λx=>(none,pd (Zh x.1))
def I3:aF:=⟨[YQ,IX,ub],false⟩
def Wi:af :=
 (ag [(ag [(.ae [ab 40 3,ak 41 1 3,an 42 41 1,a9 43 42,aw 44 .lss 40 43]),(.cond 44 .skip (.exit 0))]),(.block 1 (ag [(.ae [ak 47 1 3,an 48 47 1,ab 49 3,aZ 50 48 49 [TI],an 51 50 1,aD 52 183 [51],bL 53 52]),(.cond 53 (ag [(.ae [ab 2 (a0 false)]),.ret]) .skip)])),(.ae [ab 45 3,aw 46 .add 45 (ar 1),ab 3 46])])
def Wj:List (Nat × Md):=[(1,.b (dH 4)),(3,.one .d)]
def Wk:af :=
 (ag [(.ae [ab 2 (a0 true)]),.ret])
def QFk:af :=
 (ag [(.ae [aC 1 (.box 134 0 4),ab 2 (a0 false)]),(ag [(.draw [ak 4 1 0,an 5 4 1,aD 6 158 [5,(ar 1),(ar 5)],bL 7 6,ab 8 7,.bt 8 false [ak 9 1 1,an 10 9 1,aD 11 158 [10,(ar 1),(ar 6)],bL 12 11] 13 12,ab 14 13,.bt 14 false [ak 15 1 2,an 16 15 1,aD 17 158 [16,(ar 1),(ar 6)],bL 18 17] 19 18,ab 20 19,.bt 20 false [ak 21 1 0,an 22 21 1,aw 23 .neq 22 (ar 1),ab 24 23,.bt 24 true [ak 25 1 1,an 26 25 1,ak 27 1 2,an 28 27 1,aw 29 .neq 26 28] 30 29] 31 30,ab 32 31,.bt 32 false [ak 33 1 3,an 34 33 1,a9 35 34,a7 36 1 4,aD 37 253 [36],aw 38 .neq 35 37] 39 38] [(29,33),(30,33),(31,33)]),(.cond 39 (ag [(.ae [ab 2 (a0 false)]),.ret]) .skip)]),(ag [(.ae [ab 3 (ar 0)]),(.block 0 (.loop Wj Wi))]),Wk])
def Wl:List (bm × Md):=[(.t 2,.one .d)]
def Wm:Qb:=TQ 0 0 Wl K
def QWh:Qb:=aY (aN I3 0 Wk (Wm K)) (Wm K)
def QNn:Qb:=a6 0 (QWh K)
def I4(o:aH)(i:Int):Prop:=Loop I3 0 Wj Wi (QNn K) ⟨[(1,(.p 0 0 0)),(3,(aL i))],[(0,(.box (aR.cells aM o)))],1⟩
theorem QRk(o:aH)(i:Int) (h :
 (aJ (decide (i<((o.2.2.2).length:Int))) ((0<=i/\Int.toNat i<(o.2.2.2).length)/\(aJ (!(Zt (aq (0:Int) o.2.2.2 (Int.toNat i)))) (K (pd false)) (I4 K o (aG (i+1))))) (K (pd true)))):I4 K o i :=
 Loop.of h
theorem QQr(o:aH):aK Tryz.prog 222 [(.a (aR.cells aM o))] (pd (Zh o)):=by
 refine bw I3 QFk Wl 0 0 54 xM (kc Jo (kc QYW (kc A3 kn))) (λK =>
 (aJ (((((!(bh o.1 (1:Int) (5:Int)))||(!(bh o.2.1 (1:Int) (6:Int))))||(!(bh o.2.2.1 (1:Int) (6:Int))))||((o.1 != 1)&&(o.2.1 != o.2.2.1)))||(((o.2.2.2).length:Int) != (YG o))) (K (pd false)) (I4 K o 0))) (λhb=>?_)
 have sj:(o.2.2.2).length<=9223372036854775807:=hb.1.2.2.2.1.1;refine⟨λh=>au (by grind[Zh]),λh=>?_⟩;exact oZ (Q:=λx=>pd x=pd (Zh o)) (p:=Zt) (c:=λx=>!(Zt x)) 0 sj (λ_=>rfl) (λi h=>QRk (λr'=>r'=pd (Zh o)) o i h) (au (by grind[Zh,Z8]))
theorem I5:Qf Tryz.prog xM:=Qi λx _=>QQr x.1
def xN(t:Bool):aB:=b7 (bE t)
def xO:aI:=Qg 228 [(.a aM)] λx=>(none,xN (Zh x.1))
def QOf:aF:=⟨[I0,xL],false⟩
def QWe:af :=
 (ag [(.ae [aC 1 (.box 134 0 4),ab 2 (a0 false)]),(ag [(.ae [ak 3 1 0,an 4 3 1,aw 5 .lss 4 (ar 1),ab 6 5,.bt 6 false [ak 7 1 0,an 8 7 1,aw 9 .gtr 8 (ar 5)] 10 9,ab 11 10,.bt 11 false [ak 12 1 1,an 13 12 1,aw 14 .lss 13 (ar 1)] 15 14,ab 16 15,.bt 16 false [ak 17 1 1,an 18 17 1,aw 19 .gtr 18 (ar 6)] 20 19,ab 21 20,.bt 21 false [ak 22 1 2,an 23 22 1,aw 24 .lss 23 (ar 1)] 25 24,ab 26 25,.bt 26 false [ak 27 1 2,an 28 27 1,aw 29 .gtr 28 (ar 6)] 30 29]),(.cond 30 (ag [(.ae [ab 2 (a0 false)]),.ret]) .skip)]),(ag [(.ae [ak 31 1 0,an 32 31 1,aw 33 .neq 32 (ar 1),ab 34 33,.bt 34 true [ak 35 1 1,an 36 35 1,ak 37 1 2,an 38 37 1,aw 39 .neq 36 38] 40 39]),(.cond 40 (ag [(.ae [ab 2 (a0 false)]),.ret]) .skip)]),(.draw [ak 41 1 3,an 42 41 1,a9 43 42,a7 44 1 4,aD 45 257 [44],aw 46 .eql 43 45,ab 47 46,.bt 47 true [ak 48 1 3,an 49 48 1,aD 50 238 [49]] 51 50,ab 2 51] [(0,4),(1,4),(2,4)]),.ret])
def QSc:List (bm × Md):=[(.t 2,.one .d)]
theorem QFT(o:aH):aK Tryz.prog 228 [(.a (aR.cells aM o))] (xN (Zh o)):=by
 refine bw QOf QWe QSc 0 0 52 xO (kc QFf (kc IJ kn)) (λK =>
 (aJ ((((((decide (o.1<1))||(decide (o.1>5)))||(decide (o.2.1<1)))||(decide (o.2.1>6)))||(decide (o.2.2.1<1)))||(decide (o.2.2.1>6))) (K (xN false)) (aJ ((o.1 != 1)&&(o.2.1 != o.2.2.1)) (K (xN false)) (K (xN ((((o.2.2.2).length:Int)==(YG o))&&(Z8 o.2.2.2))))))) (λhb=>?_)
 grind[Zh,bh]
theorem I6:Qf Tryz.prog xO:=Qi λx _=>QFT x.1
def xP(t:Bool):aB:=b7 (bE t)
def I7:aI:=Qg 157 [(.a [(.sl aM)])] λx=>(none,xP (Zc x.1))
def I8:aF:=⟨[xM,YQ],false⟩
def Wn:af :=
 (ag [(ag [(.ae [ab 4 3,ak 5 1 0,an 6 5 1,a9 7 6,aw 8 .lss 4 7]),(.cond 8 .skip (.exit 0))]),(.block 1 (ag [(.draw [ak 11 1 0,an 12 11 1,ab 13 3,aZ 14 12 13 aM,a7 15 14 4,aD 16 222 [15],bL 17 16,ab 18 17,.bt 18 false [ab 19 3,aw 20 .gtr 19 (ar 0),ab 21 20,.bt 21 true [ak 22 1 0,an 23 22 1,ab 24 3,aZ 25 23 24 aM,ak 26 25 1,an 27 26 1,ak 28 1 0,an 29 28 1,ab 30 3,aw 31 .sub 30 (ar 1),aZ 32 29 31 aM,ak 33 32 2,an 34 33 1,aw 35 .neq 27 34] 36 35] 37 36] []),(.cond 37 (ag [(.ae [ab 2 (a0 false)]),.ret]) .skip)])),(.ae [ab 9 3,aw 10 .add 9 (ar 1),ab 3 10])])
def Wo:List (Nat × Md):=[(1,.b [.d]),(3,.one .d)]
def Wp:af :=
 (ag [(.ae [ak 38 1 0,an 39 38 1,a9 40 39,aD 41 158 [40,(ar 1),(ar 8)],ab 2 41]),.ret])
def QYu:af :=
 (ag [(.ae [aC 1 (.box 77 0 1),ab 2 (a0 false)]),(ag [(.ae [ab 3 (ar 0)]),(.block 0 (.loop Wo Wn))]),Wp])
def Wq:List (bm × Md):=[(.t 2,.one .d)]
def Wr:Qb:=TQ 0 0 Wq K
def QOt:Qb:=aY (aN I8 0 Wp (Wr K)) (Wr K)
def QTd:Qb:=a6 0 (QOt K)
def A4(m:List aH)(i:Int):Prop:=Loop I8 0 Wo Wn (QTd K) ⟨[(1,(.p 0 0 0)),(3,(aL i))],[(0,(.box [(bc aM m)]))],1⟩
theorem Ws(m:List aH)(i:Int) (h :
 (aJ (decide (i<(m.length:Int))) (((0<=i/\Int.toNat i<m.length)/\((!(!(Zh (aq b6 m (Int.toNat i)))))=true->((decide (i>0))=true->((0<=i/\Int.toNat i<m.length)/\(0<=aG (i-1)/\Int.toNat (aG (i-1))<m.length)))))/\(aJ ((!(Zh (aq b6 m (Int.toNat i))))||((decide (i>0))&&(((aq b6 m (Int.toNat i)).2.1) != ((aq b6 m (Int.toNat (aG (i-1)))).2.2.1)))) (K (xP false)) (A4 K m (aG (i+1))))) (K (xP (bh (m.length:Int) (1:Int) (8:Int)))))):A4 K m i :=
 Loop.of h
theorem QLa(m:List aH):aK Tryz.prog 157 [(.a [(.c (.sl aM) m)])] (xP (Zc m)):=by
 refine bw I8 QYu Wq 0 0 42 I7 (kc I5 (kc Jo kn)) (λK =>
 (A4 K m 0)) (λhb=>?_)
 have l7:(m).length<=9223372036854775807:=hb.1.1.1;refine Za m (λr k=>YJ (JV m k) r=YJ none m->A4 (λr'=>r'=xP (Zc m)) m k) ?_ ?_ rfl
 ·intro he;refine Ws _ _ _ ⟨λh=>by simp at h,λ_=>?_⟩;grind[YJ,Zc]
 ·intro k x r hk aU hg ih he;refine Ws _ _ _ ⟨λ_=>?_,λh=>by simp at h;omega⟩;rw[Int.toNat_natCast,hg,QG (x:=(k:Int)+1) (by omega) (by omega)];have ep:JV m (k+1)=some x.2.2.1:=by simp[JV,hg]
  rw[ep]at ih
  rcases Nat.eq_zero_or_pos k with h0 | h0
  ·subst h0;simp only[YJ,JV,if_true]at he;grind[Zc]
  ·have e2:=rB h0 (by omega:k<=9223372036854775807);simp only[YJ,JV,if_neg (Nat.ne_of_gt h0)]at he;grind[Zc]
theorem QRP:Qf Tryz.prog I7:=Qi λx _=>QLa x.1
def ue(t:Bool):aB:=b7 (bE t)
def uf:aI:=Qg 167 [(.a [(.sl aM)])] λx=>(none,ue (Zc x.1))
def I9:aF:=⟨[xO],false⟩
def Wt:af :=
 (ag [(.ae [aw 19 .lss 18 17]),(.cond 19 .skip (.exit 0)),(.block 1 (ag [(.ae [ab 20 18,aZ 21 16 18 aM,a7 22 21 4,aC 4 (.new 134 (bG aM)),ab 3 20,aT 4 22 4]),(.draw [a7 23 4 4,aD 24 228 [23],bL 25 24,ab 26 25,.bt 26 false [ab 27 3,aw 28 .gtr 27 (ar 0),ab 29 28,.bt 29 true [ak 30 1 0,an 31 30 1,ab 32 3,aw 33 .sub 32 (ar 1),aZ 34 31 33 aM,ak 35 34 2,an 36 35 1,ak 37 4 1,an 38 37 1,aw 39 .neq 36 38] 40 39] 41 40] []),(.cond 41 (ag [(.ae [ab 2 (a0 false)]),.ret]) .skip)])),(.ae [aw 42 .add 18 (ar 1),ab 18 42])])
def Wu:List (Nat × Md):=[(1,.b [.d]),(16,.one .d),(17,.one .d),(18,.one .d)]
def Wv:af :=
 (ag [(.ae [ab 2 (a0 true)]),.ret])
def QIo:af :=
 (ag [(.ae [aC 1 (.box 77 0 1),ab 2 (a0 false)]),(ag [(.ae [ak 5 1 0,an 6 5 1,a9 7 6,aw 8 .lss 7 (ar 1),ab 9 8,.bt 9 false [ak 10 1 0,an 11 10 1,a9 12 11,aw 13 .gtr 12 (ar 8)] 14 13]),(.cond 14 (ag [(.ae [ab 2 (a0 false)]),.ret]) .skip)]),(ag [(.ae [ak 15 1 0,an 16 15 1,a9 17 16,ab 18 (ar 0)]),(.block 0 (.loop Wu Wt))]),Wv])
def Ww:List (bm × Md):=[(.t 2,.one .d)]
def Wx:Qb:=TQ 0 0 Ww K
def QGp:Qb:=aY (aN I9 0 Wv (Wx K)) (Wx K)
def QTV:Qb:=a6 0 (QGp K)
def A5(m:List aH)(x:Int):Prop:=Loop I9 0 Wu Wt (QTV K) ⟨[(1,(.p 0 0 0)),(16,(bc aM m)),(17,(aL (m.length:Int))),(18,(aL x))],[(0,(.box [(bc aM m)]))],1⟩
theorem Wy(m:List aH)(x:Int) (h :
 (aJ (decide (x<(m.length:Int))) ((0<=x/\Int.toNat x<m.length)/\(((!(!(Zh (aq b6 m (Int.toNat x)))))=true->((decide (x>0))=true->(0<=aG (x-1)/\Int.toNat (aG (x-1))<m.length)))/\(aJ ((!(Zh (aq b6 m (Int.toNat x))))||((decide (x>0))&&(((aq b6 m (Int.toNat (aG (x-1)))).2.2.1) != ((aq b6 m (Int.toNat x)).2.1)))) (K (ue false)) (A5 K m (aG (x+1)))))) (K (ue true)))):A5 K m x :=
 Loop.of h
theorem QFa(m:List aH):aK Tryz.prog 167 [(.a [(.c (.sl aM) m)])] (ue (Zc m)):=by
 refine bw I9 QIo Ww 0 0 43 uf (kc I6 kn) (λK =>
 (aJ ((decide ((m.length:Int)<1))||(decide ((m.length:Int)>8))) (K (ue false)) (A5 K m 0))) (λhb=>?_)
 have l7:(m).length<=9223372036854775807:=hb.1.1.1;refine⟨λh=>au (by grind[Zc,bh]),λh=>?_⟩;have fe:bh m.length 1 8=true:=by grind[bh]
 refine Za m (λr k=>YJ (JV m k) r=YJ none m->A5 (λr'=>r'=ue (Zc m)) m k) ?_ ?_ rfl
 ·intro he;refine Wy _ _ _ ⟨λh=>by simp at h,λ_=>?_⟩;grind[YJ,Zc]
 ·intro k x r hk aU hg ih he;refine Wy _ _ _ ⟨λ_=>?_,λh=>by simp at h;omega⟩;rw[Int.toNat_natCast,hg,QG (x:=(k:Int)+1) (by omega) (by omega)];have ep:JV m (k+1)=some x.2.2.1:=by simp[JV,hg]
  rw[ep]at ih
  rcases Nat.eq_zero_or_pos k with h0 | h0
  ·subst h0;simp only[YJ,JV,if_true]at he;grind[Zc]
  ·have e2:=rB h0 (by omega:k<=9223372036854775807);simp only[YJ,JV,if_neg (Nat.ne_of_gt h0)]at he;grind[Zc]
theorem A6:Qf Tryz.prog uf:=Qi λx _=>QFa x.1
def A7(t:Int):aB:=b7 (aL t)
def xQ:aI:=Qg 101 [(.a [(.sl aM)])] λx=>(none,A7 (ZM x.1))
def QGy:aF:=⟨[uf],false⟩
def QFF:af :=
 (ag [(.ae [aC 1 (.box 77 0 1),ab 2 (ar 0)]),(ag [(.ae [a7 3 1 1,aD 4 167 [3],bL 5 4]),(.cond 5 (ag [(.ae [ab 2 (ar 0)]),.ret]) .skip)]),(.ae [ak 6 1 0,an 7 6 1,aZ 8 7 (ar 0) aM,ak 9 8 1,an 10 9 1,ab 2 10]),.ret])
def QQe:List (bm × Md):=[(.t 2,.one .d)]
theorem QWH(m:List aH):aK Tryz.prog 101 [(.a [(.c (.sl aM) m)])] (A7 (ZM m)):=by
 refine bw QGy QFF QQe 0 0 11 xQ (kc A6 kn) (λK =>
 (aJ (!(Zc m)) (K (A7 (0:Int))) (((0:Int)<=0/\Int.toNat 0<m.length)/\K (A7 ((aq b6 m (Int.toNat 0)).2.1))))) (λhb=>?_)
 refine⟨λh=>au (by grind[ZM]),λh=>?_⟩;have:=Yv (m:=m) (by simpa using h);exact⟨⟨by omega,by simp;omega⟩,au (by simp at h;simp[ZM,h])⟩
theorem Ka:Qf Tryz.prog xQ:=Qi λx _=>QWH x.1
def A8(t:Int):aB:=b7 (aL t)
def xR:aI:=Qg 102 [(.a [(.sl aM)])] λx=>(none,A8 (Zu x.1))
def QUg:aF:=⟨[uf],false⟩
def QTk:af :=
 (ag [(.ae [aC 1 (.box 77 0 1),ab 2 (ar 0)]),(ag [(.ae [a7 3 1 1,aD 4 167 [3],bL 5 4]),(.cond 5 (ag [(.ae [ab 2 (ar 0)]),.ret]) .skip)]),(.ae [ak 6 1 0,an 7 6 1,ak 8 1 0,an 9 8 1,a9 10 9,aw 11 .sub 10 (ar 1),aZ 12 7 11 aM,ak 13 12 2,an 14 13 1,ab 2 14]),.ret])
def QWU:List (bm × Md):=[(.t 2,.one .d)]
theorem QUO(m:List aH):aK Tryz.prog 102 [(.a [(.c (.sl aM) m)])] (A8 (Zu m)):=by
 refine bw QUg QTk QWU 0 0 15 xR (kc A6 kn) (λK =>
 (aJ (!(Zc m)) (K (A8 (0:Int))) ((0<=aG ((m.length:Int)-1)/\Int.toNat (aG ((m.length:Int)-1))<m.length)/\K (A8 ((aq b6 m (Int.toNat (aG ((m.length:Int)-1)))).2.2.1))))) (λhb=>?_)
 refine⟨λh=>au (by grind[Zu]),λh=>?_⟩;have:=Yv (m:=m) (by simpa using h);have e:=rB this.1 (by omega:m.length<=9223372036854775807);rw[e.1];exact⟨⟨e.2,by omega⟩,au (by simp at h;simp[Zu,h])⟩
theorem Kb:Qf Tryz.prog xR:=Qi λx _=>QUO x.1
def Kc(t:Int):aB:=b7 (aL t)
def sk:aI:=Qg 190 [(.c TI)] λx=>(none,Kc (QS x.1))
def QO1:aF:=⟨[],false⟩
def QUz:af :=
 (ag [(.ae [ab 2 (ar 0)]),(.ae [ab 3 0,aC 4 (.mm true 3 (ar (-2147483647))),aC 5 (.mm false 4 (ar 2147483647)),ab 2 5]),.ret])
def QIM:List (bm × Md):=[(.t 2,.one .d)]
theorem QLo(x:Int):aK Tryz.prog 190 [(.c TI x)] (Kc (QS x)):=by
 refine bw QO1 QUz QIM 0 0 6 sk kn (λK =>
 K (Kc (if(2147483647:Int)<(if x<(-2147483647:Int) then(-2147483647:Int) else x) then(2147483647:Int) else(if x<(-2147483647:Int) then(-2147483647:Int) else x)))) (λhb=>?_)
 exact au (QP8 x)
theorem xS:Qf Tryz.prog sk:=Qi λx _=>QLo x.1
def Kd(t:Int × Bool):aB:=b7 (.tp [(aL t.1),(bE t.2)])
def xT:aI:=Qg 189 [(.c TI)] λx=>(none,Kd (ZX x.1))
def QSz:aF:=⟨[sk,xK],false⟩
def QMA:af :=
 (ag [(.ae [ab 2 (ar 0),ab 3 (a0 false)]),(.ae [ab 4 0,aD 5 190 [4],ab 6 0,aD 7 240 [6],bL 8 7,ab 2 5,ab 3 8]),.ret])
def QJ7:List (bm × Md):=[(.t 2,.one .d),(.t 3,.one .d)]
theorem QG3(x:Int):aK Tryz.prog 189 [(.c TI x)] (Kd (ZX x)):=by
 refine bw QSz QMA QJ7 0 0 9 xT (kc xS (kc IG kn)) (λK =>
 K (Kd ((QS x),(!(Zt x))))) (λhb=>?_)
 exact au rfl
theorem Ke:Qf Tryz.prog xT:=Qi λx _=>QG3 x.1
def xU(t:Int × Bool):aB:=b7 (.tp [(aL t.1),(bE t.2)])
def ug:aI:=Qg 185 [(.c TI)] λx=>(none,xU (ZX x.1))
def QJ4:aF:=⟨[],false⟩
def QNh:af :=
 (ag [(.ae [ab 2 (ar 0),ab 3 (a0 false)]),(ag [(.ae [ab 4 0,aw 5 .gtr 4 (ar 2147483647)]),(.cond 5 (ag [(.ae [ab 2 (ar 2147483647),ab 3 (a0 true)]),.ret]) .skip)]),(ag [(.ae [ab 6 0,aw 7 .lss 6 (ar (-2147483647))]),(.cond 7 (ag [(.ae [ab 2 (ar (-2147483647)),ab 3 (a0 true)]),.ret]) .skip)]),(.ae [ab 8 0,ab 2 8,ab 3 (a0 false)]),.ret])
def QTK:List (bm × Md):=[(.t 2,.one .d),(.t 3,.one .d)]
theorem QR8(x:Int):aK Tryz.prog 185 [(.c TI x)] (xU (ZX x)):=by
 refine bw QJ4 QNh QTK 0 0 9 ug kn (λK =>
 (aJ (decide (x>2147483647)) (K (xU ((2147483647:Int),true))) (aJ (decide (x<(-2147483647:Int))) (K (xU ((-2147483647:Int),true))) (K (xU (x,false)))))) (λhb=>?_)
 refine⟨λh=>au ?_,λh=>⟨λh2=>au ?_,λh2=>au ?_⟩⟩
 all_goals (simp at *;simp[ZX,QS,Zt,jR,jS];omega)
theorem A9:Qf Tryz.prog ug:=Qi λx _=>QR8 x.1
def Kf(t:Int):aB:=b7 (aL t)
def uh:aI:=Qg 186 [(.c TI)] λx=>(none,Kf (QS x.1))
def QFg:aF:=⟨[ug],false⟩
def QUC:af :=
 (ag [(.ae [ab 2 (ar 0)]),(.ae [ab 6 0,aD 7 185 [6],ab 5 7,bF 8 5 0,bF 9 5 1,ab 3 8,ab 4 9]),(.ae [ab 10 3,ab 2 10]),.ret])
def QIF:List (bm × Md):=[(.t 2,.one .d)]
theorem QFB(x:Int):aK Tryz.prog 186 [(.c TI x)] (Kf (QS x)):=by
 refine bw QFg QUC QIF 0 0 11 uh (kc A9 kn) (λK =>
 K (Kf ((ZX x).1))) (λhb=>?_)
 exact au rfl
theorem Ba:Qf Tryz.prog uh:=Qi λx _=>QFB x.1
def Bb(t:Int):aB:=b7 (aL t)
def Kg:aI:=Qg 263 [(.c TI),(.c TI)] λx=>(some (Gt x.1 x.2.1),Bb (Ax x.1 x.2.1))
def QTx:aF:=⟨[],false⟩
def QTw:af :=
 (ag [(.ae [ab 4 (ar 0)]),(.ae [ab 6 0,ab 7 1,aw 8 .quo 6 7,ab 5 8]),(ag [(.ae [ab 9 0,ab 10 1,aw 11 .rem 9 10,aw 12 .neq 11 (ar 0),ab 13 12,.bt 13 true [ab 14 0,aw 15 .lss 14 (ar 0),ab 16 1,aw 17 .lss 16 (ar 0),aC 18 (.ij true 15 17)] 19 18]),(.cond 19 (.ae [ab 20 5,aw 21 .sub 20 (ar 1),ab 5 21]) .skip)]),(.ae [ab 22 5,ab 4 22]),.ret])
def QNv:List (bm × Md):=[(.t 4,.one .d)]
theorem QTT(a:Int)(b:Int)(hp:Gt a b):aK Tryz.prog 263 [(.c TI a),(.c TI b)] (Bb (Ax a b)):=by
 refine bw QTx QTw QNv 0 0 23 Kg kn (λK =>
 ((¬ (b:Int)=0)/\((¬ (b:Int)=0)/\(aJ (((Int.tmod a b) != 0)&&(!((decide (a<0))==(decide (b<0))))) (K (Bb (aG ((aG (Int.tdiv a b))-1)))) (K (Bb (aG (Int.tdiv a b)))))))) (λhb=>?_)
 obtain⟨h1,h2,rfl⟩:=hp;have hq:aG (Int.tdiv a 65536)=Int.tdiv a 65536:=by
  rw[Int.tdiv_eq_ediv];have:Int.sign 65536=1:=rfl;rw[this];exact QG (by split <;> omega) (by split <;> omega)
 have iL:aG (Int.tdiv a 65536-1)=Int.tdiv a 65536-1:=by
  rw[Int.tdiv_eq_ediv];have:Int.sign 65536=1:=rfl;rw[this];exact QG (by split <;> omega) (by split <;> omega)
 have hf:=QV6 a;rw[hq,iL];refine⟨by omega,by omega,λh=>au ?_,λh=>au ?_⟩
 ·rw[if_pos h]at hf;exact hf
 ·rw[if_neg (by rw[h];simp)]at hf;exact hf
theorem QMc:Qf Tryz.prog Kg:=Qi λx h=>QTT x.1 x.2.1 h
def Kh(t:Int × Bool):aB:=b7 (.tp [(aL t.1),(bE t.2)])
def ui:aI:=Qg 106 [(.c TI),(.c TI)] λx=>(none,Kh (Q5 x.1 x.2.1))
def QJd:aF:=⟨[sk,xT],false⟩
def QPH:af :=
 (ag [(.ae [ab 4 (ar 0),ab 5 (a0 false)]),(.ae [ab 6 0,aD 7 190 [6],ab 8 1,aD 9 190 [8],aw 10 .add 7 9,aD 11 189 [10],bF 12 11 0,bF 13 11 1,ab 4 12,ab 5 13]),.ret])
def QIp:List (bm × Md):=[(.t 4,.one .d),(.t 5,.one .d)]
theorem QGr(a:Int)(b:Int):aK Tryz.prog 106 [(.c TI a),(.c TI b)] (Kh (Q5 a b)):=by
 refine bw QJd QPH QIp 0 0 14 ui (kc xS (kc Ke kn)) (λK =>
 K (Kh ((ZX (aG ((QS a)+(QS b)))).1,(ZX (aG ((QS a)+(QS b)))).2))) (λhb=>?_)
 have h1:=JA a;have h2:=JA b;rw[QG (x:=QS a+QS b) (by omega) (by omega)];exact au rfl
theorem Bc:Qf Tryz.prog ui:=Qi λx _=>QGr x.1 x.2.1
def Ki(t:Int × Bool):aB:=b7 (.tp [(aL t.1),(bE t.2)])
def sm:aI:=Qg 99 [(.c TI),(.c TI)] λx=>(none,Ki (Q5 x.1 x.2.1))
def QOp:aF:=⟨[uh,ug],false⟩
def QNg:af :=
 (ag [(.ae [ab 4 (ar 0),ab 5 (a0 false)]),(.ae [ab 6 0,aD 7 186 [6],ab 8 1,aD 9 186 [8],aw 10 .add 7 9,aD 11 185 [10],bF 12 11 0,bF 13 11 1,ab 4 12,ab 5 13]),.ret])
def QFb:List (bm × Md):=[(.t 4,.one .d),(.t 5,.one .d)]
theorem QF4(a:Int)(b:Int):aK Tryz.prog 99 [(.c TI a),(.c TI b)] (Ki (Q5 a b)):=by
 refine bw QOp QNg QFb 0 0 14 sm (kc Ba (kc A9 kn)) (λK =>
 K (Ki ((ZX (aG ((QS a)+(QS b)))).1,(ZX (aG ((QS a)+(QS b)))).2))) (λhb=>?_)
 have h1:=JA a;have h2:=JA b;rw[QG (x:=QS a+QS b) (by omega) (by omega)];exact au rfl
theorem xV:Qf Tryz.prog sm:=Qi λx _=>QF4 x.1 x.2.1
def Kj(t:Int × Bool):aB:=b7 (.tp [(aL t.1),(bE t.2)])
def Kk:aI:=Qg 196 [(.c TI),(.c TI)] λx=>(none,Kj (Y6 x.1 x.2.1))
def QMW:aF:=⟨[sk,xT],false⟩
def QQN:af :=
 (ag [(.ae [ab 4 (ar 0),ab 5 (a0 false)]),(.ae [ab 6 0,aD 7 190 [6],ab 8 1,aD 9 190 [8],aw 10 .sub 7 9,aD 11 189 [10],bF 12 11 0,bF 13 11 1,ab 4 12,ab 5 13]),.ret])
def QJl:List (bm × Md):=[(.t 4,.one .d),(.t 5,.one .d)]
theorem QUk(a:Int)(b:Int):aK Tryz.prog 196 [(.c TI a),(.c TI b)] (Kj (Y6 a b)):=by
 refine bw QMW QQN QJl 0 0 14 Kk (kc xS (kc Ke kn)) (λK =>
 K (Kj ((ZX (aG ((QS a)-(QS b)))).1,(ZX (aG ((QS a)-(QS b)))).2))) (λhb=>?_)
 have h1:=JA a;have h2:=JA b;rw[QG (x:=QS a-QS b) (by omega) (by omega)];exact au rfl
theorem QUi:Qf Tryz.prog Kk:=Qi λx _=>QUk x.1 x.2.1
def Kl(t:Int × Bool):aB:=b7 (.tp [(aL t.1),(bE t.2)])
def Km:aI:=Qg 192 [(.c TI),(.c TI)] λx=>(none,Kl (Y6 x.1 x.2.1))
def QSa:aF:=⟨[uh,ug],false⟩
def QI0:af :=
 (ag [(.ae [ab 4 (ar 0),ab 5 (a0 false)]),(.ae [ab 6 0,aD 7 186 [6],ab 8 1,aD 9 186 [8],aw 10 .sub 7 9,aD 11 185 [10],bF 12 11 0,bF 13 11 1,ab 4 12,ab 5 13]),.ret])
def QM1:List (bm × Md):=[(.t 4,.one .d),(.t 5,.one .d)]
theorem QNX(a:Int)(b:Int):aK Tryz.prog 192 [(.c TI a),(.c TI b)] (Kl (Y6 a b)):=by
 refine bw QSa QI0 QM1 0 0 14 Km (kc Ba (kc A9 kn)) (λK =>
 K (Kl ((ZX (aG ((QS a)-(QS b)))).1,(ZX (aG ((QS a)-(QS b)))).2))) (λhb=>?_)
 have h1:=JA a;have h2:=JA b;rw[QG (x:=QS a-QS b) (by omega) (by omega)];exact au rfl
theorem QJK:Qf Tryz.prog Km:=Qi λx _=>QNX x.1 x.2.1
def Kn(t:Int × Bool):aB:=b7 (.tp [(aL t.1),(bE t.2)])
def xW:aI:=Qg 239 [(.c TI),(.c TI)] λx=>(none,Kn (Q7 x.1 x.2.1))
def QFG:aF:=⟨[sk,xT],false⟩
def QIf:af :=
 (ag [(.ae [ab 4 (ar 0),ab 5 (a0 false)]),(.ae [ab 6 0,aD 7 190 [6],ab 8 1,aD 9 190 [8],aw 10 .mul 7 9,aw 11 .shr 10 (.k (.c (.int .u64) (16:Int))),aD 12 189 [11],bF 13 12 0,bF 14 12 1,ab 4 13,ab 5 14]),.ret])
def QV2:List (bm × Md):=[(.t 4,.one .d),(.t 5,.one .d)]
theorem QR1(a:Int)(b:Int):aK Tryz.prog 239 [(.c TI a),(.c TI b)] (Kn (Q7 a b)):=by
 refine bw QFG QIf QV2 0 0 15 xW (kc xS (kc Ke kn)) (λK =>
 (((0:Int)<=16)/\K (Kn ((ZX (Int.fdiv (aG ((QS a)*(QS b))) (2 ^ (min (Int.toNat 16) (IntKind.i64.bits))))).1,(ZX (Int.fdiv (aG ((QS a)*(QS b))) (2 ^ (min (Int.toNat 16) (IntKind.i64.bits))))).2)))) (λhb=>?_)
 have h:=Tr a b;rw[QG (x:=QS a*QS b) (by omega) (by omega)];exact⟨by omega,au rfl⟩
theorem Ko:Qf Tryz.prog xW:=Qi λx _=>QR1 x.1 x.2.1
def Kp(t:Int × Bool):aB:=b7 (.tp [(aL t.1),(bE t.2)])
def xX:aI:=Qg 237 [(.c TI),(.c TI)] λx=>(none,Kp (Q7 x.1 x.2.1))
def QRl:aF:=⟨[uh,Kg,ug],false⟩
def QXo:af :=
 (ag [(.ae [ab 4 (ar 0),ab 5 (a0 false)]),(.ae [ab 6 0,aD 7 186 [6],ab 8 1,aD 9 186 [8],aw 10 .mul 7 9,aD 11 263 [10,(ar 65536)],aD 12 185 [11],bF 13 12 0,bF 14 12 1,ab 4 13,ab 5 14]),.ret])
def QK1:List (bm × Md):=[(.t 4,.one .d),(.t 5,.one .d)]
theorem QXE(a:Int)(b:Int):aK Tryz.prog 237 [(.c TI a),(.c TI b)] (Kp (Q7 a b)):=by
 refine bw QRl QXo QK1 0 0 15 xX (kc Ba (kc QMc (kc A9 kn))) (λK =>
 ((Gt (aG ((QS a)*(QS b))) (65536:Int))/\K (Kp ((ZX (Ax (aG ((QS a)*(QS b))) (65536:Int))).1,(ZX (Ax (aG ((QS a)*(QS b))) (65536:Int))).2)))) (λhb=>?_)
 have h:=Tr a b;rw[QG (x:=QS a*QS b) (by omega) (by omega)];exact⟨⟨h.1,h.2,rfl⟩,au rfl⟩
theorem Kq:Qf Tryz.prog xX:=Qi λx _=>QXE x.1 x.2.1
def Kr(t:Int):aB:=b7 (aL t)
def Ks:aI:=Qg 259 [(.c TI)] λx=>(none,Kr (nH x.1))
def QTi:aF:=⟨[sk],false⟩
def QWS:af :=
 (ag [(.ae [ab 2 (ar 0)]),(.ae [ab 3 0,aD 4 190 [3],aC 5 (.mm true (ar 0) 4),ab 2 5]),.ret])
def QNb:List (bm × Md):=[(.t 2,.one .d)]
theorem QHt(a:Int):aK Tryz.prog 259 [(.c TI a)] (Kr (nH a)):=by
 refine bw QTi QWS QNb 0 0 6 Ks (kc xS kn) (λK =>
 K (Kr (if(0:Int)<(QS a) then(QS a) else(0:Int)))) (λhb=>?_)
 exact au rfl
theorem QG4:Qf Tryz.prog Ks:=Qi λx _=>QHt x.1
def Kt(t:Int):aB:=b7 (aL t)
def Ku:aI:=Qg 256 [(.c TI)] λx=>(none,Kt (nH x.1))
def QXz:aF:=⟨[uh],false⟩
def QL0:af :=
 (ag [(.ae [ab 2 (ar 0)]),(.ae [ab 3 0,aD 4 186 [3],aC 5 (.mm true (ar 0) 4),ab 2 5]),.ret])
def QOQ:List (bm × Md):=[(.t 2,.one .d)]
theorem QIT(a:Int):aK Tryz.prog 256 [(.c TI a)] (Kt (nH a)):=by
 refine bw QXz QL0 QOQ 0 0 6 Ku (kc Ba kn) (λK =>
 K (Kt (if(0:Int)<(QS a) then(QS a) else(0:Int)))) (λhb=>?_)
 exact au rfl
theorem QXH:Qf Tryz.prog Ku:=Qi λx _=>QIT x.1
def Kv(t:(List Int)):aB:=⟨(.r [TI] 0 0 t.length),[(.sl 3 [TI] (.dp 0 true []) t)],[],false,[]⟩
def JG:aI:=Qg 104 [(.c (.sl [TI]))] λx=>(some (Qs (α:=List Int) x.1),Kv (id (α:=List Int) x.1))
def QPJ:aF:=⟨[],true⟩
def QRK:af :=
 (ag [(.ae [ab 2 (.k (.n [TI]))]),(.ae [aC 3 (.bW 3 [TI] []),ab 4 0,aC 5 (.app 3 4 3 [TI]),ab 2 5]),.ret])
def QMI:List (bm × Md):=[(.t 2,.one (.p 3))]
theorem QN0(l:List Int)(hp:Qs (α:=List Int) l):aK Tryz.prog 104 [(.c (.sl [TI]) l)] (Kv (id (α:=List Int) l)):=by
 refine bw QPJ QRK QMI 0 0 6 JG kn (λK =>
 (((0=0\/0+l.length<=0)/\0+l.length<=cc)/\K (Kv (List.take (0+l.length) (l:List Int))))) (λhb=>?_)
 have hl:=ZD l;unfold Qs at hp;exact⟨⟨.inl rfl,by rw[Zf];omega⟩,au (by simp)⟩
theorem nT:Qf Tryz.prog JG:=Qi λx h=>QN0 x.1 h
def xY(t:(List aH)):aB:=⟨(.r aM 0 0 t.length),[(.sl 134 aM (.dp 0 true []) t)],[],false,[]⟩
def Kw:aI:=Qg 165 [(.c (.sl aM))] λx=>(some (Qs (α:=List aH) x.1),xY (id (α:=List aH) x.1))
def Kx:aF:=⟨[JG],true⟩
def Wz:af :=
 (ag [(.ae [aw 10 .lss 9 8]),(.cond 10 .skip (.exit 0)),(.block 1 (ag [(.ae [aZ 11 7 9 aM,a7 12 11 4,aC 5 (.new 134 (bG aM)),aT 5 12 4]),(.draw [ab 13 3,ak 14 5 0,an 15 14 1,ak 16 5 1,an 17 16 1,ak 18 5 2,an 19 18 1,ak 20 5 3,an 21 20 1,aD 22 104 [21],aC 23 (.build (bG aM) [(0,1,15),(1,1,17),(2,1,19),(3,1,22)]),aC 24 (.bW 134 aM [23]),aC 25 (.app 13 24 134 aM),ab 3 25] [(1,9),(2,9),(3,9),(4,9),(5,9),(6,9)])])),(.ae [aw 26 .add 9 (ar 1),ab 9 26])])
def WA:List (Nat × Md):=[(3,.one .f),(7,.one .d),(8,.one .d),(9,.one .d)]
def WB:af :=
 (ag [(.ae [ab 27 3,ab 2 27]),.ret])
def QPg:af :=
 (ag [(.ae [ab 2 (.k (.n aM))]),(.ae [aC 6 (.bW 134 aM []),ab 3 6]),(ag [(.ae [ab 7 0,a9 8 7,ab 9 (ar 0)]),(.block 0 (.loop WA Wz))]),WB])
def WC:List (bm × Md):=[(.t 2,.one (.p 134))]
def WD:Qb:=TQ 0 0 WC K
def QSo:Qb:=aY (aN Kx 0 WB (WD K)) (WD K)
def QSB:Qb:=a6 0 (QSo K)
def Ky(l:List aH)(x:Int)(ops:List aH):Prop:=Loop Kx 0 WA Wz (QSB K) ⟨[(3,(.r aM 0 0 ops.length)),(7,(bc aM l)),(8,(aL (l.length:Int))),(9,(aL x))],[(0,(.sl 134 aM (.dp 0 true []) ops))],1⟩
theorem WE(l:List aH)(x:Int)(ops:List aH) (h :
 (aJ (decide (x<(l.length:Int))) ((0<=x/\Int.toNat x<l.length)/\(((Qs (α:=List Int) ((aq b6 l (Int.toNat x)).2.2.2))/\((ops.length=ops.length\/ops.length+1<=ops.length)/\ops.length+1<=cc))/\(Ky K l (aG (x+1)) (List.take (ops.length+1) ((List.take ops.length ops)++([((aq b6 l (Int.toNat x)).1,(aq b6 l (Int.toNat x)).2.1,(aq b6 l (Int.toNat x)).2.2.1,(List.take ((id (α:=List Int) ((aq b6 l (Int.toNat x)).2.2.2)).length) (List.drop 0 (id (α:=List Int) ((aq b6 l (Int.toNat x)).2.2.2)))))])))))) (K (xY (List.take ops.length ops))))):Ky K l x ops :=
 Loop.of h
theorem QRW(l:List aH)(hp:Qs (α:=List aH) l):aK Tryz.prog 165 [(.c (.sl aM) l)] (xY (id (α:=List aH) l)):=by
 refine bw Kx QPg WC 0 0 28 Kw (kc nT kn) (λK =>
 (Ky K l 0 ([]:List aH))) (λhb=>?_)
 refine YE (Q:=λz=>xY z=xY (id (α:=List aH) l)) hp (λk x v hk hl hg hv hx ih=>?_) (λhq=>?_) (au rfl)
 ·refine WE _ _ _ _ ⟨λ_=>?_,λh=>by simp at h;omega⟩
  try simp only[QR,QL,QY]at hx
  rw[Int.toNat_natCast,hg,dM (by omega),Q9,rM];exact⟨⟨by omega,hk⟩,⟨(show Sz.sz (_:List Int)<=2147483648 by omega),room (by omega)⟩,ih⟩
 ·refine WE _ _ _ _ ⟨λh=>by simp at h,λ_=>?_⟩;exact au (by simp)
theorem QQ8:Qf Tryz.prog Kw:=Qi λx h=>QRW x.1 h
def xZ(t:(List (List Int))):aB:=⟨(.r [(.sl [TI])] 0 0 t.length),[(.sl 106 [(.sl [TI])] (.dp 0 true []) t)],[],false,[]⟩
def x4:aI:=Qg 103 [(.c (.sl [(.sl [TI])]))] λx=>(some (Qs (α:=List (List Int)) x.1),xZ (id (α:=List (List Int)) x.1))
def Kz:aF:=⟨[JG],true⟩
def WG:af :=
 (ag [(.ae [aw 10 .lss 9 8]),(.cond 10 .skip (.exit 0)),(.block 1 (ag [(.ae [aZ 11 7 9 [(.sl [TI])],a7 12 11 1,aC 5 (.new 106 [(.n [TI])]),aT 5 12 1]),(.ae [ab 13 3,ak 14 5 0,an 15 14 1,aD 16 104 [15],aC 17 (.build [(.n [TI])] [(0,1,16)]),aC 18 (.bW 106 [(.sl [TI])] [17]),aC 19 (.app 13 18 106 [(.sl [TI])]),ab 3 19])])),(.ae [aw 20 .add 9 (ar 1),ab 9 20])])
def WH:List (Nat × Md):=[(3,.one .f),(7,.one .d),(8,.one .d),(9,.one .d)]
def WI:af :=
 (ag [(.ae [ab 21 3,ab 2 21]),.ret])
def QH6:af :=
 (ag [(.ae [ab 2 (.k (.n [(.sl [TI])]))]),(.ae [aC 6 (.bW 106 [(.sl [TI])] []),ab 3 6]),(ag [(.ae [ab 7 0,a9 8 7,ab 9 (ar 0)]),(.block 0 (.loop WH WG))]),WI])
def WJ:List (bm × Md):=[(.t 2,.one (.p 106))]
def WK:Qb:=TQ 0 0 WJ K
def QLe:Qb:=aY (aN Kz 0 WI (WK K)) (WK K)
def QOF:Qb:=a6 0 (QLe K)
def KA(l:List (List Int))(x:Int)(rows:List (List Int)):Prop:=Loop Kz 0 WH WG (QOF K) ⟨[(3,(.r [(.sl [TI])] 0 0 rows.length)),(7,(bc [(.sl [TI])] l)),(8,(aL (l.length:Int))),(9,(aL x))],[(0,(.sl 106 [(.sl [TI])] (.dp 0 true []) rows))],1⟩
theorem WL(l:List (List Int))(x:Int)(rows:List (List Int)) (h :
 (aJ (decide (x<(l.length:Int))) ((0<=x/\Int.toNat x<l.length)/\(((Qs (α:=List Int) (aq ([]:List Int) l (Int.toNat x)))/\((rows.length=rows.length\/rows.length+1<=rows.length)/\rows.length+1<=cc))/\(KA K l (aG (x+1)) (List.take (rows.length+1) ((List.take rows.length rows)++([(List.take ((id (α:=List Int) (aq ([]:List Int) l (Int.toNat x))).length) (List.drop 0 (id (α:=List Int) (aq ([]:List Int) l (Int.toNat x)))))])))))) (K (xZ (List.take rows.length rows))))):KA K l x rows :=
 Loop.of h
theorem QJZ(l:List (List Int))(hp:Qs (α:=List (List Int)) l):aK Tryz.prog 103 [(.c (.sl [(.sl [TI])]) l)] (xZ (id (α:=List (List Int)) l)):=by
 refine bw Kz QH6 WJ 0 0 22 x4 (kc nT kn) (λK =>
 (KA K l 0 ([]:List (List Int)))) (λhb=>?_)
 refine YE (Q:=λz=>xZ z=xZ (id (α:=List (List Int)) l)) hp (λk x v hk hl hg hv hx ih=>?_) (λhq=>?_) (au rfl)
 ·refine WL _ _ _ _ ⟨λ_=>?_,λh=>by simp at h;omega⟩
  try simp only[QR,QL,QY]at hx
  rw[Int.toNat_natCast,hg,dM (by omega),Q9,rM];exact⟨⟨by omega,hk⟩,⟨(show Sz.sz (_:List Int)<=2147483648 by omega),room (by omega)⟩,ih⟩
 ·refine WL _ _ _ _ ⟨λh=>by simp at h,λ_=>?_⟩;exact au (by simp)
theorem KB:Qf Tryz.prog x4:=Qi λx h=>QJZ x.1 h
def x6(t:(List Qo)):aB:=⟨(.r QF 0 0 t.length),[(.sl 154 QF (.dp 0 true []) t)],[],false,[]⟩
def KC:aI:=Qg 126 [(.c (.sl QF))] λx=>(some (Qs (α:=List Qo) x.1),x6 (id (α:=List Qo) x.1))
def KD:aF:=⟨[JG],true⟩
def WM:af :=
 (ag [(.ae [aw 10 .lss 9 8]),(.cond 10 .skip (.exit 0)),(.block 1 (ag [(.ae [aZ 11 7 9 QF,a7 12 11 2,aC 5 (.new 154 (bG QF)),aT 5 12 2]),(.draw [ab 13 3,ak 14 5 0,an 15 14 1,aD 16 104 [15],ak 17 5 1,an 18 17 1,aD 19 104 [18],aC 20 (.build (bG QF) [(0,1,16),(1,1,19)]),aC 21 (.bW 154 QF [20]),aC 22 (.app 13 21 154 QF),ab 3 22] [(3,4),(3,5)])])),(.ae [aw 23 .add 9 (ar 1),ab 9 23])])
def WN:List (Nat × Md):=[(3,.one .f),(7,.one .d),(8,.one .d),(9,.one .d)]
def WO:af :=
 (ag [(.ae [ab 24 3,ab 2 24]),.ret])
def QSH:af :=
 (ag [(.ae [ab 2 (.k (.n QF))]),(.ae [aC 6 (.bW 154 QF []),ab 3 6]),(ag [(.ae [ab 7 0,a9 8 7,ab 9 (ar 0)]),(.block 0 (.loop WN WM))]),WO])
def WQ:List (bm × Md):=[(.t 2,.one (.p 154))]
def WR:Qb:=TQ 0 0 WQ K
def QFm:Qb:=aY (aN KD 0 WO (WR K)) (WR K)
def QFP:Qb:=a6 0 (QFm K)
def KE(b:List Qo)(x:Int)(ZW:List Qo):Prop:=Loop KD 0 WN WM (QFP K) ⟨[(3,(.r QF 0 0 ZW.length)),(7,(bc QF b)),(8,(aL (b.length:Int))),(9,(aL x))],[(0,(.sl 154 QF (.dp 0 true []) ZW))],1⟩
theorem WS(b:List Qo)(x:Int)(ZW:List Qo) (h :
 (aJ (decide (x<(b.length:Int))) ((0<=x/\Int.toNat x<b.length)/\(((Qs (α:=List Int) ((aq QW b (Int.toNat x)).1))/\((Qs (α:=List Int) ((aq QW b (Int.toNat x)).2))/\((ZW.length=ZW.length\/ZW.length+1<=ZW.length)/\ZW.length+1<=cc)))/\(KE K b (aG (x+1)) (List.take (ZW.length+1) ((List.take ZW.length ZW)++([((List.take ((id (α:=List Int) ((aq QW b (Int.toNat x)).1)).length) (List.drop 0 (id (α:=List Int) ((aq QW b (Int.toNat x)).1)))),(List.take ((id (α:=List Int) ((aq QW b (Int.toNat x)).2)).length) (List.drop 0 (id (α:=List Int) ((aq QW b (Int.toNat x)).2)))))])))))) (K (x6 (List.take ZW.length ZW))))):KE K b x ZW :=
 Loop.of h
theorem QYk(b:List Qo)(hp:Qs (α:=List Qo) b):aK Tryz.prog 126 [(.c (.sl QF) b)] (x6 (id (α:=List Qo) b)):=by
 refine bw KD QSH WQ 0 0 25 KC (kc nT kn) (λK =>
 (KE K b 0 ([]:List Qo))) (λhb=>?_)
 refine YE (Q:=λz=>x6 z=x6 (id (α:=List Qo) b)) hp (λk x v hk hl hg hv hx ih=>?_) (λhq=>?_) (au rfl)
 ·refine WS _ _ _ _ ⟨λ_=>?_,λh=>by simp at h;omega⟩
  try simp only[QR,QL,QY]at hx
  rw[Int.toNat_natCast,hg,dM (by omega),Q9,rM,rM];exact⟨⟨by omega,hk⟩,⟨(show Sz.sz (_:List Int)<=2147483648 by omega),(show Sz.sz (_:List Int)<=2147483648 by omega),room (by omega)⟩,ih⟩
 ·refine WS _ _ _ _ ⟨λh=>by simp at h,λ_=>?_⟩;exact au (by simp)
theorem QJg:Qf Tryz.prog KC:=Qi λx h=>QYk x.1 h
def KF(t:QO):aB:=⟨(.a [(.r [(.sl [TI])] 0 0 ((t.1).length)),(aL t.2.1),(bE t.2.2)]),[(.sl 106 [(.sl [TI])] (.dp 0 true []) t.1)],[],false,[]⟩
def KG:aI:=Qg 166 [(.a Zj)] λx=>(some (Qs (α:=QO) x.1),KF (id (α:=QO) x.1))
def QP1:aF:=⟨[x4],true⟩
def QRN:af :=
 (ag [(.ae [aC 1 (.box 37 0 3),aC 2 (.new 37 (bG Zj))]),(.draw [ak 3 1 0,an 4 3 1,aD 5 103 [4],ak 6 1 1,an 7 6 1,ak 8 1 2,an 9 8 1,aC 10 (.build (bG Zj) [(0,1,5),(1,1,7),(2,1,9)]),aT 2 10 3] [(2,3),(2,4),(2,5),(2,6)]),.ret])
def QHR:List (bm × Md):=[(.l 2 3 true,.b [.p 106,.d,.d])]
theorem QMM(g:QO)(hp:Qs (α:=QO) g):aK Tryz.prog 166 [(.a (aR.cells Zj g))] (KF (id (α:=QO) g)):=by
 refine bw QP1 QRN QHR 0 0 11 KG (kc KB kn) (λK =>
 ((Qs (α:=List (List Int)) g.1)/\K (KF ((List.take ((id (α:=List (List Int)) g.1).length) (id (α:=List (List Int)) g.1)),g.2.1,g.2.2)))) (λhb=>?_)
 unfold Qs at hp;simp only[QR,QL,QY]at hp;exact⟨hp,au (by simp)⟩
theorem QSI:Qf Tryz.prog KG:=Qi λx h=>QMM x.1 h
def x7(t:(List aH)):aB:=fQ (bc aM t)
def KH:aI:=Qg 155 [(.c (.sl aM))] λx=>(some (Qs (α:=List aH) x.1),x7 (id (α:=List aH) x.1))
def KI:aF:=⟨[],false⟩
def WT:af :=
 (ag [(ag [(.ae [ab 7 4,ab 8 0,a9 9 8,aw 10 .lss 7 9]),(.cond 10 .skip (.exit 0))]),(.block 1 (ag [(.ae [ab 13 0,ab 14 4,aZ 15 13 14 aM,a7 16 15 4,aC 5 (.new 134 (bG aM)),aT 5 16 4]),(.ae [aC 17 (.bW 3 [TI] []),ab 18 0,ab 19 4,aZ 20 18 19 aM,ak 21 20 3,an 22 21 1,aC 23 (.app 17 22 3 [TI]),ak 24 5 3,aT 24 23 1]),(.ae [ab 25 3,a7 26 5 4,aC 27 (.bW 134 aM [26]),aC 28 (.app 25 27 134 aM),ab 3 28])])),(.ae [ab 11 4,aw 12 .add 11 (ar 1),ab 4 12])])
def WU:List (Nat × Md):=[(0,.one .d),(3,.one .f),(4,.one .d)]
def WV:af :=
 (ag [(.ae [ab 29 3,ab 2 29]),.ret])
def QXU:af :=
 (ag [(.ae [ab 2 (.k (.n aM))]),(.ae [aC 6 (.bW 134 aM []),ab 3 6]),(ag [(.ae [ab 4 (ar 0)]),(.block 0 (.loop WU WT))]),WV])
def WW:List (bm × Md):=[(.t 2,.one .d)]
def WX:Qb:=TQ 0 0 WW K
def QKB:Qb:=aY (aN KI 0 WV (WX K)) (WX K)
def QXw:Qb:=a6 0 (QKB K)
def KJ(l:List aH)(i:Int)(out:List aH):Prop:=Loop KI 0 WU WT (QXw K) ⟨[(0,(bc aM l)),(3,(.r aM 0 0 out.length)),(4,(aL i))],[(0,(.sl 134 aM .ow out))],1⟩
theorem WY(l:List aH)(i:Int)(out:List aH) (h :
 (aJ (decide (i<(l.length:Int))) ((0<=i/\Int.toNat i<l.length)/\(((0<=i/\Int.toNat i<l.length)/\((0=0\/0+((aq b6 l (Int.toNat i)).2.2.2).length<=0)/\0+((aq b6 l (Int.toNat i)).2.2.2).length<=cc))/\(((out.length=out.length\/out.length+1<=out.length)/\out.length+1<=cc)/\(KJ K l (aG (i+1)) (List.take (out.length+1) ((List.take out.length out)++([((aq b6 l (Int.toNat i)).1,(aq b6 l (Int.toNat i)).2.1,(aq b6 l (Int.toNat i)).2.2.1,(List.take (0+((aq b6 l (Int.toNat i)).2.2.2).length) (List.drop 0 ((aq b6 l (Int.toNat i)).2.2.2))))]))))))) (K (x7 (List.take out.length (List.drop 0 out)))))):KJ K l i out :=
 Loop.of h
theorem QFl(l:List aH)(hp:Qs (α:=List aH) l):aK Tryz.prog 155 [(.c (.sl aM) l)] (x7 (id (α:=List aH) l)):=by
 refine bw KI QXU WW 0 0 30 KH kn (λK =>
 (KJ K l 0 ([]:List aH))) (λhb=>?_)
 refine YE (Q:=λz=>x7 z=x7 (id (α:=List aH) l)) hp (λk x v hk hl hg hv hx ih=>?_) (λhq=>?_) (au rfl)
 ·refine WY _ _ _ _ ⟨λ_=>?_,λh=>by simp at h;omega⟩
  try simp only[QR,QL,QY]at hx
  rw[Int.toNat_natCast,hg,dM (by omega),Q9,tQ];exact⟨⟨by omega,hk⟩,⟨⟨by omega,hk⟩,.inl rfl,by have:=ZD x.2.2.2;rw[Zf];omega⟩,room (by omega),ih⟩
 ·refine WY _ _ _ _ ⟨λh=>by simp at h,λ_=>?_⟩;exact au (by simp)
theorem QN4:Qf Tryz.prog KH:=Qi λx h=>QFl x.1 h
def x8(t:(List (List Int))):aB:=fQ (bc [(.sl [TI])] t)
def KK:aI:=Qg 156 [(.c (.sl [(.sl [TI])]))] λx=>(some (Qs (α:=List (List Int)) x.1),x8 (id (α:=List (List Int)) x.1))
def KL:aF:=⟨[],false⟩
def WZ:af :=
 (ag [(ag [(.ae [ab 6 4,ab 7 0,a9 8 7,aw 9 .lss 6 8]),(.cond 9 .skip (.exit 0))]),(.block 1 (.ae [ab 12 3,aC 13 (.bW 3 [TI] []),ab 14 0,ab 15 4,aZ 16 14 15 [(.sl [TI])],ak 17 16 0,an 18 17 1,aC 19 (.app 13 18 3 [TI]),aC 20 (.build [(.n [TI])] [(0,1,19)]),aC 21 (.bW 106 [(.sl [TI])] [20]),aC 22 (.app 12 21 106 [(.sl [TI])]),ab 3 22])),(.ae [ab 10 4,aw 11 .add 10 (ar 1),ab 4 11])])
def W0:List (Nat × Md):=[(0,.one .d),(3,.one .f),(4,.one .d)]
def W1:af :=
 (ag [(.ae [ab 23 3,ab 2 23]),.ret])
def QMG:af :=
 (ag [(.ae [ab 2 (.k (.n [(.sl [TI])]))]),(.ae [aC 5 (.bW 106 [(.sl [TI])] []),ab 3 5]),(ag [(.ae [ab 4 (ar 0)]),(.block 0 (.loop W0 WZ))]),W1])
def W2:List (bm × Md):=[(.t 2,.one .d)]
def W3:Qb:=TQ 0 0 W2 K
def QV5:Qb:=aY (aN KL 0 W1 (W3 K)) (W3 K)
def QMq:Qb:=a6 0 (QV5 K)
def KM(l:List (List Int))(i:Int)(out:List (List Int)):Prop:=Loop KL 0 W0 WZ (QMq K) ⟨[(0,(bc [(.sl [TI])] l)),(3,(.r [(.sl [TI])] 0 0 out.length)),(4,(aL i))],[(0,(.sl 106 [(.sl [TI])] .ow out))],1⟩
theorem W4(l:List (List Int))(i:Int)(out:List (List Int)) (h :
 (aJ (decide (i<(l.length:Int))) (((0<=i/\Int.toNat i<l.length)/\(((0=0\/0+(aq ([]:List Int) l (Int.toNat i)).length<=0)/\0+(aq ([]:List Int) l (Int.toNat i)).length<=cc)/\((out.length=out.length\/out.length+1<=out.length)/\out.length+1<=cc)))/\(KM K l (aG (i+1)) (List.take (out.length+1) ((List.take out.length out)++([(List.take (0+(aq ([]:List Int) l (Int.toNat i)).length) (List.drop 0 (aq ([]:List Int) l (Int.toNat i))))]))))) (K (x8 (List.take out.length (List.drop 0 out)))))):KM K l i out :=
 Loop.of h
theorem QUZ(l:List (List Int))(hp:Qs (α:=List (List Int)) l):aK Tryz.prog 156 [(.c (.sl [(.sl [TI])]) l)] (x8 (id (α:=List (List Int)) l)):=by
 refine bw KL QMG W2 0 0 24 KK kn (λK =>
 (KM K l 0 ([]:List (List Int)))) (λhb=>?_)
 refine YE (Q:=λz=>x8 z=x8 (id (α:=List (List Int)) l)) hp (λk x v hk hl hg hv hx ih=>?_) (λhq=>?_) (au rfl)
 ·refine W4 _ _ _ _ ⟨λ_=>?_,λh=>by simp at h;omega⟩
  try simp only[QR,QL,QY]at hx
  rw[Int.toNat_natCast,hg,dM (by omega),Q9,tQ];exact⟨⟨⟨by omega,hk⟩,⟨.inl rfl,by have:=ZD x;rw[Zf];omega⟩,room (by omega)⟩,ih⟩
 ·refine W4 _ _ _ _ ⟨λh=>by simp at h,λ_=>?_⟩;exact au (by simp)
theorem QYH:Qf Tryz.prog KK:=Qi λx h=>QUZ x.1 h
def Bd(t:(List Int) × Bool):aB:=fQ (.tp [(bc [TI] t.1),(bE t.2)])
def KN:aI:=Qg 194 [(.c (.sl [TI])),(.c (.sl [TI]))] λx=>(some (Zp (α:=List Int) (β:=List Int) x.1 x.2.1),Bd (nI x.1 x.2.1))
def KO:aF:=⟨[sm],false⟩
def W5:af :=
 (ag [(ag [(.ae [ab 12 8,ab 13 0,a9 14 13,aw 15 .lss 12 14,ab 16 15,.bt 16 true [ab 17 8,ab 18 1,a9 19 18,aw 20 .lss 17 19] 21 20]),(.cond 21 .skip (.exit 0))]),(.block 1 (ag [(.draw [ab 25 0,ab 26 8,aZ 27 25 26 [TI],an 28 27 1,ab 29 1,ab 30 8,aZ 31 29 30 [TI],an 32 31 1,aD 33 99 [28,32],ab 24 33,bF 34 24 0,bF 35 24 1,ab 9 34,ab 10 35] []),(.ae [ab 36 6,ab 37 9,aC 38 (.bW 3 [TI] [37]),aC 39 (.app 36 38 3 [TI]),ab 6 39]),(.ae [ab 40 7,ab 41 40,.bt 41 false [ab 42 10] 43 42,ab 7 43])])),(.ae [ab 22 8,aw 23 .add 22 (ar 1),ab 8 23])])
def W6:List (Nat × Md):=[(0,.one .d),(1,.one .d),(6,.one .f),(7,.one .d),(8,.one .d)]
def W7:af :=
 (ag [(.ae [ab 44 6,ab 45 7,ab 4 44,ab 5 45]),.ret])
def QJ1:af :=
 (ag [(.ae [ab 4 (.k (.n [TI])),ab 5 (a0 false)]),(.ae [aC 11 (.bW 3 [TI] []),ab 6 11]),(.ae [ab 7 (a0 false)]),(ag [(.ae [ab 8 (ar 0)]),(.block 0 (.loop W6 W5))]),W7])
def W8:List (bm × Md):=[(.t 4,.one .d),(.t 5,.one .d)]
def W9:Qb:=TQ 0 0 W8 K
def QJE:Qb:=aY (aN KO 0 W7 (W9 K)) (W9 K)
def QF9:Qb:=a6 0 (QJE K)
def Be(a:List Int)(b:List Int)(sat:Bool)(i:Int)(out:List Int):Prop:=Loop KO 0 W6 W5 (QF9 K) ⟨[(0,(bc [TI] a)),(1,(bc [TI] b)),(6,(.r [TI] 0 0 out.length)),(7,(bE sat)),(8,(aL i))],[(0,(.sl 3 [TI] .ow out))],1⟩
theorem KP(a:List Int)(b:List Int)(sat:Bool)(i:Int)(out:List Int) (h :
 (aJ ((decide (i<(a.length:Int)))&&(decide (i<(b.length:Int)))) (((0<=i/\Int.toNat i<a.length)/\(0<=i/\Int.toNat i<b.length))/\(((out.length=out.length\/out.length+1<=out.length)/\out.length+1<=cc)/\(Be K a b (sat||((Q5 (aq (0:Int) a (Int.toNat i)) (aq (0:Int) b (Int.toNat i))).2)) (aG (i+1)) (List.take (out.length+1) ((List.take out.length out)++([(Q5 (aq (0:Int) a (Int.toNat i)) (aq (0:Int) b (Int.toNat i))).1])))))) (K (Bd ((List.take out.length (List.drop 0 out)),sat))))):Be K a b sat i out :=
 Loop.of h
theorem QW3(a:List Int)(b:List Int)(hp:Zp (α:=List Int) (β:=List Int) a b):aK Tryz.prog 194 [(.c (.sl [TI]) a),(.c (.sl [TI]) b)] (Bd (nI a b)):=by
 refine bw KO QJ1 W8 0 0 46 KN (kc xV kn) (λK =>
 (Be K a b false 0 ([]:List Int))) (λhb=>?_)
 unfold Zp at hp;have ha:=ZD a;have fy:=ZD b;refine Za a (λr k=>∀(v:List Int)(s:Bool),v.length=k->(v++(vz Q5 r (b.drop k)).1,s||(vz Q5 r (b.drop k)).2)=(nI a b)->Be (λr'=>r'=Bd (nI a b)) a b s k v) ?_ ?_ [] false rfl (by unfold nI;simp)
 ·intro v s hv he;refine KP _ _ _ _ _ _ ⟨λh=>by simp at h,λ_=>au ?_⟩;rw[<- he];simp[vz]
 ·intro k x r hk aU hg ih v s hv he;by_cases iP:k<b.length
  ·obtain⟨y,q,hq⟩:=Ys (l:=b) (k:=k) iP;refine KP _ _ _ _ _ _ ⟨λ_=>?_,λh=>by simp at h;omega⟩;rw[Int.toNat_natCast,hg,ZG hq,dM (by omega),Q9];refine⟨⟨⟨by omega,aU⟩,by omega,iP⟩,room (by omega),ih _ _ (Yd hv) ?_⟩;rw[<- he,hq,vz,Zz hq];simp[Bool.or_assoc]
  ·refine KP _ _ _ _ _ _ ⟨λh=>by simp at h;omega,λ_=>au ?_⟩;rw[<- he,drop_nil (l:=b) (by omega)];simp[vz]
theorem QNu:Qf Tryz.prog KN:=Qi λx h=>QW3 x.1 x.2.1 h
def x9(t:QO):aB:=⟨(.a [(.r [(.sl [TI])] 0 0 ((t.1).length)),(aL t.2.1),(bE t.2.2)]),[(.sl 106 [(.sl [TI])] (.dp 0 true []) t.1)],[],false,[]⟩
def KQ:aI:=Qg 113 [(.a Zj),(.a Zj)] λx=>(some (Zp (α:=QO) (β:=QO) x.1 x.2.1),x9 (Z1 x.1 x.2.1))
def sn:aF:=⟨[ui],true⟩
def Xa:af :=
 (ag [(ag [(.ae [ab 35 8,ak 36 2 0,an 37 36 1,ab 38 6,aZ 39 37 38 [(.sl [TI])],ak 40 39 0,an 41 40 1,a9 42 41,aw 43 .lss 35 42,ab 44 43,.bt 44 true [ab 45 8,ak 46 3 0,an 47 46 1,ab 48 6,aZ 49 47 48 [(.sl [TI])],ak 50 49 0,an 51 50 1,a9 52 51,aw 53 .lss 45 52] 54 53]),(.cond 54 .skip (.exit 2))]),(.block 3 (ag [(.draw [ak 58 2 0,an 59 58 1,ab 60 6,aZ 61 59 60 [(.sl [TI])],ak 62 61 0,an 63 62 1,ab 64 8,aZ 65 63 64 [TI],an 66 65 1,ak 67 3 0,an 68 67 1,ab 69 6,aZ 70 68 69 [(.sl [TI])],ak 71 70 0,an 72 71 1,ab 73 8,aZ 74 72 73 [TI],an 75 74 1,aD 76 106 [66,75],ab 57 76,bF 77 57 0,bF 78 57 1,ab 9 77,ab 10 78] []),(.ae [ak 79 7 0,an 80 79 1,ab 81 9,aC 82 (.bW 3 [TI] [81]),aC 83 (.app 80 82 3 [TI]),ak 84 7 0,aT 84 83 1]),(.ae [ak 85 5 2,an 86 85 1,ab 87 86,.bt 87 false [ab 88 10] 89 88,ak 90 5 2,aT 90 89 1])])),(.ae [ab 55 8,aw 56 .add 55 (ar 1),ab 8 56])])
def Xb:List (Nat × Md):=[(2,.b [.d,.d,.d]),(3,.b [.d,.d,.d]),(4,.b [.f,.d,.d]),(5,.b [.f,.d,.d]),(6,.one .d),(7,.b [.p 3]),(8,.one .d)]
def Xc:af :=
 (.ae [ak 91 5 0,an 92 91 1,a7 93 7 1,aC 94 (.bW 106 [(.sl [TI])] [93]),aC 95 (.app 92 94 106 [(.sl [TI])]),ak 96 5 0,aT 96 95 1])
def Xd:af :=
 (.ae [ab 32 6,aw 33 .add 32 (ar 1),ab 6 33])
def KR:af :=
 (ag [(ag [(.ae [ab 20 6,ak 21 2 0,an 22 21 1,a9 23 22,aw 24 .lss 20 23,ab 25 24,.bt 25 true [ab 26 6,ak 27 3 0,an 28 27 1,a9 29 28,aw 30 .lss 26 29] 31 30]),(.cond 31 .skip (.exit 0))]),(.block 1 (ag [(.ae [aC 34 (.build [(.n [TI])] []),aC 7 (.new 106 [(.n [TI])]),aT 7 34 1]),(ag [(.ae [ab 8 (ar 0)]),(.block 2 (.loop Xb Xa))]),Xc])),Xd])
def Bf:List (Nat × Md):=[(2,.b [.d,.d,.d]),(3,.b [.d,.d,.d]),(4,.b [.f,.d,.d]),(5,.b [.p 106,.d,.d]),(6,.one .d)]
def Xe:af :=
 (ag [(.ae [ak 98 2 1,an 99 98 1,ak 100 3 1,an 101 100 1,aD 102 106 [99,101],ab 97 102,bF 103 97 0,bF 104 97 1,ab 11 103,ab 12 104]),(.ae [ab 105 11,ak 106 5 1,aT 106 105 1]),(.ae [ak 107 5 2,an 108 107 1,ab 109 108,.bt 109 false [ab 110 12] 111 110,ak 112 5 2,aT 112 111 1]),(.ae [a7 113 5 3,aT 4 113 3]),.ret])
def QKf:af :=
 (ag [(.ae [aC 2 (.box 37 0 3),aC 3 (.box 37 1 3),aC 4 (.new 37 (bG Zj))]),(.ae [ak 13 2 2,an 14 13 1,ab 15 14,.bt 15 false [ak 16 3 2,an 17 16 1] 18 17,aC 19 (.build (bG Zj) [(2,1,18)]),aC 5 (.new 37 (bG Zj)),aT 5 19 3]),(ag [(.ae [ab 6 (ar 0)]),(.block 0 (.loop Bf KR))]),Xe])
def Xf:List (bm × Md):=[(.l 4 3 true,.b [.p 106,.d,.d])]
def Xg:Qb:=TQ 0 0 Xf K
def QTv:Qb:=aY (aN sn 0 Xe (Xg K)) (Xg K)
def KS:Qb:=a6 0 (QTv K)
def Xh:Qb:=aY (λs'=>Loop sn 0 Bf KR (KS K) (gc 0 Bf s')) (KS K)
def QSr:Qb:=aY (aN sn 0 Xd (Xh K)) (Xh K)
def Xi:Qb:=a6 1 (QSr K)
def QUE:Qb:=aY (aN sn 0 Xc (Xi K)) (Xi K)
def QTf:Qb:=a6 2 (QUE K)
def Bg(a:QO)(b:QO)(k:Int)(g2:Bool)(fL:List Int)(i:Int)(ke:List (List Int)):Prop:=Loop sn 0 Xb Xa (QTf K) ⟨[(2,(.p 0 0 0)),(3,(.p 1 0 0)),(4,(.p 2 0 0)),(5,(.p 4 0 0)),(6,(aL i)),(7,(.p 6 0 0)),(8,(aL k))],[(0,(.box (aR.cells Zj a))),(1,(.box (aR.cells Zj b))),(2,(.box [(.n [(.sl [TI])]),(aL 0),(bE false)])),(3,(.sl 106 [(.sl [TI])] (.dp 0 true []) ke)),(4,(.box [(.r [(.sl [TI])] 3 0 ke.length),(aL 0),(bE g2)])),(5,(.sl 3 [TI] (.dp 0 true []) fL)),(6,(.box [(.r [TI] 5 0 fL.length)]))],7⟩
def Bh(a:QO)(b:QO)(i:Int)(g0:List (List Int))(ya:Bool):Prop:=Loop sn 0 Bf KR (KS K) ⟨[(2,(.p 0 0 0)),(3,(.p 1 0 0)),(4,(.p 2 0 0)),(5,(.p 4 0 0)),(6,(aL i))],[(0,(.box (aR.cells Zj a))),(1,(.box (aR.cells Zj b))),(2,(.box [(.n [(.sl [TI])]),(aL 0),(bE false)])),(3,(.sl 106 [(.sl [TI])] (.dp 0 true []) g0)),(4,(.box [(.r [(.sl [TI])] 3 0 g0.length),(aL 0),(bE ya)]))],5⟩
theorem Xj(a:QO)(b:QO)(k:Int)(g2:Bool)(fL:List Int)(i:Int)(ke:List (List Int)) (h :
 (((0<=i/\Int.toNat i<(a.1).length)/\((decide (k<((aq ([]:List Int) a.1 (Int.toNat i)).length:Int)))=true->(0<=i/\Int.toNat i<(b.1).length)))/\(aJ ((decide (k<((aq ([]:List Int) a.1 (Int.toNat i)).length:Int)))&&(decide (k<((aq ([]:List Int) b.1 (Int.toNat i)).length:Int)))) (((0<=i/\Int.toNat i<(a.1).length)/\((0<=k/\Int.toNat k<(aq ([]:List Int) a.1 (Int.toNat i)).length)/\((0<=i/\Int.toNat i<(b.1).length)/\(0<=k/\Int.toNat k<(aq ([]:List Int) b.1 (Int.toNat i)).length))))/\(((fL.length=fL.length\/fL.length+1<=fL.length)/\fL.length+1<=cc)/\(Bg K a b (aG (k+1)) (g2||((Q5 (aq (0:Int) (aq ([]:List Int) a.1 (Int.toNat i)) (Int.toNat k)) (aq (0:Int) (aq ([]:List Int) b.1 (Int.toNat i)) (Int.toNat k))).2)) (List.take (fL.length+1) ((List.take fL.length fL)++([(Q5 (aq (0:Int) (aq ([]:List Int) a.1 (Int.toNat i)) (Int.toNat k)) (aq (0:Int) (aq ([]:List Int) b.1 (Int.toNat i)) (Int.toNat k))).1]))) i (List.take ke.length ke)))) (((ke.length=ke.length\/ke.length+1<=ke.length)/\ke.length+1<=cc)/\(Bh K a b (aG (i+1)) (List.take (ke.length+1) ((List.take ke.length ke)++([(List.take fL.length (List.drop 0 fL))]))) g2))))):Bg K a b k g2 fL i ke :=
 Loop.of h
theorem KT(a:QO)(b:QO)(i:Int)(g0:List (List Int))(ya:Bool) (h :
 (aJ ((decide (i<((a.1).length:Int)))&&(decide (i<((b.1).length:Int)))) (Bg K a b 0 ya ([]:List Int) i (List.take g0.length g0)) (K (x9 ((List.take g0.length g0),(Q5 a.2.1 b.2.1).1,(ya||((Q5 a.2.1 b.2.1).2))))))):Bh K a b i g0 ya :=
 Loop.of h
theorem QLI(a:QO)(b:QO)(hp:Zp (α:=QO) (β:=QO) a b):aK Tryz.prog 113 [(.a (aR.cells Zj a)),(.a (aR.cells Zj b))] (x9 (Z1 a b)):=by
 refine bw sn QKf Xf 0 0 114 KQ (kc Bc kn) (λK =>
 (Bh K a b 0 ([]:List (List Int)) (a.2.2||b.2.2))) (λhb=>?_)
 unfold Zp at hp;simp only[QR,QL,QY]at hp;have ha:=Yl a.1;refine Za a.1 (λr k=>∀(v:List (List Int))(z:Bool),v.length=k->v++(ZE r (b.1.drop k)).1=(ZE a.1 b.1).1->(z||(ZE r (b.1.drop k)).2)=(a.2.2||b.2.2||(ZE a.1 b.1).2)->Bh (λr'=>r'=x9 (Z1 a b)) a b k v z) ?_ ?_ [] _ rfl (by simp) (by simp)
 ·intro v z hv he hz;refine KT _ _ _ _ _ _ ⟨λh=>by simp at h,λ_=>au ?_⟩;unfold Z1;rw[<- he,<- hz];simp[ZE]
 ·intro k x r hk aU hg ih v z hv he hz;by_cases iP:k<b.1.length
  ·obtain⟨y,q,hq⟩:=Ys (l:=b.1) (k:=k) iP;have hx:=xn hk;have Tg:=ZD x;refine KT _ _ _ _ _ _ ⟨λ_=>?_,λh=>by simp at h;omega⟩;rw[List.take_length];refine Za x (λr2 j=>∀(w:List Int)(z2:Bool),w.length=j->w++(vz Q5 r2 (y.drop j)).1=(vz Q5 x y).1->(z2||(vz Q5 r2 (y.drop j)).2)=(z||(vz Q5 x y).2)->Bg (λr'=>r'=x9 (Z1 a b)) a b j z2 w k v) ?_ ?_ [] z rfl (by simp) (by simp)
   ·intro w z2 hw eI jj;refine Xj _ _ _ _ _ _ _ _ ?_;rw[Int.toNat_natCast,hg,ZG hq];refine⟨⟨⟨by omega,aU⟩,λh=>by simp at h⟩,λh=>by simp at h,λ_=>⟨room (by omega),?_⟩⟩;rw[xx,dM (by omega),Q9];simp only[vz,List.append_nil,Bool.or_false]at eI jj;refine ih _ _ (Yd hv) ?_ ?_
    ·rw[<- he,hq,ZE,Zz hq,eI];simp
    ·rw[<- hz,hq,ZE,Zz hq,jj];simp[Bool.or_assoc]
   ·intro j e r2 hj i7 g7 l8 w z2 hw eI jj;refine Xj _ _ _ _ _ _ _ _ ?_;rw[Int.toNat_natCast,Int.toNat_natCast,hg,ZG hq];by_cases Xk:j<y.length
    ·obtain⟨f,q2,gj⟩:=Ys (l:=y) (k:=j) Xk;refine⟨⟨⟨by omega,aU⟩,λ_=>⟨by omega,iP⟩⟩,λ_=>?_,λh=>by simp at h;omega⟩;rw[g7,ZG gj,dM (by omega),Q9,List.take_length];refine⟨⟨⟨by omega,aU⟩,⟨by omega,i7⟩,⟨by omega,iP⟩,by omega,Xk⟩,room (by omega),l8 _ _ (Yd hw) ?_ ?_⟩
     ·rw[<- eI,gj,vz,Zz gj];simp
     ·rw[<- jj,gj,vz,Zz gj];simp[Bool.or_assoc]
    ·refine⟨⟨⟨by omega,aU⟩,λ_=>⟨by omega,iP⟩⟩,λh=>by simp at h;omega,λ_=>⟨room (by omega),?_⟩⟩;rw[xx,dM (by omega),Q9];rw[drop_nil (l:=y) (by omega)]at eI jj;simp only[vz,List.append_nil,Bool.or_false]at eI jj;refine ih _ _ (Yd hv) ?_ ?_
     ·rw[<- he,hq,ZE,Zz hq,eI];simp
     ·rw[<- hz,hq,ZE,Zz hq,jj];simp[Bool.or_assoc]
  ·refine KT _ _ _ _ _ _ ⟨λh=>by simp at h;omega,λ_=>au ?_⟩;unfold Z1;rw[<- he,<- hz,drop_nil (l:=b.1) (by omega)];simp[ZE]
theorem QOm:Qf Tryz.prog KQ:=Qi λx h=>QLI x.1 x.2.1 h
def Bi(t:QO):aB:=fQ (.a (aR.cells Zj t))
def KU:aI:=Qg 109 [(.a Zj),(.a Zj)] λx=>(some (Zp (α:=QO) (β:=QO) x.1 x.2.1),Bi (Z1 x.1 x.2.1))
def KV:aF:=⟨[KN,sm],false⟩
def Xl:af :=
 (ag [(ag [(.ae [ab 18 6,ak 19 2 0,an 20 19 1,a9 21 20,aw 22 .lss 18 21,ab 23 22,.bt 23 true [ab 24 6,ak 25 3 0,an 26 25 1,a9 27 26,aw 28 .lss 24 27] 29 28]),(.cond 29 .skip (.exit 0))]),(.block 1 (ag [(.draw [ak 33 2 0,an 34 33 1,ab 35 6,aZ 36 34 35 [(.sl [TI])],ak 37 36 0,an 38 37 1,ak 39 3 0,an 40 39 1,ab 41 6,aZ 42 40 41 [(.sl [TI])],ak 43 42 0,an 44 43 1,aD 45 194 [38,44],ab 32 45,bF 46 32 0,bF 47 32 1,ab 7 46,ab 8 47] []),(.ae [ak 48 5 0,an 49 48 1,ab 50 7,aC 51 (.build [(.n [TI])] [(0,1,50)]),aC 52 (.bW 106 [(.sl [TI])] [51]),aC 53 (.app 49 52 106 [(.sl [TI])]),ak 54 5 0,aT 54 53 1]),(.ae [ak 55 5 2,an 56 55 1,ab 57 56,.bt 57 false [ab 58 8] 59 58,ak 60 5 2,aT 60 59 1])])),(.ae [ab 30 6,aw 31 .add 30 (ar 1),ab 6 31])])
def Xm:List (Nat × Md):=[(2,.b [.d,.d,.d]),(3,.b [.d,.d,.d]),(4,.b [.d,.d,.d]),(5,.b [.o 106,.d,.d]),(6,.one .d)]
def Xn:af :=
 (ag [(.ae [ak 62 2 1,an 63 62 1,ak 64 3 1,an 65 64 1,aD 66 99 [63,65],ab 61 66,bF 67 61 0,bF 68 61 1,ab 9 67,ab 10 68]),(.ae [ab 69 9,ak 70 5 1,aT 70 69 1]),(.ae [ak 71 5 2,an 72 71 1,ab 73 72,.bt 73 false [ab 74 10] 75 74,ak 76 5 2,aT 76 75 1]),(.ae [a7 77 5 3,aT 4 77 3]),.ret])
def QP6:af :=
 (ag [(.ae [aC 2 (.box 37 0 3),aC 3 (.box 37 1 3),aC 4 (.new 37 (bG Zj))]),(.ae [ak 11 2 2,an 12 11 1,ab 13 12,.bt 13 false [ak 14 3 2,an 15 14 1] 16 15,aC 17 (.build (bG Zj) [(2,1,16)]),aC 5 (.new 37 (bG Zj)),aT 5 17 3]),(ag [(.ae [ab 6 (ar 0)]),(.block 0 (.loop Xm Xl))]),Xn])
def Xo:List (bm × Md):=[(.l 4 3 true,.b [.d,.d,.d])]
def Xp:Qb:=TQ 0 0 Xo K
def QNf:Qb:=aY (aN KV 0 Xn (Xp K)) (Xp K)
def QJt:Qb:=a6 0 (QNf K)
def Bj(a:QO)(b:QO)(i:Int)(g0:List (List Int))(g2:Bool):Prop:=Loop KV 0 Xm Xl (QJt K) ⟨[(2,(.p 0 0 0)),(3,(.p 1 0 0)),(4,(.p 2 0 0)),(5,(.p 4 0 0)),(6,(aL i))],[(0,(.box (aR.cells Zj a))),(1,(.box (aR.cells Zj b))),(2,(.box (aR.cells Zj ([],(0:Int),false)))),(3,(.sl 106 [(.sl [TI])] .ow g0)),(4,(.box [(.r [(.sl [TI])] 3 0 g0.length),(aL 0),(bE g2)]))],5⟩
theorem KW(a:QO)(b:QO)(i:Int)(g0:List (List Int))(g2:Bool) (h :
 (aJ ((decide (i<((a.1).length:Int)))&&(decide (i<((b.1).length:Int)))) (((0<=i/\Int.toNat i<(a.1).length)/\((0<=i/\Int.toNat i<(b.1).length)/\(Zp (α:=List Int) (β:=List Int) (aq ([]:List Int) a.1 (Int.toNat i)) (aq ([]:List Int) b.1 (Int.toNat i)))))/\(((g0.length=g0.length\/g0.length+1<=g0.length)/\g0.length+1<=cc)/\(Bj K a b (aG (i+1)) (List.take (g0.length+1) ((List.take g0.length g0)++([(nI (aq ([]:List Int) a.1 (Int.toNat i)) (aq ([]:List Int) b.1 (Int.toNat i))).1]))) (g2||((nI (aq ([]:List Int) a.1 (Int.toNat i)) (aq ([]:List Int) b.1 (Int.toNat i))).2))))) (K (Bi ((List.take g0.length (List.drop 0 g0)),(Q5 a.2.1 b.2.1).1,(g2||((Q5 a.2.1 b.2.1).2))))))):Bj K a b i g0 g2 :=
 Loop.of h
theorem QUG(a:QO)(b:QO)(hp:Zp (α:=QO) (β:=QO) a b):aK Tryz.prog 109 [(.a (aR.cells Zj a)),(.a (aR.cells Zj b))] (Bi (Z1 a b)):=by
 refine bw KV QP6 Xo 0 0 78 KU (kc QNu (kc xV kn)) (λK =>
 (Bj K a b 0 ([]:List (List Int)) (a.2.2||b.2.2))) (λhb=>?_)
 unfold Zp at hp;simp only[QR,QL,QY]at hp;have ha:=Yl a.1;refine Za a.1 (λr k=>∀(v:List (List Int))(z:Bool),v.length=k->v++(ZE r (b.1.drop k)).1=(ZE a.1 b.1).1->(z||(ZE r (b.1.drop k)).2)=(a.2.2||b.2.2||(ZE a.1 b.1).2)->Bj (λr'=>r'=Bi (Z1 a b)) a b k v z) ?_ ?_ [] _ rfl (by simp) (by simp)
 ·intro v z hv he hz;refine KW _ _ _ _ _ _ ⟨λh=>by simp at h,λ_=>au ?_⟩;unfold Z1;rw[<- he,<- hz];simp[ZE]
 ·intro k x r hk aU hg ih v z hv he hz;by_cases iP:k<b.1.length
  ·obtain⟨y,q,hq⟩:=Ys (l:=b.1) (k:=k) iP;have hx:=xn hk;have hy:=xn hq;refine KW _ _ _ _ _ _ ⟨λ_=>?_,λh=>by simp at h;omega⟩;rw[Int.toNat_natCast,hg,ZG hq,dM (by omega),Q9];refine⟨⟨⟨by omega,aU⟩,⟨by omega,iP⟩,by unfold Zp;omega⟩,room (by omega),ih _ _ (Yd hv) ?_ ?_⟩
   ·rw[<- he,hq,ZE,Zz hq];simp[nI]
   ·rw[<- hz,hq,ZE,Zz hq];simp[nI,Bool.or_assoc]
  ·refine KW _ _ _ _ _ _ ⟨λh=>by simp at h;omega,λ_=>au ?_⟩;unfold Z1;rw[<- he,<- hz,drop_nil (l:=b.1) (by omega)];simp[ZE]
theorem QVe:Qf Tryz.prog KU:=Qi λx h=>QUG x.1 x.2.1 h
end
end Go.Proofs.YtdplaepmjogjjaaGreat.Am

set_option linter.all false
namespace Go.Proofs.YtdplaepmjogjjaaGreat.Am
open Go Sz
end Go.Proofs.YtdplaepmjogjjaaGreat.Am
namespace Go.Proofs.YtdplaepmjogjjaaGreat.Am
open Go Sz
theorem QXt{α:Type}{d:α}{l:List α}{n j:Nat}(h:j<n):aq d (l.take n) j=aq d l j:=by
 simp[aq,List.getD_eq_getElem?_getD,List.getElem?_take,h]
end Go.Proofs.YtdplaepmjogjjaaGreat.Am
namespace Go.Proofs.YtdplaepmjogjjaaGreat.Am
open Go Sz
end Go.Proofs.YtdplaepmjogjjaaGreat.Am
namespace Go.Proofs.YtdplaepmjogjjaaGreat.Am
open Go Sz
end Go.Proofs.YtdplaepmjogjjaaGreat.Am

namespace Go.Proofs.YtdplaepmjogjjaaGreat.Am
open Go Go.RowKit Go.Proofs.YtdplaepmjogjjaaGreat
set_option linter.all false
noncomputable section
variable (K:aB->Prop)
def KX(t:(List aH)):aB:=fQ (.a [(bc aM t)])
def uj:aI:=Qg 74 [(.a Qe)] λx=>(none,KX (Zm x.1))
def QHO:aF:=⟨[],false⟩
def QVd:af :=
 (ag [(.ae [aC 1 (.box 39 0 14),aC 2 (.new 77 [(.n aM)])]),(.ae [ak 3 1 2,an 4 3 1,aC 5 (.build [(.n aM)] [(0,1,4)]),aT 2 5 1]),.ret])
def QFE:List (bm × Md):=[(.l 2 1 true,.b [.d])]
theorem QX8(s:Qc):aK Tryz.prog 74 [(.a (aR.cells Qe s))] (KX (Zm s)):=by
 refine bw QHO QVd QFE 0 0 6 uj kn (λK =>
 K (KX s.2.2.1)) (λhb=>?_)
 exact au rfl
theorem Bk:Qf Tryz.prog uj:=Qi λx _=>QX8 x.1
def uk(t:Bool):aB:=b7 (bE t)
def KY:aI:=Qg 168 [(.a [(.sl aM)]),(.c (.sl [(.sl [TI])]))] λx=>(none,uk (Y0 x.1 x.2.1))
def KZ:aF:=⟨[],false⟩
def Xq:af :=
 (ag [(.ae [aw 17 .lss 16 15]),(.cond 17 .skip (.exit 0)),(.block 1 (ag [(.ae [ab 18 16,aZ 19 14 16 aM,a7 20 19 4,aC 6 (.new 134 (bG aM)),ab 5 18,aT 6 20 4]),(.draw [ab 21 1,ab 22 5,aZ 23 21 22 [(.sl [TI])],ak 24 23 0,an 25 24 1,a9 26 25,ak 27 6 3,an 28 27 1,a9 29 28,aw 30 .neq 26 29] []),(.cond 30 (ag [(.ae [ab 4 (a0 false)]),.ret]) .skip)])),(.ae [aw 31 .add 16 (ar 1),ab 16 31])])
def Xr:List (Nat × Md):=eW [1,14,15,16]
def Xs:af :=
 (ag [(.ae [ab 4 (a0 true)]),.ret])
def QX3:af :=
 (ag [(.ae [aC 2 (.box 77 0 1),ab 4 (a0 false)]),(ag [(.ae [ab 7 1,a9 8 7,ak 9 2 0,an 10 9 1,a9 11 10,aw 12 .neq 8 11]),(.cond 12 (ag [(.ae [ab 4 (a0 false)]),.ret]) .skip)]),(ag [(.ae [ak 13 2 0,an 14 13 1,a9 15 14,ab 16 (ar 0)]),(.block 0 (.loop Xr Xq))]),Xs])
def Xt:List (bm × Md):=[(.t 4,.one .d)]
def Xu:Qb:=TQ 0 0 Xt K
def QJR:Qb:=aY (aN KZ 0 Xs (Xu K)) (Xu K)
def QJJ:Qb:=a6 0 (QJR K)
def Bl(m:List aH)(rows:List (List Int))(x:Int):Prop:=Loop KZ 0 Xr Xq (QJJ K) ⟨[(1,(bc [(.sl [TI])] rows)),(14,(bc aM m)),(15,(aL (m.length:Int))),(16,(aL x))],[],0⟩
theorem Xv(m:List aH)(rows:List (List Int))(x:Int) (h :
 (aJ (decide (x<(m.length:Int))) ((0<=x/\Int.toNat x<m.length)/\((0<=x/\Int.toNat x<rows.length)/\(aJ (((aq ([]:List Int) rows (Int.toNat x)).length:Int) != (((aq b6 m (Int.toNat x)).2.2.2).length:Int)) (K (uk false)) (Bl K m rows (aG (x+1)))))) (K (uk true)))):Bl K m rows x :=
 Loop.of h
theorem QIJ(m:List aH)(rows:List (List Int)):aK Tryz.prog 168 [(.a [(.c (.sl aM) m)]),(.c (.sl [(.sl [TI])]) rows)] (uk (Y0 m rows)):=by
 refine bw KZ QX3 Xt 0 0 32 KY kn (λK =>
 (aJ ((rows.length:Int) != (m.length:Int)) (K (uk false)) (Bl K m rows 0))) (λhb=>?_)
 have l7:(m).length<=9223372036854775807:=hb.1.1.1;have nU:rows.length<=9223372036854775807:=hb.2.1.1;refine⟨λh=>au (by grind[Y0]),λh=>?_⟩;have hl:rows.length=m.length:=by
  have:((rows.length:Int)==(m.length:Int))=true:=by simpa[bne]using h
  have:=of_decide_eq_true (by simpa using this:decide ((rows.length:Int)=m.length)=true);omega
 refine Za m (λr k=>YR r (rows.drop k)=YR m rows->Bl (λr'=>r'=uk (Y0 m rows)) m rows k) ?_ ?_ rfl
 ·intro he;refine Xv _ _ _ _ ⟨λh=>by simp at h,λ_=>au ?_⟩;grind[Y0,YR]
 ·intro k x r hk aU hg ih he;obtain⟨y,q,hq⟩:∃ y q,rows.drop k=y::q:=by
   cases hq:rows.drop k with
   | nil=>have:=congrArg List.length hq;simp at this;omega
   | cons y q=>exact⟨y,q,rfl⟩
  refine Xv _ _ _ _ ⟨λ_=>?_,λh=>by simp at h;omega⟩;rw[Int.toNat_natCast,hg,ZG hq,QG (x:=(k:Int)+1) (by omega) (by omega)];rw[hq,YR]at he;rw[Zz hq]at ih;refine⟨⟨by omega,aU⟩,⟨by omega,by omega⟩,λh=>au ?_,λh=>ih ?_⟩
  ·grind[Y0]
  ·grind
theorem QNq:Qf Tryz.prog KY:=Qi λx _=>QIJ x.1 x.2.1
def um(t:Bool):aB:=b7 (bE t)
def Bm:aI:=Qg 110 [(.c (.sl aM)),(.c (.sl [(.sl [TI])])),(.c TI)] λx=>(some (xt x.1 x.2.1 x.2.2.1),um (ZS x.1 x.2.1 x.2.2.1))
def uo:aF:=⟨[Ju],false⟩
def Xw:af :=
 (ag [(.ae [ab 30 1,ab 31 7,aZ 32 30 31 [(.sl [TI])],ak 33 32 0,an 34 33 1,ab 35 8,aD 36 100 [34,35],bL 37 36]),(.cond 37 (ag [(.ae [ab 6 (a0 false)]),.ret]) .skip)])
def QLx:List (Nat × Md):=eW [0,1,2,7,8]
def QWg:af:=.wk QLx Xw
def Xx:af :=
 (.ae [ab 12 7,aw 13 .add 12 (ar 1),ab 7 13])
def K0:af :=
 (ag [(ag [(.ae [ab 9 7,ab 10 2,aw 11 .lss 9 10]),(.cond 11 .skip (.exit 0))]),(.block 1 (ag [(.ae [ab 14 0,ab 15 0,a9 16 15,aw 17 .sub 16 (ar 1),aZ 18 14 17 aM,ak 19 18 2,an 20 19 1,ab 8 20]),(ag [(.ae [ab 21 7,ab 22 0,a9 23 22,aw 24 .lss 21 23]),(.cond 24 (.ae [ab 25 0,ab 26 7,aZ 27 25 26 aM,ak 28 27 1,an 29 28 1,ab 8 29]) .skip)]),QWg])),Xx])
def Bn:List (Nat × Md):=eW [0,1,2,7]
def Xy:af :=
 (ag [(.ae [ab 6 (a0 true)]),.ret])
def QTZ:af :=
 (ag [(.ae [ab 6 (a0 false)]),(ag [(.ae [ab 7 (ar 0)]),(.block 0 (.loop Bn K0))]),Xy])
def Xz:List (bm × Md):=[(.t 6,.one .d)]
def XA:Qb:=TQ 0 0 Xz K
def QS9:Qb:=aY (aN uo 0 Xy (XA K)) (XA K)
def K2:Qb:=a6 0 (QS9 K)
def XB:Qb:=aY (λs'=>Loop uo 0 Bn K0 (K2 K) (gc 0 Bn s')) (K2 K)
def QPD:Qb:=aY (aN uo 0 Xx (XB K)) (XB K)
def QJa:Qb:=a6 1 (QPD K)
@[irreducible] def Bo(ops:List aH)(rows:List (List Int))(n:Int)(size:Int)(i:Int):Prop:=aN uo 0 Xw (QJa K) ⟨[(0,(bc aM ops)),(1,(bc [(.sl [TI])] rows)),(2,(aL n)),(7,(aL i)),(8,(aL size))],[],0⟩
def Bp(ops:List aH)(rows:List (List Int))(n:Int)(i:Int):Prop:=Loop uo 0 Bn K0 (K2 K) ⟨[(0,(bc aM ops)),(1,(bc [(.sl [TI])] rows)),(2,(aL n)),(7,(aL i))],[],0⟩
theorem QWm(ops:List aH)(rows:List (List Int))(n:Int)(size:Int)(i:Int) (h :
 ((0<=i/\Int.toNat i<rows.length)/\(aJ (!(QH (aq ([]:List Int) rows (Int.toNat i)) size)) (K (um false)) (Bp K ops rows n (aG (i+1)))))):du (Bo K ops rows n size i) :=
 du.of h
theorem XC(ops:List aH)(rows:List (List Int))(n:Int)(i:Int) (h :
 (aJ (decide (i<n)) ((0<=aG ((ops.length:Int)-1)/\Int.toNat (aG ((ops.length:Int)-1))<ops.length)/\(aJ (decide (i<(ops.length:Int))) ((0<=i/\Int.toNat i<ops.length)/\(Bo K ops rows n ((aq b6 ops (Int.toNat i)).2.1) i)) (Bo K ops rows n ((aq b6 ops (Int.toNat (aG ((ops.length:Int)-1)))).2.2.1) i))) (K (um true)))):Bp K ops rows n i :=
 Loop.of h
theorem QOS(ops:List aH)(rows:List (List Int))(n:Int)(hp:xt ops rows n):aK Tryz.prog 110 [(.c (.sl aM) ops),(.c (.sl [(.sl [TI])]) rows),(.c TI n)] (um (ZS ops rows n)):=by
 refine bw uo QTZ Xz 0 0 38 Bm (kc JU kn) (λK =>
 (Bp K ops rows n 0)) (λhb=>?_)
 have so:ops.length<=9223372036854775807:=hb.1.1;have nU:rows.length<=9223372036854775807:=hb.2.1.1;have:=QNT rows 0 n (Int.le_refl 0) hp.2.1 hp.2.2 (λr k=>YF ops k r=(ZS ops rows n)->Bp (λr'=>r'=um (ZS ops rows n)) ops rows n k) ?_ ?_ (by simp[ZS,slice])
 ·exact this
 ·intro he;refine XC _ _ _ _ _ ⟨λh=>by simp at h;omega,λ_=>au ?_⟩;simpa[YF]using he
 ·intro k x r h1 h2 aU hg ih he;have e:=rB hp.1 so;have key:Bo (λr'=>r'=um (ZS ops rows n)) ops rows n (YY ops k) k:=by
   refine(QWm _ _ _ _ _ _ ?_).h;rw[Int.toNat_natCast,hg,QG (x:=(k:Int)+1) (by omega) (by omega)];rw[YF]at he;refine⟨⟨by omega,aU⟩,λh=>au ?_,λh=>ih ?_⟩ <;> grind
  refine XC _ _ _ _ _ ⟨λ_=>?_,λh=>by simp at h;omega⟩;rw[e.1,Int.toNat_natCast];refine⟨⟨e.2,by have:=hp.1;omega⟩,λh=>⟨⟨by omega,by simpa using h⟩,?_⟩,λh=>?_⟩
  ·rw[YY,if_pos (by simpa using h)]at key;exact key
  ·rw[YY,if_neg (by simpa using h)]at key;exact key
theorem XD:Qf Tryz.prog Bm:=Qi λx h=>QOS x.1 x.2.1 x.2.2.1 h
def nV(t:Bool):aB:=b7 (bE t)
def uq:aI:=Qg 72 [(.a Qe)] λx=>(none,nV (QU x.1))
def Bq:aF:=⟨[uj,uf,KY,Bm,xQ,xR,IU],false⟩
def XE:af :=
 (ag [(.ae [aw 45 .lss 44 43]),(.cond 45 .skip (.exit 0)),(.block 1 (ag [(.ae [aZ 46 42 44 QE,a7 47 46 2,aC 6 (.new 108 (bG QE)),aT 6 47 2]),(.ae [ak 48 6 1,an 49 48 1,a9 50 49,ab 51 4,aw 52 .neq 50 51,ab 53 52,.bt 53 false [ak 54 1 2,an 55 54 1,ak 56 6 1,an 57 56 1,ab 58 4,aD 59 110 [55,57,58],bL 60 59] 61 60]),(.cond 61 (ag [(.ae [ab 2 (a0 false)]),.ret]) .skip)])),(.ae [aw 62 .add 44 (ar 1),ab 44 62])])
def XF:List (Nat × Md):=[(1,.b (dH 14)),(3,.b [.d]),(4,.one .d),(42,.one .d),(43,.one .d),(44,.one .d)]
def XG:af :=
 (ag [(.draw [a7 63 3 1,aD 64 101 [63],a7 65 3 1,aD 66 102 [65],ab 7 64,ab 8 66] [(1,2)]),(.ae [ak 67 1 7,an 68 67 1,ab 69 7,aD 70 169 [68,69],ab 71 70,.bt 71 true [ak 72 1 10,an 73 72 1,ab 74 7,aD 75 169 [73,74]] 76 75,ab 77 76,.bt 77 true [ak 78 1 8,an 79 78 1,ab 80 8,aD 81 169 [79,80]] 82 81,ab 83 82,.bt 83 true [ak 84 1 9,an 85 84 1,ab 86 8,aD 87 169 [85,86]] 88 87,ab 2 88]),.ret])
def XH:af :=
 (ag [(ag [(.ae [ak 41 1 5,an 42 41 1,a9 43 42,ab 44 (ar 0)]),(.block 0 (.loop XF XE))]),XG])
def QQ2:List (Nat × Md):=[(1,.b (dH 14)),(3,.b [.d]),(4,.one .d)]
def QK2:af:=.wk QQ2 XH
def QTC:af :=
 (ag [(.ae [aC 1 (.box 39 0 14),ab 2 (a0 false)]),(.ae [a7 9 1 14,aD 10 74 [9],aC 3 (.new 77 [(.n aM)]),aT 3 10 1]),(ag [(.ae [a7 11 3 1,aD 12 167 [11],bL 13 12,ab 14 13,.bt 14 false [ak 15 1 0,an 16 15 1,aw 17 .lss 16 (ar 0)] 18 17,ab 19 18,.bt 19 false [ak 20 1 0,an 21 20 1,ak 22 1 1,an 23 22 1,a9 24 23,aw 25 .gtr 21 24] 26 25,ab 27 26,.bt 27 false [a7 28 3 1,ak 29 1 11,ak 30 29 0,an 31 30 1,aD 32 168 [28,31],bL 33 32] 34 33]),(.cond 34 (ag [(.ae [ab 2 (a0 false)]),.ret]) .skip)]),(.ae [ak 35 1 2,an 36 35 1,a9 37 36,aw 38 .add 37 (ar 1),ab 4 38]),(ag [(.ae [ak 39 1 4,an 40 39 1]),(.cond 40 (.ae [ab 4 (ar 1)]) .skip)]),QK2])
def XI:List (bm × Md):=[(.t 2,.one .d)]
def K3:Qb:=TQ 0 0 XI K
def QU7:Qb:=aY (aN Bq 0 XG (K3 K)) (K3 K)
def QT7:Qb:=a6 0 (QU7 K)
def yc(s:Qc)(kept:Int)(x:Int):Prop:=Loop Bq 0 XF XE (QT7 K) ⟨[(1,(.p 0 0 0)),(3,(.p 1 0 0)),(4,(aL kept)),(42,(bc QE s.2.2.2.2.2.1)),(43,(aL ((s.2.2.2.2.2.1).length:Int))),(44,(aL x))],[(0,(.box (aR.cells Qe s))),(1,(.box [(bc aM (Zm s))]))],2⟩
@[irreducible] def K4(s:Qc)(kept:Int):Prop:=aN Bq 0 XH (K3 K) ⟨[(1,(.p 0 0 0)),(3,(.p 1 0 0)),(4,(aL kept))],[(0,(.box (aR.cells Qe s))),(1,(.box [(bc aM (Zm s))]))],2⟩
theorem XJ(s:Qc)(kept:Int)(x:Int) (h :
 (aJ (decide (x<((s.2.2.2.2.2.1).length:Int))) ((0<=x/\Int.toNat x<(s.2.2.2.2.2.1).length)/\(((!((((aq QT s.2.2.2.2.2.1 (Int.toNat x)).2).length:Int) != kept))=true->(xt s.2.2.1 ((aq QT s.2.2.2.2.2.1 (Int.toNat x)).2) kept))/\(aJ (((((aq QT s.2.2.2.2.2.1 (Int.toNat x)).2).length:Int) != kept)||(!(ZS s.2.2.1 ((aq QT s.2.2.2.2.2.1 (Int.toNat x)).2) kept))) (K (nV false)) (yc K s kept (aG (x+1)))))) (K (nV ((((Yn s.2.2.2.2.2.2.2.1 (ZM (Zm s)))&&(Yn s.2.2.2.2.2.2.2.2.2.2.1 (ZM (Zm s))))&&(Yn s.2.2.2.2.2.2.2.2.1 (Zu (Zm s))))&&(Yn s.2.2.2.2.2.2.2.2.2.1 (Zu (Zm s)))))))):yc K s kept x :=
 Loop.of h
theorem XK(s:Qc)(kept:Int) (h :
 (yc K s kept 0)):du (K4 K s kept) :=
 du.of h
theorem QPM(s:Qc):aK Tryz.prog 72 [(.a (aR.cells Qe s))] (nV (QU s)):=by
 refine bw Bq QTC XI 0 0 89 uq (kc Bk (kc A6 (kc QNq (kc XD (kc Ka (kc Kb (kc QLT kn))))))) (λK =>
 (aJ ((((!(Zc (Zm s)))||(decide (s.1<0)))||(decide (s.1>((s.2.1).length:Int))))||(!(Y0 (Zm s) s.2.2.2.2.2.2.2.2.2.2.2.1))) (K (nV false)) (aJ s.2.2.2.2.1 (K4 K s 1) (K4 K s (aG (((s.2.2.1).length:Int)+1)))))) (λhb=>?_)
 have sq:(s.2.1).length<=9223372036854775807:=hb.1.2.1.1;have sr:(s.2.2.1).length<=9223372036854775807:=hb.1.2.2.1.1;have su:(s.2.2.2.2.2.1).length<=9223372036854775807:=hb.1.2.2.2.2.2.1.1;have sv:(s.2.2.2.2.2.2.1).length<=9223372036854775807:=hb.1.2.2.2.2.2.2.1.1;have sw:(s.2.2.2.2.2.2.2.1).length<=9223372036854775807:=hb.1.2.2.2.2.2.2.2.1.1;have sx:(s.2.2.2.2.2.2.2.2.1).length<=9223372036854775807:=hb.1.2.2.2.2.2.2.2.2.1.1;have sy:(s.2.2.2.2.2.2.2.2.2.1).length<=9223372036854775807:=hb.1.2.2.2.2.2.2.2.2.2.1.1;have nW:(s.2.2.2.2.2.2.2.2.2.2.1).length<=9223372036854775807:=hb.1.2.2.2.2.2.2.2.2.2.2.1.1;have nX:(s.2.2.2.2.2.2.2.2.2.2.2.1).length<=9223372036854775807:=hb.1.2.2.2.2.2.2.2.2.2.2.2.1.1;refine⟨λh=>au (by grind[QU,bh]),λh=>?_⟩;have h0:Zc s.2.2.1=true/\bh s.1 0 s.2.1.length=true/\Y0 s.2.2.1 s.2.2.2.2.2.2.2.2.2.2.2.1=true:=by grind[bh]
 have hm:=Yv h0.1;have hk:1<=ZH s/\ZH s<=9:=by unfold ZH;split <;> omega
 have key:yc (λr'=>r'=nV (QU s)) s (ZH s) ((0:Nat):Int):=by
  refine Za s.2.2.2.2.2.1 (λr k=>r.all (Yi s)=s.2.2.2.2.2.1.all (Yi s)->yc (λr'=>r'=nV (QU s)) s (ZH s) k) ?_ ?_ rfl
  ·intro he;refine XJ _ _ _ _ ⟨λh=>by simp at h,λ_=>au ?_⟩;grind[QU]
  ·intro k x r gq aU hg ih he;refine XJ _ _ _ _ ⟨λ_=>?_,λh=>by simp at h;omega⟩;rw[Int.toNat_natCast,hg,QG (x:=(k:Int)+1) (by omega) (by omega)];refine⟨⟨by omega,aU⟩,λh=>?_,λh=>au ?_,λh=>ih ?_⟩
   ·have:(x.2.length:Int)=ZH s:=by simpa using h
    exact⟨hm.1,by omega,by omega⟩
   ·grind[QU,Yi]
   ·grind[Yi]
 refine⟨λh1=>?_,λh1=>?_⟩
 ·have e:ZH s=1:=by simp[ZH,h1]
  rw[e]at key;exact(XK (λr'=>r'=nV (QU s)) s _ key).h
 ·have e:ZH s=s.2.2.1.length+1:=by simp[ZH,h1]
  rw[QG (x:=(s.2.2.1.length:Int)+1) (by omega) (by omega)];rw[e]at key;exact(XK (λr'=>r'=nV (QU s)) s _ key).h
theorem Br:Qf Tryz.prog uq:=Qi λx _=>QPM x.1
def Jx(t:Bool):aB:=b7 (bE t)
def ur:aI:=Qg 63 [(.a Qe)] λx=>(none,Jx (QU x.1))
def pe:aF:=⟨[I7,YQ,Yy,IW],false⟩
def XL:af :=
 (ag [(ag [(.ae [ab 47 5,ak 48 1 2,an 49 48 1,a9 50 49,aw 51 .lss 47 50]),(.cond 51 .skip (.exit 0))]),(.block 1 (ag [(.draw [ak 54 1 11,ak 55 54 0,an 56 55 1,ab 57 5,aZ 58 56 57 [(.sl [TI])],ak 59 58 0,an 60 59 1,a9 61 60,ak 62 1 2,an 63 62 1,ab 64 5,aZ 65 63 64 aM,ak 66 65 3,an 67 66 1,a9 68 67,aw 69 .neq 61 68] []),(.cond 69 (ag [(.ae [ab 2 (a0 false)]),.ret]) .skip)])),(.ae [ab 52 5,aw 53 .add 52 (ar 1),ab 5 53])])
def XM:List (Nat × Md):=[(1,.b (dH 14)),(3,.one .d),(4,.one .d),(5,.one .d)]
def XN:af :=
 (ag [(ag [(.ae [ab 126 8,ab 127 7,a9 128 127,aw 129 .lss 126 128]),(.cond 129 .skip (.exit 4))]),(.block 5 (ag [(.draw [ab 132 7,ab 133 8,aZ 134 132 133 [(.sl [TI])],ak 135 134 0,an 136 135 1,aD 137 97 [136],bL 138 137,ab 139 138,.bt 139 false [ab 140 7,ab 141 8,aZ 142 140 141 [(.sl [TI])],ak 143 142 0,an 144 143 1,a9 145 144,ak 146 1 2,an 147 146 1,ab 148 8,aw 149 .sub 148 (ar 1),aZ 150 147 149 aM,ak 151 150 2,an 152 151 1,aw 153 .neq 145 152] 154 153] []),(.cond 154 (ag [(.ae [ab 2 (a0 false)]),.ret]) .skip)])),(.ae [ab 130 8,aw 131 .add 130 (ar 1),ab 8 131])])
def XO:List (Nat × Md):=[(1,.b (dH 14)),(3,.one .d),(4,.one .d),(6,.one .d),(7,.one .d),(8,.one .d)]
def XP:af :=
 (.ae [ab 75 6,aw 76 .add 75 (ar 1),ab 6 76])
def K5:af :=
 (ag [(ag [(.ae [ab 70 6,ak 71 1 5,an 72 71 1,a9 73 72,aw 74 .lss 70 73]),(.cond 74 .skip (.exit 2))]),(.block 3 (ag [(.ae [ak 77 1 5,an 78 77 1,ab 79 6,aZ 80 78 79 QE,ak 81 80 1,an 82 81 1,ab 7 82]),(ag [(.ae [ab 83 7,a9 84 83,aw 85 .eql 84 (ar 0),ab 86 85,.bt 86 false [ab 87 7,aZ 88 87 (ar 0) [(.sl [TI])],ak 89 88 0,an 90 89 1,aD 91 97 [90],bL 92 91] 93 92,ab 94 93,.bt 94 false [ab 95 7,aZ 96 95 (ar 0) [(.sl [TI])],ak 97 96 0,an 98 97 1,a9 99 98,ab 100 3,aw 101 .neq 99 100] 102 101,ab 103 102,.bt 103 false [ak 104 1 4,an 105 104 1,bL 106 105,ab 107 106,.bt 107 true [ab 108 7,a9 109 108,ak 110 1 2,an 111 110 1,a9 112 111,aw 113 .add 112 (ar 1),aw 114 .neq 109 113] 115 114] 116 115,ab 117 116,.bt 117 false [ak 118 1 4,an 119 118 1,ab 120 119,.bt 120 true [ab 121 7,a9 122 121,aw 123 .neq 122 (ar 1)] 124 123] 125 124]),(.cond 125 (ag [(.ae [ab 2 (a0 false)]),.ret]) .skip)]),(.ae [ab 8 (ar 1)]),(.block 4 (.loop XO XN))])),XP])
def Bs:List (Nat × Md):=[(1,.b (dH 14)),(3,.one .d),(4,.one .d),(6,.one .d)]
def XQ:af :=
 (ag [(.ae [ak 155 1 7,an 156 155 1,ab 157 3,aD 158 159 [156,157],ab 159 158,.bt 159 true [ak 160 1 8,an 161 160 1,ab 162 4,aD 163 159 [161,162]] 164 163,ab 165 164,.bt 165 true [ak 166 1 9,an 167 166 1,ab 168 4,aD 169 159 [167,168]] 170 169,ab 171 170,.bt 171 true [ak 172 1 10,an 173 172 1,ab 174 3,aD 175 159 [173,174]] 176 175,ab 2 176]),.ret])
def XR:af :=
 (ag [(ag [(.ae [ab 6 (ar 0)]),(.block 2 (.loop Bs K5))]),XQ])
def QQd:af :=
 (ag [(.ae [aC 1 (.box 39 0 14),ab 2 (a0 false)]),(ag [(.ae [ak 9 1 2,an 10 9 1,aC 11 (.build [(.n aM)] [(0,1,10)]),aD 12 157 [11],bL 13 12,ab 14 13,.bt 14 false [ak 15 1 0,an 16 15 1,ak 17 1 1,an 18 17 1,a9 19 18,aD 20 158 [16,(ar 0),19],bL 21 20] 22 21,ab 23 22,.bt 23 false [ak 24 1 11,ak 25 24 0,an 26 25 1,a9 27 26,ak 28 1 2,an 29 28 1,a9 30 29,aw 31 .neq 27 30] 32 31]),(.cond 32 (ag [(.ae [ab 2 (a0 false)]),.ret]) .skip)]),(.ae [ak 33 1 2,an 34 33 1,aZ 35 34 (ar 0) aM,ak 36 35 1,an 37 36 1,ab 3 37]),(.ae [ak 38 1 2,an 39 38 1,ak 40 1 2,an 41 40 1,a9 42 41,aw 43 .sub 42 (ar 1),aZ 44 39 43 aM,ak 45 44 2,an 46 45 1,ab 4 46]),(ag [(.ae [ab 5 (ar 0)]),(.block 0 (.loop XM XL))]),XR])
def XS:List (bm × Md):=[(.t 2,.one .d)]
def Bt:Qb:=TQ 0 0 XS K
def QOT:Qb:=aY (aN pe 0 XQ (Bt K)) (Bt K)
def K6:Qb:=a6 2 (QOT K)
def XT:Qb:=aY (λs'=>Loop pe 0 Bs K5 (K6 K) (gc 0 Bs s')) (K6 K)
def QL9:Qb:=aY (aN pe 0 XP (XT K)) (XT K)
def QU0:Qb:=a6 3 (QL9 K)
def QNw:Qb:=a6 4 (QU0 K)
def Bu(s:Qc)(k:Int)(i1:Int):Prop:=Loop pe 0 XO XN (QNw K) ⟨[(1,(.p 0 0 0)),(3,(aL ((aq b6 s.2.2.1 (Int.toNat 0)).2.1))),(4,(aL ((aq b6 s.2.2.1 (Int.toNat (aG (((s.2.2.1).length:Int)-1)))).2.2.1))),(6,(aL i1)),(7,(bc [(.sl [TI])] ((aq QT s.2.2.2.2.2.1 (Int.toNat i1)).2))),(8,(aL k))],[(0,(.box (aR.cells Qe s)))],1⟩
def yd(s:Qc)(i1:Int):Prop:=Loop pe 0 Bs K5 (K6 K) ⟨[(1,(.p 0 0 0)),(3,(aL ((aq b6 s.2.2.1 (Int.toNat 0)).2.1))),(4,(aL ((aq b6 s.2.2.1 (Int.toNat (aG (((s.2.2.1).length:Int)-1)))).2.2.1))),(6,(aL i1))],[(0,(.box (aR.cells Qe s)))],1⟩
def QLv:Qb:=aY (aN pe 0 XR (Bt K)) (Bt K)
def QPK:Qb:=a6 0 (QLv K)
def Bv(s:Qc)(i:Int):Prop:=Loop pe 0 XM XL (QPK K) ⟨[(1,(.p 0 0 0)),(3,(aL ((aq b6 s.2.2.1 (Int.toNat 0)).2.1))),(4,(aL ((aq b6 s.2.2.1 (Int.toNat (aG (((s.2.2.1).length:Int)-1)))).2.2.1))),(5,(aL i))],[(0,(.box (aR.cells Qe s)))],1⟩
theorem XU(s:Qc)(k:Int)(i1:Int) (h :
 (aJ (decide (k<(((aq QT s.2.2.2.2.2.1 (Int.toNat i1)).2).length:Int))) (((0<=k/\Int.toNat k<((aq QT s.2.2.2.2.2.1 (Int.toNat i1)).2).length)/\((!(!(QK (aq ([]:List Int) ((aq QT s.2.2.2.2.2.1 (Int.toNat i1)).2) (Int.toNat k)))))=true->((0<=k/\Int.toNat k<((aq QT s.2.2.2.2.2.1 (Int.toNat i1)).2).length)/\(0<=aG (k-1)/\Int.toNat (aG (k-1))<(s.2.2.1).length))))/\(aJ ((!(QK (aq ([]:List Int) ((aq QT s.2.2.2.2.2.1 (Int.toNat i1)).2) (Int.toNat k))))||(((aq ([]:List Int) ((aq QT s.2.2.2.2.2.1 (Int.toNat i1)).2) (Int.toNat k)).length:Int) != ((aq b6 s.2.2.1 (Int.toNat (aG (k-1)))).2.2.1))) (K (Jx false)) (Bu K s (aG (k+1)) i1))) (yd K s (aG (i1+1))))):Bu K s k i1 :=
 Loop.of h
theorem XV(s:Qc)(i1:Int) (h :
 let z1:=aq QT s.2.2.2.2.2.1 (Int.toNat i1)
 let z2:=aq ([]:List Int) (z1.2) (Int.toNat 0)
 let z3:=aq b6 s.2.2.1 (Int.toNat 0)
 let z4:=aq b6 s.2.2.1 (Int.toNat (aG (((s.2.2.1).length:Int)-1)))
 (aJ (decide (i1<((s.2.2.2.2.2.1).length:Int))) ((0<=i1/\Int.toNat i1<(s.2.2.2.2.2.1).length)/\((((!(((z1.2).length:Int)==0))=true->((0:Int)<=0/\Int.toNat 0<(z1.2).length))/\((!((((z1.2).length:Int)==0)||(!(QK z2))))=true->((0:Int)<=0/\Int.toNat 0<(z1.2).length)))/\(aJ (((((((z1.2).length:Int)==0)||(!(QK z2)))||((z2.length:Int) != (z3.2.1)))||((!s.2.2.2.2.1)&&(((z1.2).length:Int) != (aG (((s.2.2.1).length:Int)+1)))))||(s.2.2.2.2.1&&(((z1.2).length:Int) != 1))) (K (Jx false)) (Bu K s 1 i1)))) (K (Jx ((((Yn s.2.2.2.2.2.2.2.1 (z3.2.1))&&(Yn s.2.2.2.2.2.2.2.2.1 (z4.2.2.1)))&&(Yn s.2.2.2.2.2.2.2.2.2.1 (z4.2.2.1)))&&(Yn s.2.2.2.2.2.2.2.2.2.2.1 (z3.2.1))))))):yd K s i1 :=
 Loop.of h
theorem XW(s:Qc)(i:Int) (h :
 (aJ (decide (i<((s.2.2.1).length:Int))) (((0<=i/\Int.toNat i<(s.2.2.2.2.2.2.2.2.2.2.2.1).length)/\(0<=i/\Int.toNat i<(s.2.2.1).length))/\(aJ (((aq ([]:List Int) s.2.2.2.2.2.2.2.2.2.2.2.1 (Int.toNat i)).length:Int) != (((aq b6 s.2.2.1 (Int.toNat i)).2.2.2).length:Int)) (K (Jx false)) (Bv K s (aG (i+1))))) (yd K s 0))):Bv K s i :=
 Loop.of h
theorem QOD(s:Qc):aK Tryz.prog 63 [(.a (aR.cells Qe s))] (Jx (QU s)):=by
 refine bw pe QQd XS 0 0 177 ur (kc QRP (kc Jo (kc YL (kc QOk kn)))) (λK =>
 (aJ (((!(Zc s.2.2.1))||(!(bh s.1 (0:Int) ((s.2.1).length:Int))))||(((s.2.2.2.2.2.2.2.2.2.2.2.1).length:Int) != ((s.2.2.1).length:Int))) (K (Jx false)) (((0:Int)<=0/\Int.toNat 0<(s.2.2.1).length)/\((0<=aG (((s.2.2.1).length:Int)-1)/\Int.toNat (aG (((s.2.2.1).length:Int)-1))<(s.2.2.1).length)/\(Bv K s 0))))) (λhb=>?_)
 have sq:(s.2.1).length<=9223372036854775807:=hb.1.2.1.1;have sr:(s.2.2.1).length<=9223372036854775807:=hb.1.2.2.1.1;have su:(s.2.2.2.2.2.1).length<=9223372036854775807:=hb.1.2.2.2.2.2.1.1;have sv:(s.2.2.2.2.2.2.1).length<=9223372036854775807:=hb.1.2.2.2.2.2.2.1.1;have sw:(s.2.2.2.2.2.2.2.1).length<=9223372036854775807:=hb.1.2.2.2.2.2.2.2.1.1;have sx:(s.2.2.2.2.2.2.2.2.1).length<=9223372036854775807:=hb.1.2.2.2.2.2.2.2.2.1.1;have sy:(s.2.2.2.2.2.2.2.2.2.1).length<=9223372036854775807:=hb.1.2.2.2.2.2.2.2.2.2.1.1;have nW:(s.2.2.2.2.2.2.2.2.2.2.1).length<=9223372036854775807:=hb.1.2.2.2.2.2.2.2.2.2.2.1.1;have nX:(s.2.2.2.2.2.2.2.2.2.2.2.1).length<=9223372036854775807:=hb.1.2.2.2.2.2.2.2.2.2.2.2.1.1;refine⟨λh=>au (by grind[QU,Y0]),λh=>?_⟩;have h0:Zc s.2.2.1=true/\bh s.1 0 s.2.1.length=true/\s.2.2.2.2.2.2.2.2.2.2.2.1.length=s.2.2.1.length:=by
  have:((s.2.2.2.2.2.2.2.2.2.2.2.1.length:Int) != (s.2.2.1.length:Int))=false:=by grind
  have h3:s.2.2.2.2.2.2.2.2.2.2.2.1.length=s.2.2.1.length:=by
   have h4:((s.2.2.2.2.2.2.2.2.2.2.2.1.length:Int)==(s.2.2.1.length:Int))=true:=by simpa[bne]using this
   have:=of_decide_eq_true (by simpa using h4:decide ((s.2.2.2.2.2.2.2.2.2.2.2.1.length:Int)=s.2.2.1.length)=true);omega
  grind
 have hm:=Yv h0.1;have eo:=rB (n:=s.2.2.1.length) hm.1 (by omega);have ei:ZM s.2.2.1=(aq b6 s.2.2.1 0).2.1:=by simp[ZM,h0.1]
 have eu:Zu s.2.2.1=(aq b6 s.2.2.1 (s.2.2.1.length-1)).2.2.1:=by simp[Zu,h0.1]
 have hk9:1<=ZH s/\ZH s<=s.2.2.1.length+1:=by unfold ZH;split <;> omega
 have saved:Y0 s.2.2.1 s.2.2.2.2.2.2.2.2.2.2.2.1=true->yd (λr'=>r'=Jx (QU s)) s ((0:Nat):Int):=by
  intro hgf;refine Za s.2.2.2.2.2.1 (λr k=>r.all (Yi s)=s.2.2.2.2.2.1.all (Yi s)->yd (λr'=>r'=Jx (QU s)) s k) ?_ ?_ rfl
  ·intro he;refine XV _ _ _ ⟨λh=>by simp at h,λ_=>au ?_⟩;rw[eo.1];grind[QU]
  ·intro k x r hk aU hg ih he;have jW:x.2.length<=9223372036854775807:=by
    have dF:x∈s.2.2.2.2.2.1:=List.mem_of_mem_drop (i:=k) (by rw[hk];exact List.mem_cons_self);exact(hb.1.2.2.2.2.2.1.2 x dF).2.1.1
   have rows:(x.2.length:Int)=ZH s->∀(q:List (List Int))(j:Nat),1<=j->x.2.drop j=q->j<=x.2.length->YF s.2.2.1 j q=Yi s x->Bu (λr'=>r'=Jx (QU s)) s j k:=by
    intro hlen q
    induction q with
    | nil =>
     intro j h1 hj hle iY;have:x.2.length<=j:=by simpa using hj
     refine XU _ _ _ _ ⟨λh=>?_,λ_=>?_⟩
     ·rw[Int.toNat_natCast,hg]at h;simp at h;omega
     ·rw[QG (x:=(k:Int)+1) (by omega) (by omega)];refine ih ?_;simp only[YF]at iY;rw[<- he,List.all_cons,<- iY,Bool.true_and]
    | cons z q ihq =>
     intro j h1 hj hle iY;have mq:=An hj;have e2:=rB h1 (by omega:j<=9223372036854775807);have bV:=QIY h0.1 h1 (by omega:j<=s.2.2.1.length);refine XU _ _ _ _ ⟨λ_=>?_,λh=>?_⟩
     ·rw[Int.toNat_natCast,Int.toNat_natCast,hg,ZG hj,e2.1,QG (x:=(j:Int)+1) (by omega) (by omega)];rw[YF,bV]at iY;refine⟨⟨⟨by omega,mq⟩,λ_=>⟨⟨by omega,mq⟩,e2.2,by omega⟩⟩,λh=>au ?_,λh=>ihq (j+1) (by omega) (Zz hj) mq ?_⟩
      ·have hf:Yi s x=false:=by rw[<- iY];grind[QH]
       have:s.2.2.2.2.2.1.all (Yi s)=false:=by rw[<- he,List.all_cons,hf];rfl
       simp[QU,this]
      ·rw[<- iY];grind[QH]
     ·rw[Int.toNat_natCast,hg]at h;simp at h;omega
   refine XV _ _ _ ⟨λ_=>?_,λh=>by simp at h;omega⟩;rw[Int.toNat_natCast,hg];have bad:Yi s x=false->false=QU s:=by
    intro hf;have:s.2.2.2.2.2.1.all (Yi s)=false:=by rw[<- he,List.all_cons,hf];rfl
    simp[QU,this]
   have ek:aG ((s.2.2.1.length:Int)+1)=s.2.2.1.length+1:=QG (by omega) (by omega);rw[ek]
   cases hx:x.2 with
   | nil =>
    refine⟨⟨by omega,aU⟩,⟨by simp,by simp⟩,λ_=>au (bad ?_),λh=>by simp at h⟩;simp[Yi,hx];omega
   | cons z q =>
    have z0:aq ([]:List Int) (z::q) (Int.toNat 0)=z:=As _ _ _;rw[z0];have bV:YY s.2.2.1 0=(aq b6 s.2.2.1 (Int.toNat 0)).2.1:=QMV h0.1;rw[<- bV];have main:(((q.length+1:Nat):Int)==ZH s)=true->Yi s x=(QH z (YY s.2.2.1 0)&&YF s.2.2.1 1 q):=by
     intro h;have h:((q.length+1:Nat):Int)=ZH s:=by simpa using h
     have e:(z::q).take (ZH s).toNat=z::q:=by rw[List.take_of_length_le];simp;omega
     simp only[Yi,hx,ZS,e,YF];simp;omega
    refine⟨⟨by omega,aU⟩,⟨λ_=>by simp,λ_=>by simp⟩,λh=>au (bad ?_),λh=>?_⟩
    ·by_cases hl:(((q.length+1:Nat):Int)==ZH s)=true
     ·rw[main hl];have hl:((q.length+1:Nat):Int)=ZH s:=by simpa using hl
      unfold ZH at hl;by_cases hr:s.2.2.2.2.1=true
      ·rw[if_pos hr]at hl;simp[hr]at h;grind[QH]
      ·rw[if_neg hr]at hl;simp[hr]at h;grind[QH]
     ·have:(((x.2.length:Nat):Int)==ZH s)=false:=by rw[hx];simpa using hl
      simp[Yi,this]
    ·have hl:((q.length+1:Nat):Int)=ZH s:=by
      unfold ZH;by_cases hr:s.2.2.2.2.1=true
      ·rw[if_pos hr];simp[hr]at h;omega
      ·rw[if_neg hr];simp[hr]at h;omega
     have hv:QH z (YY s.2.2.1 0)=true:=by simp at h;simp[QH,h]
     refine rows (by rw[hx];simpa using hl) q 1 (Nat.le_refl _) (by rw[hx];rfl) (by rw[hx];simp) ?_;rw[main (by simpa using hl),hv,Bool.true_and]
 refine⟨⟨by omega,by simp;omega⟩,⟨eo.2,by rw[eo.1];omega⟩,?_⟩;refine Za s.2.2.1 (λr k=>YR r (s.2.2.2.2.2.2.2.2.2.2.2.1.drop k)=YR s.2.2.1 s.2.2.2.2.2.2.2.2.2.2.2.1->Bv (λr'=>r'=Jx (QU s)) s k) ?_ ?_ rfl
 ·intro he;refine XW _ _ _ ⟨λh=>by simp at h,λ_=>saved ?_⟩;grind[Y0,YR]
 ·intro k x r hk aU hg ih he;obtain⟨y,q,hq⟩:∃ y q,s.2.2.2.2.2.2.2.2.2.2.2.1.drop k=y::q:=by
   cases hq:s.2.2.2.2.2.2.2.2.2.2.2.1.drop k with
   | nil=>have:=congrArg List.length hq;simp at this;omega
   | cons y q=>exact⟨y,q,rfl⟩
  refine XW _ _ _ ⟨λ_=>?_,λh=>by simp at h;omega⟩;rw[Int.toNat_natCast,hg,ZG hq,QG (x:=(k:Int)+1) (by omega) (by omega)];rw[hq,YR]at he;rw[Zz hq]at ih;refine⟨⟨⟨by omega,by omega⟩,by omega,aU⟩,λh=>au ?_,λh=>ih ?_⟩
  ·grind[QU,Y0]
  ·grind
theorem Bw:Qf Tryz.prog ur:=Qi λx _=>QOD x.1
def ye(t:Int):aB:=b7 (aL t)
def yf:aI:=Qg 62 [(.c (.sl QE)),(.c TI)] λx=>(none,ye (QJ x.1 x.2.1))
def K7:aF:=⟨[],false⟩
def XX:af :=
 (ag [(ag [(.ae [ab 6 5,ab 7 0,a9 8 7,aw 9 .lss 6 8]),(.cond 9 .skip (.exit 0))]),(.block 1 (ag [(.ae [ab 12 0,ab 13 5,aZ 14 12 13 QE,ak 15 14 0,an 16 15 1,ab 17 1,aw 18 .eql 16 17]),(.cond 18 (ag [(.ae [ab 19 5,ab 4 19]),.ret]) .skip)])),(.ae [ab 10 5,aw 11 .add 10 (ar 1),ab 5 11])])
def XY:List (Nat × Md):=eW [0,1,5]
def XZ:af :=
 (ag [(.ae [ab 4 (ar (-1))]),.ret])
def QSJ:af :=
 (ag [(.ae [ab 4 (ar 0)]),(ag [(.ae [ab 5 (ar 0)]),(.block 0 (.loop XY XX))]),XZ])
def X0:List (bm × Md):=[(.t 4,.one .d)]
def X1:Qb:=TQ 0 0 X0 K
def QQA:Qb:=aY (aN K7 0 XZ (X1 K)) (X1 K)
def QFz:Qb:=a6 0 (QQA K)
def Bx(l:List QD)(m:Int)(i:Int):Prop:=Loop K7 0 XY XX (QFz K) ⟨[(0,(bc QE l)),(1,(aL m)),(5,(aL i))],[],0⟩
theorem X2(l:List QD)(m:Int)(i:Int) (h :
 (aJ (decide (i<(l.length:Int))) ((0<=i/\Int.toNat i<l.length)/\(aJ (((aq QT l (Int.toNat i)).1)==m) (K (ye i)) (Bx K l m (aG (i+1))))) (K (ye (-1:Int))))):Bx K l m i :=
 Loop.of h
theorem QRQ(l:List QD)(m:Int):aK Tryz.prog 62 [(.c (.sl QE) l),(.c TI m)] (ye (QJ l m)):=by
 refine bw K7 QSJ X0 0 0 20 yf kn (λK =>
 (Bx K l m 0)) (λhb=>?_)
 have K8:l.length<=9223372036854775807:=hb.1.1;refine Za l (λr k=>Ji r m k=QJ l m->Bx (λr'=>r'=ye (QJ l m)) l m k) ?_ ?_ rfl
 ·intro he;refine X2 _ _ _ _ ⟨λh=>by simp at h,λ_=>?_⟩;grind[Ji]
 ·intro k x r hk aU hg ih he;refine X2 _ _ _ _ ⟨λ_=>?_,λh=>by simp at h;omega⟩;rw[Int.toNat_natCast,hg,QG (by omega) (by omega)];grind[Ji]
theorem K9:Qf Tryz.prog yf:=Qi λx _=>QRQ x.1 x.2.1
def yg(t:Int):aB:=b7 (aL t)
def yh:aI:=Qg 71 [(.c (.sl QE)),(.c TI)] λx=>(none,yg (QJ x.1 x.2.1))
def La:aF:=⟨[],false⟩
def X3:af :=
 (ag [(.ae [aw 10 .lss 9 8]),(.cond 10 .skip (.exit 0)),(.block 1 (ag [(.ae [ab 11 9,aZ 12 7 9 QE,a7 13 12 2,aC 6 (.new 108 (bG QE)),ab 5 11,aT 6 13 2]),(.ae [ak 14 6 0,an 15 14 1,ab 16 1,aw 17 .eql 15 16]),(.cond 17 (ag [(.ae [ab 18 5,ab 4 18]),.ret]) .skip)])),(.ae [aw 19 .add 9 (ar 1),ab 9 19])])
def X4:List (Nat × Md):=eW [1,7,8,9]
def X5:af :=
 (ag [(.ae [ab 4 (ar (-1))]),.ret])
def QMr:af :=
 (ag [(.ae [ab 4 (ar 0)]),(ag [(.ae [ab 7 0,a9 8 7,ab 9 (ar 0)]),(.block 0 (.loop X4 X3))]),X5])
def X6:List (bm × Md):=[(.t 4,.one .d)]
def X7:Qb:=TQ 0 0 X6 K
def QXX:Qb:=aY (aN La 0 X5 (X7 K)) (X7 K)
def QIh:Qb:=a6 0 (QXX K)
def Bz(l:List QD)(m:Int)(x:Int):Prop:=Loop La 0 X4 X3 (QIh K) ⟨[(1,(aL m)),(7,(bc QE l)),(8,(aL (l.length:Int))),(9,(aL x))],[],0⟩
theorem X8(l:List QD)(m:Int)(x:Int) (h :
 (aJ (decide (x<(l.length:Int))) ((0<=x/\Int.toNat x<l.length)/\(aJ (((aq QT l (Int.toNat x)).1)==m) (K (yg x)) (Bz K l m (aG (x+1))))) (K (yg (-1:Int))))):Bz K l m x :=
 Loop.of h
theorem QGO(l:List QD)(m:Int):aK Tryz.prog 71 [(.c (.sl QE) l),(.c TI m)] (yg (QJ l m)):=by
 refine bw La QMr X6 0 0 20 yh kn (λK =>
 (Bz K l m 0)) (λhb=>?_)
 have K8:l.length<=9223372036854775807:=hb.1.1;refine Za l (λr k=>Ji r m k=QJ l m->Bz (λr'=>r'=yg (QJ l m)) l m k) ?_ ?_ rfl
 ·intro he;refine X8 _ _ _ _ ⟨λh=>by simp at h,λ_=>?_⟩;grind[Ji]
 ·intro k x r hk aU hg ih he;refine X8 _ _ _ _ ⟨λ_=>?_,λh=>by simp at h;omega⟩;rw[Int.toNat_natCast,hg,QG (by omega) (by omega)];grind[Ji]
theorem Lb:Qf Tryz.prog yh:=Qi λx _=>QGO x.1 x.2.1
def Lc(t:Bool):aB:=b7 (bE t)
def uv:aI:=Qg 195 [(.c (.sl [TI])),(.c (.sl [TI]))] λx=>(none,Lc (ZA x.1 x.2.1))
def QL4:aF:=⟨[nQ,Ju],false⟩
def QPo:af :=
 (ag [(.ae [ab 4 (a0 false)]),(.ae [ab 5 0,aD 6 187 [5],ab 7 6,.bt 7 true [ab 8 1,ab 9 0,a9 10 9,aD 11 100 [8,10]] 12 11,ab 4 12]),.ret])
def QGW:List (bm × Md):=[(.t 4,.one .d)]
theorem QI8(a:List Int)(b:List Int):aK Tryz.prog 195 [(.c (.sl [TI]) a),(.c (.sl [TI]) b)] (Lc (ZA a b)):=by
 refine bw QL4 QPo QGW 0 0 13 uv (kc si (kc JU kn)) (λK =>
 K (Lc ((QK a)&&(QH b (a.length:Int))))) (λhb=>?_)
 exact au rfl
theorem BA:Qf Tryz.prog uv:=Qi λx _=>QI8 x.1 x.2.1
def Ld(t:Bool):aB:=b7 (bE t)
def uw:aI:=Qg 191 [(.c (.sl [TI])),(.c (.sl [TI]))] λx=>(none,Ld (ZA x.1 x.2.1))
def QGU:aF:=⟨[Yy],false⟩
def QXd:af :=
 (ag [(.ae [ab 4 (a0 false)]),(.ae [ab 5 0,aD 6 97 [5],ab 7 6,.bt 7 true [ab 8 1,aD 9 97 [8]] 10 9,ab 11 10,.bt 11 true [ab 12 0,a9 13 12,ab 14 1,a9 15 14,aw 16 .eql 13 15] 17 16,ab 4 17]),.ret])
def QJi:List (bm × Md):=[(.t 4,.one .d)]
theorem QFv(a:List Int)(b:List Int):aK Tryz.prog 191 [(.c (.sl [TI]) a),(.c (.sl [TI]) b)] (Ld (ZA a b)):=by
 refine bw QGU QXd QJi 0 0 18 uw (kc YL kn) (λK =>
 K (Ld (((QK a)&&(QK b))&&((a.length:Int)==(b.length:Int))))) (λhb=>?_)
 refine au ?_;rw[Bool.eq_iff_iff];unfold ZA QH;simp only[Bool.and_eq_true,beq_iff_eq];constructor
 ·rintro⟨⟨h1,h2⟩,h3⟩;exact⟨h1,h2,by omega⟩
 ·rintro⟨h1,h2,h3⟩;exact⟨⟨h1,h2⟩,by omega⟩
theorem BB:Qf Tryz.prog uw:=Qi λx _=>QFv x.1 x.2.1
def yi(t:(List Int) × Bool):aB:=⟨(.tp [(.r [TI] 0 0 ((t.1).length)),(bE t.2)]),[(.sl 3 [TI] (.dp 0 true []) t.1)],[],false,[]⟩
def BC:aI:=Qg 231 [(.c (.sl [TI])),(.c (.sl [TI]))] λx=>(none,yi (Zd x.1 x.2.1))
def Le:aF:=⟨[uv,ui],true⟩
def X9:af :=
 (ag [(.ae [aw 19 .lss 18 17]),(.cond 19 .skip (.exit 0)),(.block 1 (ag [(.ae [ab 20 18,ab 8 20]),(.draw [ab 22 0,ab 23 8,aZ 24 22 23 [TI],an 25 24 1,ab 26 1,ab 27 8,aZ 28 26 27 [TI],an 29 28 1,aD 30 106 [25,29],ab 21 30,bF 31 21 0,bF 32 21 1,ab 9 31,ab 10 32] []),(.ae [ab 33 6,ab 34 9,aC 35 (.bW 3 [TI] [34]),aC 36 (.app 33 35 3 [TI]),ab 6 36]),(.ae [ab 37 7,ab 38 37,.bt 38 false [ab 39 10] 40 39,ab 7 40])])),(.ae [aw 41 .add 18 (ar 1),ab 18 41])])
def Qsk:List (Nat × Md):=[(0,.one .d),(1,.one .d),(6,.one .f),(7,.one .d),(17,.one .d),(18,.one .d)]
def Qwx:af :=
 (ag [(.ae [ab 42 6,ab 43 7,ab 4 42,ab 5 43]),.ret])
def QKx:af :=
 (ag [(.ae [ab 4 (.k (.n [TI])),ab 5 (a0 false)]),(ag [(.ae [ab 11 0,ab 12 1,aD 13 195 [11,12],bL 14 13]),(.cond 14 (ag [(.ae [ab 4 (.k (.n [TI])),ab 5 (a0 false)]),.ret]) .skip)]),(.ae [aC 15 (.bW 3 [TI] []),ab 6 15]),(.ae [ab 7 (a0 false)]),(ag [(.ae [ab 16 0,a9 17 16,ab 18 (ar 0)]),(.block 0 (.loop Qsk X9))]),Qwx])
def Qwv:List (bm × Md):=[(.t 4,.one (.p 3)),(.t 5,.one .d)]
def QDy:Qb:=TQ 0 0 Qwv K
def QF2:Qb:=aY (aN Le 0 Qwx (QDy K)) (QDy K)
def QK9:Qb:=a6 0 (QF2 K)
def BD(a:List Int)(b:List Int)(out:Bool)(x:Int)(v:List Int):Prop:=Loop Le 0 Qsk X9 (QK9 K) ⟨[(0,(bc [TI] a)),(1,(bc [TI] b)),(6,(.r [TI] 0 0 v.length)),(7,(bE out)),(17,(aL (a.length:Int))),(18,(aL x))],[(0,(.sl 3 [TI] (.dp 0 true []) v))],1⟩
theorem QxI(a:List Int)(b:List Int)(out:Bool)(x:Int)(v:List Int) (h :
 (aJ (decide (x<(a.length:Int))) (((0<=x/\Int.toNat x<a.length)/\(0<=x/\Int.toNat x<b.length))/\(((v.length=v.length\/v.length+1<=v.length)/\v.length+1<=cc)/\(BD K a b (out||((Q5 (aq (0:Int) a (Int.toNat x)) (aq (0:Int) b (Int.toNat x))).2)) (aG (x+1)) (List.take (v.length+1) ((List.take v.length v)++([(Q5 (aq (0:Int) a (Int.toNat x)) (aq (0:Int) b (Int.toNat x))).1])))))) (K (yi ((List.take v.length v),out))))):BD K a b out x v :=
 Loop.of h
theorem QL7(a:List Int)(b:List Int):aK Tryz.prog 231 [(.c (.sl [TI]) a),(.c (.sl [TI]) b)] (yi (Zd a b)):=by
 refine bw Le QKx Qwv 0 0 44 BC (kc BA (kc Bc kn)) (λK =>
 (aJ (!(ZA a b)) (K (yi (([]:List Int),false))) (BD K a b false 0 ([]:List Int)))) (λhb=>?_)
 refine⟨λh=>au (by unfold Zd;rw[if_neg (by simpa using h)]),λh=>?_⟩;have hp:ZA a b=true:=by simpa using h
 have hl:=o4.1 hp;have h6:=(Yg.1 hl.1).1;refine Za a (λr k=>∀(v:List Int)(s:Bool),v.length=k->(v++(vz Q5 r (b.drop k)).1,s||(vz Q5 r (b.drop k)).2)=(Zd a b)->BD (λr'=>r'=yi (Zd a b)) a b s k v) ?_ ?_ [] false rfl (by unfold Zd;rw[if_pos hp];simp)
 ·intro v s hv he;refine QxI _ _ _ _ _ _ ⟨λh=>by simp at h,λ_=>au ?_⟩;rw[<- he];simp[vz]
 ·intro k x r hk aU hg ih v s hv he;obtain⟨y,q,hq⟩:=Ys (l:=b) (k:=k) (by omega);refine QxI _ _ _ _ _ _ ⟨λ_=>?_,λh=>by simp at h;omega⟩;rw[Int.toNat_natCast,hg,ZG hq,dM (by omega),Q9];refine⟨⟨⟨by omega,aU⟩,by omega,by omega⟩,room (by omega),ih _ _ (Yd hv) ?_⟩;rw[<- he,hq,vz,Zz hq];simp[Bool.or_assoc]
theorem QDA:Qf Tryz.prog BC:=Qi λx _=>QL7 x.1 x.2.1
def BE(t:(List Int) × Bool):aB:=fQ (.tp [(bc [TI] t.1),(bE t.2)])
def BF:aI:=Qg 225 [(.c (.sl [TI])),(.c (.sl [TI]))] λx=>(none,BE (Zd x.1 x.2.1))
def Lf:aF:=⟨[uw,sm],false⟩
def Qx7:af :=
 (ag [(ag [(.ae [ab 12 8,ab 13 0,a9 14 13,aw 15 .lss 12 14,ab 16 15,.bt 16 true [ab 17 0,ab 18 1,aD 19 191 [17,18]] 20 19]),(.cond 20 .skip (.exit 0))]),(.block 1 (ag [(.draw [ab 24 0,ab 25 8,aZ 26 24 25 [TI],an 27 26 1,ab 28 1,ab 29 8,aZ 30 28 29 [TI],an 31 30 1,aD 32 99 [27,31],ab 23 32,bF 33 23 0,bF 34 23 1,ab 9 33,ab 10 34] []),(.ae [ab 35 6,ab 36 9,aC 37 (.bW 3 [TI] [36]),aC 38 (.app 35 37 3 [TI]),ab 6 38]),(.ae [ab 39 7,ab 40 39,.bt 40 false [ab 41 10] 42 41,ab 7 42])])),(.ae [ab 21 8,aw 22 .add 21 (ar 1),ab 8 22])])
def Qq2:List (Nat × Md):=[(0,.one .d),(1,.one .d),(6,.one .f),(7,.one .d),(8,.one .d)]
def QzZ:af :=
 (ag [(.ae [ab 43 6,ab 44 7,ab 4 43,ab 5 44]),.ret])
def QXF:af :=
 (ag [(.ae [ab 4 (.k (.n [TI])),ab 5 (a0 false)]),(.ae [aC 11 (.bW 3 [TI] []),ab 6 11]),(.ae [ab 7 (a0 false)]),(ag [(.ae [ab 8 (ar 0)]),(.block 0 (.loop Qq2 Qx7))]),QzZ])
def QvD:List (bm × Md):=[(.t 4,.one .d),(.t 5,.one .d)]
def Qt7:Qb:=TQ 0 0 QvD K
def QVL:Qb:=aY (aN Lf 0 QzZ (Qt7 K)) (Qt7 K)
def QNJ:Qb:=a6 0 (QVL K)
def BG(a:List Int)(b:List Int)(sat:Bool)(i:Int)(out:List Int):Prop:=Loop Lf 0 Qq2 Qx7 (QNJ K) ⟨[(0,(bc [TI] a)),(1,(bc [TI] b)),(6,(.r [TI] 0 0 out.length)),(7,(bE sat)),(8,(aL i))],[(0,(.sl 3 [TI] .ow out))],1⟩
theorem Lg(a:List Int)(b:List Int)(sat:Bool)(i:Int)(out:List Int) (h :
 (aJ ((decide (i<(a.length:Int)))&&(ZA a b)) (((0<=i/\Int.toNat i<a.length)/\(0<=i/\Int.toNat i<b.length))/\(((out.length=out.length\/out.length+1<=out.length)/\out.length+1<=cc)/\(BG K a b (sat||((Q5 (aq (0:Int) a (Int.toNat i)) (aq (0:Int) b (Int.toNat i))).2)) (aG (i+1)) (List.take (out.length+1) ((List.take out.length out)++([(Q5 (aq (0:Int) a (Int.toNat i)) (aq (0:Int) b (Int.toNat i))).1])))))) (K (BE ((List.take out.length (List.drop 0 out)),sat))))):BG K a b sat i out :=
 Loop.of h
theorem QYG(a:List Int)(b:List Int):aK Tryz.prog 225 [(.c (.sl [TI]) a),(.c (.sl [TI]) b)] (BE (Zd a b)):=by
 refine bw Lf QXF QvD 0 0 45 BF (kc BB (kc xV kn)) (λK =>
 (BG K a b false 0 ([]:List Int))) (λhb=>?_)
 by_cases hp:ZA a b=true;rotate_left
 ·refine Lg _ _ _ _ _ _ ⟨λh=>by simp[hp]at h,λ_=>au (by unfold Zd;rw[if_neg hp];rfl)⟩
 have hl:=o4.1 hp;have h6:=(Yg.1 hl.1).1;refine Za a (λr k=>∀(v:List Int)(s:Bool),v.length=k->(v++(vz Q5 r (b.drop k)).1,s||(vz Q5 r (b.drop k)).2)=(Zd a b)->BG (λr'=>r'=BE (Zd a b)) a b s k v) ?_ ?_ [] false rfl (by unfold Zd;rw[if_pos hp];simp)
 ·intro v s hv he;refine Lg _ _ _ _ _ _ ⟨λh=>by simp at h,λ_=>au ?_⟩;rw[<- he];simp[vz]
 ·intro k x r hk aU hg ih v s hv he;obtain⟨y,q,hq⟩:=Ys (l:=b) (k:=k) (by omega);refine Lg _ _ _ _ _ _ ⟨λ_=>?_,λh=>by simp[hp]at h;omega⟩;rw[Int.toNat_natCast,hg,ZG hq,dM (by omega),Q9];refine⟨⟨⟨by omega,aU⟩,by omega,by omega⟩,room (by omega),ih _ _ (Yd hv) ?_⟩;rw[<- he,hq,vz,Zz hq];simp[Bool.or_assoc]
theorem QqU:Qf Tryz.prog BF:=Qi λx _=>QYG x.1 x.2.1
def yj(t:(List Int) × Bool):aB:=⟨(.tp [(.r [TI] 0 0 ((t.1).length)),(bE t.2)]),[(.sl 3 [TI] (.dp 0 true []) t.1)],[],false,[]⟩
def BH:aI:=Qg 111 [(.c (.sl [TI])),(.c (.sl [TI]))] λx=>(none,yj (QZ x.1 x.2.1))
def Lh:aF:=⟨[uv,Kk],true⟩
def Qyo:af :=
 (ag [(.ae [aw 19 .lss 18 17]),(.cond 19 .skip (.exit 0)),(.block 1 (ag [(.ae [ab 20 18,ab 8 20]),(.draw [ab 22 0,ab 23 8,aZ 24 22 23 [TI],an 25 24 1,ab 26 1,ab 27 8,aZ 28 26 27 [TI],an 29 28 1,aD 30 196 [25,29],ab 21 30,bF 31 21 0,bF 32 21 1,ab 9 31,ab 10 32] []),(.ae [ab 33 6,ab 34 9,aC 35 (.bW 3 [TI] [34]),aC 36 (.app 33 35 3 [TI]),ab 6 36]),(.ae [ab 37 7,ab 38 37,.bt 38 false [ab 39 10] 40 39,ab 7 40])])),(.ae [aw 41 .add 18 (ar 1),ab 18 41])])
def Qw8:List (Nat × Md):=[(0,.one .d),(1,.one .d),(6,.one .f),(7,.one .d),(17,.one .d),(18,.one .d)]
def Qwo:af :=
 (ag [(.ae [ab 42 6,ab 43 7,ab 4 42,ab 5 43]),.ret])
def QQ6:af :=
 (ag [(.ae [ab 4 (.k (.n [TI])),ab 5 (a0 false)]),(ag [(.ae [ab 11 0,ab 12 1,aD 13 195 [11,12],bL 14 13]),(.cond 14 (ag [(.ae [ab 4 (.k (.n [TI])),ab 5 (a0 false)]),.ret]) .skip)]),(.ae [aC 15 (.bW 3 [TI] []),ab 6 15]),(.ae [ab 7 (a0 false)]),(ag [(.ae [ab 16 0,a9 17 16,ab 18 (ar 0)]),(.block 0 (.loop Qw8 Qyo))]),Qwo])
def QBz:List (bm × Md):=[(.t 4,.one (.p 3)),(.t 5,.one .d)]
def Qwt:Qb:=TQ 0 0 QBz K
def QTa:Qb:=aY (aN Lh 0 Qwo (Qwt K)) (Qwt K)
def QLt:Qb:=a6 0 (QTa K)
def BI(a:List Int)(b:List Int)(out:Bool)(x:Int)(v:List Int):Prop:=Loop Lh 0 Qw8 Qyo (QLt K) ⟨[(0,(bc [TI] a)),(1,(bc [TI] b)),(6,(.r [TI] 0 0 v.length)),(7,(bE out)),(17,(aL (a.length:Int))),(18,(aL x))],[(0,(.sl 3 [TI] (.dp 0 true []) v))],1⟩
theorem QvI(a:List Int)(b:List Int)(out:Bool)(x:Int)(v:List Int) (h :
 (aJ (decide (x<(a.length:Int))) (((0<=x/\Int.toNat x<a.length)/\(0<=x/\Int.toNat x<b.length))/\(((v.length=v.length\/v.length+1<=v.length)/\v.length+1<=cc)/\(BI K a b (out||((Y6 (aq (0:Int) a (Int.toNat x)) (aq (0:Int) b (Int.toNat x))).2)) (aG (x+1)) (List.take (v.length+1) ((List.take v.length v)++([(Y6 (aq (0:Int) a (Int.toNat x)) (aq (0:Int) b (Int.toNat x))).1])))))) (K (yj ((List.take v.length v),out))))):BI K a b out x v :=
 Loop.of h
theorem QNz(a:List Int)(b:List Int):aK Tryz.prog 111 [(.c (.sl [TI]) a),(.c (.sl [TI]) b)] (yj (QZ a b)):=by
 refine bw Lh QQ6 QBz 0 0 44 BH (kc BA (kc QUi kn)) (λK =>
 (aJ (!(ZA a b)) (K (yj (([]:List Int),false))) (BI K a b false 0 ([]:List Int)))) (λhb=>?_)
 refine⟨λh=>au (by unfold QZ;rw[if_neg (by simpa using h)]),λh=>?_⟩;have hp:ZA a b=true:=by simpa using h
 have hl:=o4.1 hp;have h6:=(Yg.1 hl.1).1;refine Za a (λr k=>∀(v:List Int)(s:Bool),v.length=k->(v++(vz Y6 r (b.drop k)).1,s||(vz Y6 r (b.drop k)).2)=(QZ a b)->BI (λr'=>r'=yj (QZ a b)) a b s k v) ?_ ?_ [] false rfl (by unfold QZ;rw[if_pos hp];simp)
 ·intro v s hv he;refine QvI _ _ _ _ _ _ ⟨λh=>by simp at h,λ_=>au ?_⟩;rw[<- he];simp[vz]
 ·intro k x r hk aU hg ih v s hv he;obtain⟨y,q,hq⟩:=Ys (l:=b) (k:=k) (by omega);refine QvI _ _ _ _ _ _ ⟨λ_=>?_,λh=>by simp at h;omega⟩;rw[Int.toNat_natCast,hg,ZG hq,dM (by omega),Q9];refine⟨⟨⟨by omega,aU⟩,by omega,by omega⟩,room (by omega),ih _ _ (Yd hv) ?_⟩;rw[<- he,hq,vz,Zz hq];simp[Bool.or_assoc]
theorem Qul:Qf Tryz.prog BH:=Qi λx _=>QNz x.1 x.2.1
def BJ(t:(List Int) × Bool):aB:=fQ (.tp [(bc [TI] t.1),(bE t.2)])
def BK:aI:=Qg 107 [(.c (.sl [TI])),(.c (.sl [TI]))] λx=>(none,BJ (QZ x.1 x.2.1))
def Li:aF:=⟨[uw,Km],false⟩
def QCL:af :=
 (ag [(ag [(.ae [ab 12 8,ab 13 0,a9 14 13,aw 15 .lss 12 14,ab 16 15,.bt 16 true [ab 17 0,ab 18 1,aD 19 191 [17,18]] 20 19]),(.cond 20 .skip (.exit 0))]),(.block 1 (ag [(.draw [ab 24 0,ab 25 8,aZ 26 24 25 [TI],an 27 26 1,ab 28 1,ab 29 8,aZ 30 28 29 [TI],an 31 30 1,aD 32 192 [27,31],ab 23 32,bF 33 23 0,bF 34 23 1,ab 9 33,ab 10 34] []),(.ae [ab 35 6,ab 36 9,aC 37 (.bW 3 [TI] [36]),aC 38 (.app 35 37 3 [TI]),ab 6 38]),(.ae [ab 39 7,ab 40 39,.bt 40 false [ab 41 10] 42 41,ab 7 42])])),(.ae [ab 21 8,aw 22 .add 21 (ar 1),ab 8 22])])
def QrC:List (Nat × Md):=[(0,.one .d),(1,.one .d),(6,.one .f),(7,.one .d),(8,.one .d)]
def QuC:af :=
 (ag [(.ae [ab 43 6,ab 44 7,ab 4 43,ab 5 44]),.ret])
def QVJ:af :=
 (ag [(.ae [ab 4 (.k (.n [TI])),ab 5 (a0 false)]),(.ae [aC 11 (.bW 3 [TI] []),ab 6 11]),(.ae [ab 7 (a0 false)]),(ag [(.ae [ab 8 (ar 0)]),(.block 0 (.loop QrC QCL))]),QuC])
def QqS:List (bm × Md):=[(.t 4,.one .d),(.t 5,.one .d)]
def QzG:Qb:=TQ 0 0 QqS K
def QLb:Qb:=aY (aN Li 0 QuC (QzG K)) (QzG K)
def QVM:Qb:=a6 0 (QLb K)
def BL(a:List Int)(b:List Int)(sat:Bool)(i:Int)(out:List Int):Prop:=Loop Li 0 QrC QCL (QVM K) ⟨[(0,(bc [TI] a)),(1,(bc [TI] b)),(6,(.r [TI] 0 0 out.length)),(7,(bE sat)),(8,(aL i))],[(0,(.sl 3 [TI] .ow out))],1⟩
theorem Lj(a:List Int)(b:List Int)(sat:Bool)(i:Int)(out:List Int) (h :
 (aJ ((decide (i<(a.length:Int)))&&(ZA a b)) (((0<=i/\Int.toNat i<a.length)/\(0<=i/\Int.toNat i<b.length))/\(((out.length=out.length\/out.length+1<=out.length)/\out.length+1<=cc)/\(BL K a b (sat||((Y6 (aq (0:Int) a (Int.toNat i)) (aq (0:Int) b (Int.toNat i))).2)) (aG (i+1)) (List.take (out.length+1) ((List.take out.length out)++([(Y6 (aq (0:Int) a (Int.toNat i)) (aq (0:Int) b (Int.toNat i))).1])))))) (K (BJ ((List.take out.length (List.drop 0 out)),sat))))):BL K a b sat i out :=
 Loop.of h
theorem QIz(a:List Int)(b:List Int):aK Tryz.prog 107 [(.c (.sl [TI]) a),(.c (.sl [TI]) b)] (BJ (QZ a b)):=by
 refine bw Li QVJ QqS 0 0 45 BK (kc BB (kc QJK kn)) (λK =>
 (BL K a b false 0 ([]:List Int))) (λhb=>?_)
 by_cases hp:ZA a b=true;rotate_left
 ·refine Lj _ _ _ _ _ _ ⟨λh=>by simp[hp]at h,λ_=>au (by unfold QZ;rw[if_neg hp];rfl)⟩
 have hl:=o4.1 hp;have h6:=(Yg.1 hl.1).1;refine Za a (λr k=>∀(v:List Int)(s:Bool),v.length=k->(v++(vz Y6 r (b.drop k)).1,s||(vz Y6 r (b.drop k)).2)=(QZ a b)->BL (λr'=>r'=BJ (QZ a b)) a b s k v) ?_ ?_ [] false rfl (by unfold QZ;rw[if_pos hp];simp)
 ·intro v s hv he;refine Lj _ _ _ _ _ _ ⟨λh=>by simp at h,λ_=>au ?_⟩;rw[<- he];simp[vz]
 ·intro k x r hk aU hg ih v s hv he;obtain⟨y,q,hq⟩:=Ys (l:=b) (k:=k) (by omega);refine Lj _ _ _ _ _ _ ⟨λ_=>?_,λh=>by simp[hp]at h;omega⟩;rw[Int.toNat_natCast,hg,ZG hq,dM (by omega),Q9];refine⟨⟨⟨by omega,aU⟩,by omega,by omega⟩,room (by omega),ih _ _ (Yd hv) ?_⟩;rw[<- he,hq,vz,Zz hq];simp[Bool.or_assoc]
theorem QtS:Qf Tryz.prog BK:=Qi λx _=>QIz x.1 x.2.1
def yk(t:(List Int) × Bool):aB:=⟨(.tp [(.r [TI] 0 0 ((t.1).length)),(bE t.2)]),[(.sl 3 [TI] (.dp 0 true []) t.1)],[],false,[]⟩
def BM:aI:=Qg 232 [(.c TI),(.c (.sl [TI]))] λx=>(none,yk (Zy x.1 x.2.1))
def Lk:aF:=⟨[xK,nQ,xW],true⟩
def Quq:af :=
 (ag [(.ae [aw 23 .lss 22 21]),(.cond 23 .skip (.exit 0)),(.block 1 (ag [(.ae [ab 24 22,ab 8 24]),(.ae [ab 26 0,ab 27 1,ab 28 8,aZ 29 27 28 [TI],an 30 29 1,aD 31 239 [26,30],ab 25 31,bF 32 25 0,bF 33 25 1,ab 9 32,ab 10 33]),(.ae [ab 34 6,ab 35 9,aC 36 (.bW 3 [TI] [35]),aC 37 (.app 34 36 3 [TI]),ab 6 37]),(.ae [ab 38 7,ab 39 38,.bt 39 false [ab 40 10] 41 40,ab 7 41])])),(.ae [aw 42 .add 22 (ar 1),ab 22 42])])
def Qy7:List (Nat × Md):=[(0,.one .d),(1,.one .d),(6,.one .f),(7,.one .d),(21,.one .d),(22,.one .d)]
def QtQ:af :=
 (ag [(.ae [ab 43 6,ab 44 7,ab 4 43,ab 5 44]),.ret])
def QN7:af :=
 (ag [(.ae [ab 4 (.k (.n [TI])),ab 5 (a0 false)]),(ag [(.ae [ab 11 0,aD 12 240 [11],bL 13 12,ab 14 13,.bt 14 false [ab 15 1,aD 16 187 [15],bL 17 16] 18 17]),(.cond 18 (ag [(.ae [ab 4 (.k (.n [TI])),ab 5 (a0 false)]),.ret]) .skip)]),(.ae [aC 19 (.bW 3 [TI] []),ab 6 19]),(.ae [ab 7 (a0 false)]),(ag [(.ae [ab 20 1,a9 21 20,ab 22 (ar 0)]),(.block 0 (.loop Qy7 Quq))]),QtQ])
def Qsh:List (bm × Md):=[(.t 4,.one (.p 3)),(.t 5,.one .d)]
def Qsx:Qb:=TQ 0 0 Qsh K
def QHZ:Qb:=aY (aN Lk 0 QtQ (Qsx K)) (Qsx K)
def QKn:Qb:=a6 0 (QHZ K)
def BN(c:Int)(a:List Int)(out:Bool)(x:Int)(v:List Int):Prop:=Loop Lk 0 Qy7 Quq (QKn K) ⟨[(0,(aL c)),(1,(bc [TI] a)),(6,(.r [TI] 0 0 v.length)),(7,(bE out)),(21,(aL (a.length:Int))),(22,(aL x))],[(0,(.sl 3 [TI] (.dp 0 true []) v))],1⟩
theorem QyX(c:Int)(a:List Int)(out:Bool)(x:Int)(v:List Int) (h :
 (aJ (decide (x<(a.length:Int))) ((0<=x/\Int.toNat x<a.length)/\(((v.length=v.length\/v.length+1<=v.length)/\v.length+1<=cc)/\(BN K c a (out||((Q7 c (aq (0:Int) a (Int.toNat x))).2)) (aG (x+1)) (List.take (v.length+1) ((List.take v.length v)++([(Q7 c (aq (0:Int) a (Int.toNat x))).1])))))) (K (yk ((List.take v.length v),out))))):BN K c a out x v :=
 Loop.of h
theorem QJu(c:Int)(a:List Int):aK Tryz.prog 232 [(.c TI c),(.c (.sl [TI]) a)] (yk (Zy c a)):=by
 refine bw Lk QN7 Qsh 0 0 45 BM (kc IG (kc si (kc Ko kn))) (λK =>
 (aJ ((!(Zt c))||(!(QK a))) (K (yk (([]:List Int),false))) (BN K c a false 0 ([]:List Int)))) (λhb=>?_)
 refine⟨λh=>au (by unfold Zy;rw[if_neg (by intro h2;simp at h2;simp[h2]at h)]),λh=>?_⟩;have hp:Zt c=true/\QK a=true:=by simpa using h
 have h6:=(Yg.1 hp.2).1;refine Za a (λr k=>∀(v:List Int)(s:Bool),v.length=k->(v++(v1 (Q7 c) r).1,s||(v1 (Q7 c) r).2)=(Zy c a)->BN (λr'=>r'=yk (Zy c a)) c a s k v) ?_ ?_ [] false rfl (by unfold Zy;rw[if_pos (by simp[hp])];simp)
 ·intro v s hv he;refine QyX _ _ _ _ _ _ ⟨λh=>by simp at h,λ_=>au ?_⟩;rw[<- he];simp[v1]
 ·intro k x r hk aU hg ih v s hv he;refine QyX _ _ _ _ _ _ ⟨λ_=>?_,λh=>by simp at h;omega⟩;rw[Int.toNat_natCast,hg,dM (by omega),Q9];refine⟨⟨by omega,aU⟩,room (by omega),ih _ _ (Yd hv) ?_⟩;rw[<- he,v1];simp[Bool.or_assoc]
theorem QwQ:Qf Tryz.prog BM:=Qi λx _=>QJu x.1 x.2.1
def BO(t:(List Int) × Bool):aB:=fQ (.tp [(bc [TI] t.1),(bE t.2)])
def BP:aI:=Qg 227 [(.c TI),(.c (.sl [TI]))] λx=>(none,BO (Zy x.1 x.2.1))
def Ll:aF:=⟨[Yy,ub,xX],false⟩
def QC7:af :=
 (ag [(ag [(.ae [ab 12 8,ab 13 1,a9 14 13,aw 15 .lss 12 14,ab 16 15,.bt 16 true [ab 17 1,aD 18 97 [17]] 19 18,ab 20 19,.bt 20 true [ab 21 0,aD 22 183 [21]] 23 22]),(.cond 23 .skip (.exit 0))]),(.block 1 (ag [(.ae [ab 27 0,ab 28 1,ab 29 8,aZ 30 28 29 [TI],an 31 30 1,aD 32 237 [27,31],ab 26 32,bF 33 26 0,bF 34 26 1,ab 9 33,ab 10 34]),(.ae [ab 35 6,ab 36 9,aC 37 (.bW 3 [TI] [36]),aC 38 (.app 35 37 3 [TI]),ab 6 38]),(.ae [ab 39 7,ab 40 39,.bt 40 false [ab 41 10] 42 41,ab 7 42])])),(.ae [ab 24 8,aw 25 .add 24 (ar 1),ab 8 25])])
def Qw3:List (Nat × Md):=[(0,.one .d),(1,.one .d),(6,.one .f),(7,.one .d),(8,.one .d)]
def Qty:af :=
 (ag [(.ae [ab 43 6,ab 44 7,ab 4 43,ab 5 44]),.ret])
def QH7:af :=
 (ag [(.ae [ab 4 (.k (.n [TI])),ab 5 (a0 false)]),(.ae [aC 11 (.bW 3 [TI] []),ab 6 11]),(.ae [ab 7 (a0 false)]),(ag [(.ae [ab 8 (ar 0)]),(.block 0 (.loop Qw3 QC7))]),Qty])
def Qtn:List (bm × Md):=[(.t 4,.one .d),(.t 5,.one .d)]
def Qwc:Qb:=TQ 0 0 Qtn K
def QFq:Qb:=aY (aN Ll 0 Qty (Qwc K)) (Qwc K)
def QT0:Qb:=a6 0 (QFq K)
def BQ(c:Int)(a:List Int)(sat:Bool)(i:Int)(out:List Int):Prop:=Loop Ll 0 Qw3 QC7 (QT0 K) ⟨[(0,(aL c)),(1,(bc [TI] a)),(6,(.r [TI] 0 0 out.length)),(7,(bE sat)),(8,(aL i))],[(0,(.sl 3 [TI] .ow out))],1⟩
theorem Lm(c:Int)(a:List Int)(sat:Bool)(i:Int)(out:List Int) (h :
 (aJ (((decide (i<(a.length:Int)))&&(QK a))&&(Zt c)) ((0<=i/\Int.toNat i<a.length)/\(((out.length=out.length\/out.length+1<=out.length)/\out.length+1<=cc)/\(BQ K c a (sat||((Q7 c (aq (0:Int) a (Int.toNat i))).2)) (aG (i+1)) (List.take (out.length+1) ((List.take out.length out)++([(Q7 c (aq (0:Int) a (Int.toNat i))).1])))))) (K (BO ((List.take out.length (List.drop 0 out)),sat))))):BQ K c a sat i out :=
 Loop.of h
theorem QND(c:Int)(a:List Int):aK Tryz.prog 227 [(.c TI c),(.c (.sl [TI]) a)] (BO (Zy c a)):=by
 refine bw Ll QH7 Qtn 0 0 45 BP (kc YL (kc A3 (kc Kq kn))) (λK =>
 (BQ K c a false 0 ([]:List Int))) (λhb=>?_)
 by_cases hp:Zt c=true/\QK a=true;rotate_left
 ·refine Lm _ _ _ _ _ _ ⟨λh=>absurd (by simp at h;exact⟨h.2,h.1.2⟩) hp,λ_=>au (by unfold Zy;rw[if_neg (by simpa using hp)];rfl)⟩
 have h6:=(Yg.1 hp.2).1;refine Za a (λr k=>∀(v:List Int)(s:Bool),v.length=k->(v++(v1 (Q7 c) r).1,s||(v1 (Q7 c) r).2)=(Zy c a)->BQ (λr'=>r'=BO (Zy c a)) c a s k v) ?_ ?_ [] false rfl (by unfold Zy;rw[if_pos (by simp[hp])];simp)
 ·intro v s hv he;refine Lm _ _ _ _ _ _ ⟨λh=>by simp at h,λ_=>au ?_⟩;rw[<- he];simp[v1]
 ·intro k x r hk aU hg ih v s hv he;refine Lm _ _ _ _ _ _ ⟨λ_=>?_,λh=>by simp[hp]at h;omega⟩;rw[Int.toNat_natCast,hg,dM (by omega),Q9];refine⟨⟨by omega,aU⟩,room (by omega),ih _ _ (Yd hv) ?_⟩;rw[<- he,v1];simp[Bool.or_assoc]
theorem QCD:Qf Tryz.prog BP:=Qi λx _=>QND x.1 x.2.1
def yl(t:Int × Bool):aB:=b7 (.tp [(aL t.1),(bE t.2)])
def ym:aI:=Qg 188 [(.c (.sl [TI])),(.c (.sl [TI]))] λx=>(none,yl (Q1 x.1 x.2.1))
def Ln:aF:=⟨[uv,xW,ui],false⟩
def QDf:af :=
 (ag [(.ae [aw 20 .lss 19 18]),(.cond 20 .skip (.exit 0)),(.block 1 (ag [(.ae [ab 21 19,ab 8 21]),(.draw [ab 23 0,ab 24 8,aZ 25 23 24 [TI],an 26 25 1,ab 27 1,ab 28 8,aZ 29 27 28 [TI],an 30 29 1,aD 31 239 [26,30],ab 22 31,bF 32 22 0,bF 33 22 1,ab 9 32,ab 10 33] []),(.ae [ab 35 6,ab 36 9,aD 37 106 [35,36],ab 34 37,bF 38 34 0,bF 39 34 1,ab 11 38,ab 12 39]),(.ae [ab 40 11,ab 6 40]),(.ae [ab 41 7,ab 42 41,.bt 42 false [ab 43 10] 44 43,ab 45 44,.bt 45 false [ab 46 12] 47 46,ab 7 47])])),(.ae [aw 48 .add 19 (ar 1),ab 19 48])])
def QA8:List (Nat × Md):=eW [0,1,6,7,18,19]
def Qxw:af :=
 (ag [(.ae [ab 49 6,ab 50 7,ab 4 49,ab 5 50]),.ret])
def QUb:af :=
 (ag [(.ae [ab 4 (ar 0),ab 5 (a0 false)]),(ag [(.ae [ab 13 0,ab 14 1,aD 15 195 [13,14],bL 16 15]),(.cond 16 (ag [(.ae [ab 4 (ar 0),ab 5 (a0 false)]),.ret]) .skip)]),(.ae [ab 6 (ar 0)]),(.ae [ab 7 (a0 false)]),(ag [(.ae [ab 17 0,a9 18 17,ab 19 (ar 0)]),(.block 0 (.loop QA8 QDf))]),Qxw])
def QAt:List (bm × Md):=[(.t 4,.one .d),(.t 5,.one .d)]
def Qyp:Qb:=TQ 0 0 QAt K
def QPx:Qb:=aY (aN Ln 0 Qxw (Qyp K)) (Qyp K)
def QJ8:Qb:=a6 0 (QPx K)
def BS(a:List Int)(b:List Int)(sum:Int)(out:Bool)(x:Int):Prop:=Loop Ln 0 QA8 QDf (QJ8 K) ⟨[(0,(bc [TI] a)),(1,(bc [TI] b)),(6,(aL sum)),(7,(bE out)),(18,(aL (a.length:Int))),(19,(aL x))],[],0⟩
theorem Qtc(a:List Int)(b:List Int)(sum:Int)(out:Bool)(x:Int) (h :
 (aJ (decide (x<(a.length:Int))) (((0<=x/\Int.toNat x<a.length)/\(0<=x/\Int.toNat x<b.length))/\(BS K a b ((Q5 sum ((Q7 (aq (0:Int) a (Int.toNat x)) (aq (0:Int) b (Int.toNat x))).1)).1) ((out||((Q7 (aq (0:Int) a (Int.toNat x)) (aq (0:Int) b (Int.toNat x))).2))||((Q5 sum ((Q7 (aq (0:Int) a (Int.toNat x)) (aq (0:Int) b (Int.toNat x))).1)).2)) (aG (x+1)))) (K (yl (sum,out))))):BS K a b sum out x :=
 Loop.of h
theorem QKz(a:List Int)(b:List Int):aK Tryz.prog 188 [(.c (.sl [TI]) a),(.c (.sl [TI]) b)] (yl (Q1 a b)):=by
 refine bw Ln QUb QAt 0 0 51 ym (kc BA (kc Ko (kc Bc kn))) (λK =>
 (aJ (!(ZA a b)) (K (yl ((0:Int),false))) (BS K a b 0 false 0))) (λhb=>?_)
 refine⟨λh=>au (by unfold Q1;rw[if_neg (by simpa using h)]),λh=>?_⟩;have hp:ZA a b=true:=by simpa using h
 have hl:=o4.1 hp;have h6:=(Yg.1 hl.1).1;refine Za a (λr k=>∀(z:Int)(s:Bool),((Yq r (b.drop k) z).1,s||(Yq r (b.drop k) z).2)=(Q1 a b)->BS (λr'=>r'=yl (Q1 a b)) a b z s k) ?_ ?_ 0 false (by unfold Q1;rw[if_pos hp];simp)
 ·intro z s he;refine Qtc _ _ _ _ _ _ ⟨λh=>by simp at h,λ_=>au ?_⟩;rw[<- he];simp[Yq]
 ·intro k x r hk aU hg ih z s he;obtain⟨y,q,hq⟩:=Ys (l:=b) (k:=k) (by omega);refine Qtc _ _ _ _ _ _ ⟨λ_=>?_,λh=>by simp at h;omega⟩;rw[Int.toNat_natCast,hg,ZG hq,dM (by omega)];refine⟨⟨⟨by omega,aU⟩,by omega,by omega⟩,ih _ _ ?_⟩;rw[<- he,hq,Yq,Zz hq];simp[Bool.or_assoc]
theorem Lo:Qf Tryz.prog ym:=Qi λx _=>QKz x.1 x.2.1
def BT(t:Int × Bool):aB:=b7 (.tp [(aL t.1),(bE t.2)])
def ux:aI:=Qg 184 [(.c (.sl [TI])),(.c (.sl [TI]))] λx=>(none,BT (Q1 x.1 x.2.1))
def Lp:aF:=⟨[uw,xX,sm],false⟩
def QBc:af :=
 (ag [(ag [(.ae [ab 13 8,ab 14 0,a9 15 14,aw 16 .lss 13 15,ab 17 16,.bt 17 true [ab 18 0,ab 19 1,aD 20 191 [18,19]] 21 20]),(.cond 21 .skip (.exit 0))]),(.block 1 (ag [(.draw [ab 25 0,ab 26 8,aZ 27 25 26 [TI],an 28 27 1,ab 29 1,ab 30 8,aZ 31 29 30 [TI],an 32 31 1,aD 33 237 [28,32],ab 24 33,bF 34 24 0,bF 35 24 1,ab 9 34,ab 10 35] []),(.ae [ab 37 6,ab 38 9,aD 39 99 [37,38],ab 36 39,bF 40 36 0,bF 41 36 1,ab 11 40,ab 12 41]),(.ae [ab 42 11,ab 6 42]),(.ae [ab 43 7,ab 44 43,.bt 44 false [ab 45 10] 46 45,ab 47 46,.bt 47 false [ab 48 12] 49 48,ab 7 49])])),(.ae [ab 22 8,aw 23 .add 22 (ar 1),ab 8 23])])
def QtC:List (Nat × Md):=eW [0,1,6,7,8]
def QBU:af :=
 (ag [(.ae [ab 50 6,ab 51 7,ab 4 50,ab 5 51]),.ret])
def QKY:af :=
 (ag [(.ae [ab 4 (ar 0),ab 5 (a0 false)]),(.ae [ab 6 (ar 0)]),(.ae [ab 7 (a0 false)]),(ag [(.ae [ab 8 (ar 0)]),(.block 0 (.loop QtC QBc))]),QBU])
def QAk:List (bm × Md):=[(.t 4,.one .d),(.t 5,.one .d)]
def QDx:Qb:=TQ 0 0 QAk K
def QU2:Qb:=aY (aN Lp 0 QBU (QDx K)) (QDx K)
def QGv:Qb:=a6 0 (QU2 K)
def BU(a:List Int)(b:List Int)(sum:Int)(sat:Bool)(i:Int):Prop:=Loop Lp 0 QtC QBc (QGv K) ⟨[(0,(bc [TI] a)),(1,(bc [TI] b)),(6,(aL sum)),(7,(bE sat)),(8,(aL i))],[],0⟩
theorem Lq(a:List Int)(b:List Int)(sum:Int)(sat:Bool)(i:Int) (h :
 (aJ ((decide (i<(a.length:Int)))&&(ZA a b)) (((0<=i/\Int.toNat i<a.length)/\(0<=i/\Int.toNat i<b.length))/\(BU K a b ((Q5 sum ((Q7 (aq (0:Int) a (Int.toNat i)) (aq (0:Int) b (Int.toNat i))).1)).1) ((sat||((Q7 (aq (0:Int) a (Int.toNat i)) (aq (0:Int) b (Int.toNat i))).2))||((Q5 sum ((Q7 (aq (0:Int) a (Int.toNat i)) (aq (0:Int) b (Int.toNat i))).1)).2)) (aG (i+1)))) (K (BT (sum,sat))))):BU K a b sum sat i :=
 Loop.of h
theorem QWw(a:List Int)(b:List Int):aK Tryz.prog 184 [(.c (.sl [TI]) a),(.c (.sl [TI]) b)] (BT (Q1 a b)):=by
 refine bw Lp QKY QAk 0 0 52 ux (kc BB (kc Kq (kc xV kn))) (λK =>
 (BU K a b 0 false 0)) (λhb=>?_)
 by_cases hp:ZA a b=true;rotate_left
 ·refine Lq _ _ _ _ _ _ ⟨λh=>by simp[hp]at h,λ_=>au (by unfold Q1;rw[if_neg hp])⟩
 have hl:=o4.1 hp;have h6:=(Yg.1 hl.1).1;refine Za a (λr k=>∀(z:Int)(s:Bool),((Yq r (b.drop k) z).1,s||(Yq r (b.drop k) z).2)=(Q1 a b)->BU (λr'=>r'=BT (Q1 a b)) a b z s k) ?_ ?_ 0 false (by unfold Q1;rw[if_pos hp];simp)
 ·intro z s he;refine Lq _ _ _ _ _ _ ⟨λh=>by simp at h,λ_=>au ?_⟩;rw[<- he];simp[Yq]
 ·intro k x r hk aU hg ih z s he;obtain⟨y,q,hq⟩:=Ys (l:=b) (k:=k) (by omega);refine Lq _ _ _ _ _ _ ⟨λ_=>?_,λh=>by simp[hp]at h;omega⟩;rw[Int.toNat_natCast,hg,ZG hq,dM (by omega)];refine⟨⟨⟨by omega,aU⟩,by omega,by omega⟩,ih _ _ ?_⟩;rw[<- he,hq,Yq,Zz hq];simp[Bool.or_assoc]
theorem BV:Qf Tryz.prog ux:=Qi λx _=>QWw x.1 x.2.1
def yn(t:(List Int)):aB:=⟨(.r [TI] 0 0 t.length),[(.sl 3 [TI] (.dp 0 true []) t)],[],false,[]⟩
def Lr:aI:=Qg 233 [(.c (.sl [TI]))] λx=>(none,yn (Z5 x.1))
def Ls:aF:=⟨[nQ,Ks],true⟩
def QEs:af :=
 (ag [(.ae [aw 13 .lss 12 11]),(.cond 13 .skip (.exit 0)),(.block 1 (ag [(.ae [aZ 14 10 12 [TI],an 15 14 1,ab 5 15]),(.ae [ab 16 3,ab 17 5,aD 18 259 [17],aC 19 (.bW 3 [TI] [18]),aC 20 (.app 16 19 3 [TI]),ab 3 20])])),(.ae [aw 21 .add 12 (ar 1),ab 12 21])])
def QDW:List (Nat × Md):=[(3,.one .f),(10,.one .d),(11,.one .d),(12,.one .d)]
def Qvl:af :=
 (ag [(.ae [ab 22 3,ab 2 22]),.ret])
def QQv:af :=
 (ag [(.ae [ab 2 (.k (.n [TI]))]),(ag [(.ae [ab 6 0,aD 7 187 [6],bL 8 7]),(.cond 8 (ag [(.ae [ab 2 (.k (.n [TI]))]),.ret]) .skip)]),(.ae [aC 9 (.bW 3 [TI] []),ab 3 9]),(ag [(.ae [ab 10 0,a9 11 10,ab 12 (ar 0)]),(.block 0 (.loop QDW QEs))]),Qvl])
def QEv:List (bm × Md):=[(.t 2,.one (.p 3))]
def Qzv:Qb:=TQ 0 0 QEv K
def QXR:Qb:=aY (aN Ls 0 Qvl (Qzv K)) (Qzv K)
def QYj:Qb:=a6 0 (QXR K)
def BW(a:List Int)(x:Int)(v:List Int):Prop:=Loop Ls 0 QDW QEs (QYj K) ⟨[(3,(.r [TI] 0 0 v.length)),(10,(bc [TI] a)),(11,(aL (a.length:Int))),(12,(aL x))],[(0,(.sl 3 [TI] (.dp 0 true []) v))],1⟩
theorem Qrp(a:List Int)(x:Int)(v:List Int) (h :
 (aJ (decide (x<(a.length:Int))) ((0<=x/\Int.toNat x<a.length)/\(((v.length=v.length\/v.length+1<=v.length)/\v.length+1<=cc)/\(BW K a (aG (x+1)) (List.take (v.length+1) ((List.take v.length v)++([(nH (aq (0:Int) a (Int.toNat x)))])))))) (K (yn (List.take v.length v))))):BW K a x v :=
 Loop.of h
theorem QRc(a:List Int):aK Tryz.prog 233 [(.c (.sl [TI]) a)] (yn (Z5 a)):=by
 refine bw Ls QQv QEv 0 0 23 Lr (kc si (kc QG4 kn)) (λK =>
 (aJ (!(QK a)) (K (yn ([]:List Int))) (BW K a 0 ([]:List Int)))) (λhb=>?_)
 refine⟨λh=>au (by unfold Z5;rw[if_neg (by simpa using h)]),λh=>?_⟩;have hp:QK a=true:=by simpa using h
 have h6:=(Yg.1 hp).1;refine Za a (λr k=>∀(v:List Int),v.length=k->v++r.map nH=(Z5 a)->BW (λr'=>r'=yn (Z5 a)) a k v) ?_ ?_ [] rfl (by unfold Z5;rw[if_pos hp];simp)
 ·intro v hv he;refine Qrp _ _ _ _ ⟨λh=>by simp at h,λ_=>au ?_⟩;rw[<- he];simp
 ·intro k x r hk aU hg ih v hv he;refine Qrp _ _ _ _ ⟨λ_=>?_,λh=>by simp at h;omega⟩;rw[Int.toNat_natCast,hg,dM (by omega),Q9];refine⟨⟨by omega,aU⟩,room (by omega),ih _ (Yd hv) ?_⟩;rw[<- he];simp
theorem QVZ:Qf Tryz.prog Lr:=Qi λx _=>QRc x.1
def BX(t:(List Int)):aB:=fQ (bc [TI] t)
def Lt:aI:=Qg 226 [(.c (.sl [TI]))] λx=>(none,BX (Z5 x.1))
def Lu:aF:=⟨[Yy,Ku],false⟩
def QBn:af :=
 (ag [(ag [(.ae [ab 6 4,ab 7 0,a9 8 7,aw 9 .lss 6 8,ab 10 9,.bt 10 true [ab 11 0,aD 12 97 [11]] 13 12]),(.cond 13 .skip (.exit 0))]),(.block 1 (.ae [ab 16 3,ab 17 0,ab 18 4,aZ 19 17 18 [TI],an 20 19 1,aD 21 256 [20],aC 22 (.bW 3 [TI] [21]),aC 23 (.app 16 22 3 [TI]),ab 3 23])),(.ae [ab 14 4,aw 15 .add 14 (ar 1),ab 4 15])])
def QBs:List (Nat × Md):=[(0,.one .d),(3,.one .f),(4,.one .d)]
def QsU:af :=
 (ag [(.ae [ab 24 3,ab 2 24]),.ret])
def QSk:af :=
 (ag [(.ae [ab 2 (.k (.n [TI]))]),(.ae [aC 5 (.bW 3 [TI] []),ab 3 5]),(ag [(.ae [ab 4 (ar 0)]),(.block 0 (.loop QBs QBn))]),QsU])
def Qx0:List (bm × Md):=[(.t 2,.one .d)]
def Qwq:Qb:=TQ 0 0 Qx0 K
def QKX:Qb:=aY (aN Lu 0 QsU (Qwq K)) (Qwq K)
def QL2:Qb:=a6 0 (QKX K)
def BZ(a:List Int)(i:Int)(out:List Int):Prop:=Loop Lu 0 QBs QBn (QL2 K) ⟨[(0,(bc [TI] a)),(3,(.r [TI] 0 0 out.length)),(4,(aL i))],[(0,(.sl 3 [TI] .ow out))],1⟩
theorem Lv(a:List Int)(i:Int)(out:List Int) (h :
 (aJ ((decide (i<(a.length:Int)))&&(QK a)) (((0<=i/\Int.toNat i<a.length)/\((out.length=out.length\/out.length+1<=out.length)/\out.length+1<=cc))/\(BZ K a (aG (i+1)) (List.take (out.length+1) ((List.take out.length out)++([(nH (aq (0:Int) a (Int.toNat i)))]))))) (K (BX (List.take out.length (List.drop 0 out)))))):BZ K a i out :=
 Loop.of h
theorem QMm(a:List Int):aK Tryz.prog 226 [(.c (.sl [TI]) a)] (BX (Z5 a)):=by
 refine bw Lu QSk Qx0 0 0 25 Lt (kc YL (kc QXH kn)) (λK =>
 (BZ K a 0 ([]:List Int))) (λhb=>?_)
 by_cases hp:QK a=true;rotate_left
 ·refine Lv _ _ _ _ ⟨λh=>by simp[hp]at h,λ_=>au (by unfold Z5;rw[if_neg hp];rfl)⟩
 have h6:=(Yg.1 hp).1;refine Za a (λr k=>∀(v:List Int),v.length=k->v++r.map nH=(Z5 a)->BZ (λr'=>r'=BX (Z5 a)) a k v) ?_ ?_ [] rfl (by unfold Z5;rw[if_pos hp];simp)
 ·intro v hv he;refine Lv _ _ _ _ ⟨λh=>by simp at h,λ_=>au ?_⟩;rw[<- he];simp
 ·intro k x r hk aU hg ih v hv he;refine Lv _ _ _ _ ⟨λ_=>?_,λh=>by simp[hp]at h;omega⟩;rw[Int.toNat_natCast,hg,dM (by omega),Q9];refine⟨⟨⟨by omega,aU⟩,room (by omega)⟩,ih _ (Yd hv) ?_⟩;rw[<- he];simp
theorem QU1:Qf Tryz.prog Lt:=Qi λx _=>QMm x.1
def yo(t:(List Int)):aB:=⟨(.r [TI] 0 0 t.length),[(.sl 3 [TI] (.dp 0 true []) t)],[],false,[]⟩
def Lw:aI:=Qg 246 [(.c (.sl [TI])),(.c (.sl [TI]))] λx=>(none,yo (Z4 x.1 x.2.1))
def Lx:aF:=⟨[uv],true⟩
def Qyi:af :=
 (ag [(.ae [aw 15 .lss 14 13]),(.cond 15 .skip (.exit 0)),(.block 1 (ag [(.ae [ab 16 14,ab 6 16]),(.ae [ab 17 0,ab 18 6,aZ 19 17 18 [TI],an 20 19 1,aw 21 .gtr 20 (ar 0)]),(.cond 21 (.ae [ab 22 5,ab 23 1,ab 24 6,aZ 25 23 24 [TI],an 26 25 1,aC 27 (.bW 3 [TI] [26]),aC 28 (.app 22 27 3 [TI]),ab 5 28]) (.ae [ab 29 5,aC 30 (.bW 3 [TI] [(ar 0)]),aC 31 (.app 29 30 3 [TI]),ab 5 31]))])),(.ae [aw 32 .add 14 (ar 1),ab 14 32])])
def QrP:List (Nat × Md):=[(0,.one .d),(1,.one .d),(5,.one .f),(13,.one .d),(14,.one .d)]
def Qwh:af :=
 (ag [(.ae [ab 33 5,ab 4 33]),.ret])
def QF8:af :=
 (ag [(.ae [ab 4 (.k (.n [TI]))]),(ag [(.ae [ab 7 0,ab 8 1,aD 9 195 [7,8],bL 10 9]),(.cond 10 (ag [(.ae [ab 4 (.k (.n [TI]))]),.ret]) .skip)]),(.ae [aC 11 (.bW 3 [TI] []),ab 5 11]),(ag [(.ae [ab 12 0,a9 13 12,ab 14 (ar 0)]),(.block 0 (.loop QrP Qyi))]),Qwh])
def Qst:List (bm × Md):=[(.t 4,.one (.p 3))]
def Qsb:Qb:=TQ 0 0 Qst K
def QRe:Qb:=aY (aN Lx 0 Qwh (Qsb K)) (Qsb K)
def QI2:Qb:=a6 0 (QRe K)
def yp(x:List Int)(d:List Int)(x1:Int)(v:List Int):Prop:=Loop Lx 0 QrP Qyi (QI2 K) ⟨[(0,(bc [TI] x)),(1,(bc [TI] d)),(5,(.r [TI] 0 0 v.length)),(13,(aL (x.length:Int))),(14,(aL x1))],[(0,(.sl 3 [TI] (.dp 0 true []) v))],1⟩
theorem QuW(x:List Int)(d:List Int)(x1:Int)(v:List Int) (h :
 (aJ (decide (x1<(x.length:Int))) ((0<=x1/\Int.toNat x1<x.length)/\(aJ (decide ((aq (0:Int) x (Int.toNat x1))>0)) (((0<=x1/\Int.toNat x1<d.length)/\((v.length=v.length\/v.length+1<=v.length)/\v.length+1<=cc))/\(yp K x d (aG (x1+1)) (List.take (v.length+1) ((List.take v.length v)++([(aq (0:Int) d (Int.toNat x1))]))))) (((v.length=v.length\/v.length+1<=v.length)/\v.length+1<=cc)/\(yp K x d (aG (x1+1)) (List.take (v.length+1) ((List.take v.length v)++([(0:Int)]))))))) (K (yo (List.take v.length v))))):yp K x d x1 v :=
 Loop.of h
theorem QKG(x:List Int)(d:List Int):aK Tryz.prog 246 [(.c (.sl [TI]) x),(.c (.sl [TI]) d)] (yo (Z4 x d)):=by
 refine bw Lx QF8 Qst 0 0 34 Lw (kc BA kn) (λK =>
 (aJ (!(ZA x d)) (K (yo ([]:List Int))) (yp K x d 0 ([]:List Int)))) (λhb=>?_)
 refine⟨λh=>au (by unfold Z4;rw[if_neg (by simpa using h)]),λh=>?_⟩;have hp:ZA x d=true:=by simpa using h
 have hl:=o4.1 hp;have h6:=(Yg.1 hl.1).1;refine Za x (λr k=>∀(v:List Int),v.length=k->v++List.zipWith (λa b=>if 0<a then b else 0) r (d.drop k)=(Z4 x d)->yp (λr'=>r'=yo (Z4 x d)) x d k v) ?_ ?_ [] rfl (by unfold Z4;rw[if_pos hp];simp)
 ·intro v hv he;refine QuW _ _ _ _ _ ⟨λh=>by simp at h,λ_=>au ?_⟩;rw[<- he];simp
 ·intro k y r hk aU hg ih v hv he;obtain⟨z,q,hq⟩:=Ys (l:=d) (k:=k) (by omega);refine QuW _ _ _ _ _ ⟨λ_=>?_,λh=>by simp at h;omega⟩;rw[Int.toNat_natCast,hg,ZG hq,dM (by omega),Q9,Q9];rw[hq,List.zipWith_cons_cons,<- Zz hq]at he;refine⟨⟨by omega,aU⟩,λh=>⟨⟨⟨by omega,by omega⟩,room (by omega)⟩,ih _ (Yd hv) ?_⟩,λh=>⟨room (by omega),ih _ (Yd hv) ?_⟩⟩
  ·rw[<- he,if_pos (by simpa using h)];simp
  ·rw[<- he,if_neg (by simpa using h)];simp
theorem QXK:Qf Tryz.prog Lw:=Qi λx _=>QKG x.1 x.2.1
def B2(t:(List Int)):aB:=fQ (bc [TI] t)
def Ly:aI:=Qg 241 [(.c (.sl [TI])),(.c (.sl [TI]))] λx=>(none,B2 (Z4 x.1 x.2.1))
def Lz:aF:=⟨[uw],false⟩
def Qti:af :=
 (ag [(ag [(.ae [ab 8 6,ab 9 0,a9 10 9,aw 11 .lss 8 10,ab 12 11,.bt 12 true [ab 13 0,ab 14 1,aD 15 191 [13,14]] 16 15]),(.cond 16 .skip (.exit 0))]),(.block 1 (ag [(.ae [ab 19 0,ab 20 6,aZ 21 19 20 [TI],an 22 21 1,aw 23 .gtr 22 (ar 0)]),(.cond 23 (.ae [ab 24 5,ab 25 1,ab 26 6,aZ 27 25 26 [TI],an 28 27 1,aC 29 (.bW 3 [TI] [28]),aC 30 (.app 24 29 3 [TI]),ab 5 30]) (.ae [ab 31 5,aC 32 (.bW 3 [TI] [(ar 0)]),aC 33 (.app 31 32 3 [TI]),ab 5 33]))])),(.ae [ab 17 6,aw 18 .add 17 (ar 1),ab 6 18])])
def Qy5:List (Nat × Md):=[(0,.one .d),(1,.one .d),(5,.one .f),(6,.one .d)]
def Qvn:af :=
 (ag [(.ae [ab 34 5,ab 4 34]),.ret])
def QIK:af :=
 (ag [(.ae [ab 4 (.k (.n [TI]))]),(.ae [aC 7 (.bW 3 [TI] []),ab 5 7]),(ag [(.ae [ab 6 (ar 0)]),(.block 0 (.loop Qy5 Qti))]),Qvn])
def QDI:List (bm × Md):=[(.t 4,.one .d)]
def QxC:Qb:=TQ 0 0 QDI K
def QVs:Qb:=aY (aN Lz 0 Qvn (QxC K)) (QxC K)
def QUf:Qb:=a6 0 (QVs K)
def yq(x:List Int)(d:List Int)(i:Int)(out:List Int):Prop:=Loop Lz 0 Qy5 Qti (QUf K) ⟨[(0,(bc [TI] x)),(1,(bc [TI] d)),(5,(.r [TI] 0 0 out.length)),(6,(aL i))],[(0,(.sl 3 [TI] .ow out))],1⟩
theorem LB(x:List Int)(d:List Int)(i:Int)(out:List Int) (h :
 (aJ ((decide (i<(x.length:Int)))&&(ZA x d)) ((0<=i/\Int.toNat i<x.length)/\(aJ (decide ((aq (0:Int) x (Int.toNat i))>0)) (((0<=i/\Int.toNat i<d.length)/\((out.length=out.length\/out.length+1<=out.length)/\out.length+1<=cc))/\(yq K x d (aG (i+1)) (List.take (out.length+1) ((List.take out.length out)++([(aq (0:Int) d (Int.toNat i))]))))) (((out.length=out.length\/out.length+1<=out.length)/\out.length+1<=cc)/\(yq K x d (aG (i+1)) (List.take (out.length+1) ((List.take out.length out)++([(0:Int)]))))))) (K (B2 (List.take out.length (List.drop 0 out)))))):yq K x d i out :=
 Loop.of h
theorem QKi(x:List Int)(d:List Int):aK Tryz.prog 241 [(.c (.sl [TI]) x),(.c (.sl [TI]) d)] (B2 (Z4 x d)):=by
 refine bw Lz QIK QDI 0 0 35 Ly (kc BB kn) (λK =>
 (yq K x d 0 ([]:List Int))) (λhb=>?_)
 by_cases hp:ZA x d=true;rotate_left
 ·refine LB _ _ _ _ _ ⟨λh=>by simp[hp]at h,λ_=>au (by unfold Z4;rw[if_neg hp];rfl)⟩
 have hl:=o4.1 hp;have h6:=(Yg.1 hl.1).1;refine Za x (λr k=>∀(v:List Int),v.length=k->v++List.zipWith (λa b=>if 0<a then b else 0) r (d.drop k)=(Z4 x d)->yq (λr'=>r'=B2 (Z4 x d)) x d k v) ?_ ?_ [] rfl (by unfold Z4;rw[if_pos hp];simp)
 ·intro v hv he;refine LB _ _ _ _ _ ⟨λh=>by simp at h,λ_=>au ?_⟩;rw[<- he];simp
 ·intro k y r hk aU hg ih v hv he;obtain⟨z,q,hq⟩:=Ys (l:=d) (k:=k) (by omega);refine LB _ _ _ _ _ ⟨λ_=>?_,λh=>by simp[hp]at h;omega⟩;rw[Int.toNat_natCast,hg,ZG hq,dM (by omega),Q9,Q9];rw[hq,List.zipWith_cons_cons,<- Zz hq]at he;refine⟨⟨by omega,aU⟩,λh=>⟨⟨⟨by omega,by omega⟩,room (by omega)⟩,ih _ (Yd hv) ?_⟩,λh=>⟨room (by omega),ih _ (Yd hv) ?_⟩⟩
  ·rw[<- he,if_pos (by simpa using h)];simp
  ·rw[<- he,if_neg (by simpa using h)];simp
theorem QPP:Qf Tryz.prog Ly:=Qi λx _=>QKi x.1 x.2.1
end
end Go.Proofs.YtdplaepmjogjjaaGreat.Am

