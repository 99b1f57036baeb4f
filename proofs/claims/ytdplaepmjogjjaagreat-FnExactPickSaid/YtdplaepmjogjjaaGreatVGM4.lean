/- -/
import Derived.Test.YtdplaepmjogjjaaGreatVGM3
namespace Go.Proofs.YtdplaepmjogjjaaGreat.Am
open Go Go.RowKit Go.Proofs.YtdplaepmjogjjaaGreat
set_option linter.all false
noncomputable section
variable (K:aB->Prop)
def tQ(t:Int):aB:=b6 (aL t)
def G6:aJ:=Qg 55 [(.c (.sl QO)),(.c TI)] λx=>(some (bJ (α:=List bt) x.1 x.2.1),tQ (bg (α:=List bt) x.1 x.2.1))
def QUx:aF:=⟨[],false⟩
def QOZ:af :=
 (ag [(.ae [ab 4 (ar 0)]),(.ae [ab 5 1,ab 6 0,ba 7 6,aw 8 .sub 5 7,ab 1 8]),(ag [(.ae [ab 9 1,aw 10 .lss 9 (ar 0)]),(.cond 10 (ag [(.ae [ab 4 (ar (-1))]),.ret]) .skip)]),(.ae [ab 11 1,ab 4 11]),.ret])
def QJv:List (bn × Md):=[(.t 4,.one .d)]
theorem QOs(a:List bt)(left:Int)(hp:bJ (α:=List bt) a left):aK Tryz.prog 55 [(.c (.sl QO) a),(.c TI left)] (tQ (bg (α:=List bt) a left)):=by
 refine bz QUx QOZ QJv 0 0 12 G6 kn (λK =>
 (aI (decide ((aG (left-(a.length:Int)))<0)) (K (tQ (-1:Int))) (K (tQ (aG (left-(a.length:Int))))))) (λhb=>?_)
 exact SM (Q:=λx=>tQ x=tQ (bg (α:=List bt) a left)) (λ_=>rfl) hp hb.1.1 rfl
theorem QFr:Qf Tryz.prog G6:=Qh λx h=>QOs x.1 x.2.1 h
def AH(t:Int):aB:=b6 (aL t)
def G7:aJ:=Qg 153 [(.a QD),(.c TI)] λx=>(some (bJ (α:=QC) x.1 x.2.1),AH (bg (α:=QC) x.1 x.2.1))
def QI2:aF:=⟨[xm],false⟩
def QFd:af :=
 (ag [(.ae [aC 2 (.box 187 0 2),ab 4 (ar 0)]),(.ae [ak 5 2 1,an 6 5 1,ab 7 1,aD 8 58 [6,7],ab 1 8]),(ag [(.ae [ab 9 1,aw 10 .lss 9 (ar 0)]),(.cond 10 (ag [(.ae [ab 4 (ar (-1))]),.ret]) .skip)]),(.ae [ab 11 1,ab 4 11]),.ret])
def QR7:List (bn × Md):=[(.t 4,.one .d)]
theorem QN2(a:QC)(left:Int)(hp:bJ (α:=QC) a left):aK Tryz.prog 153 [(.a [(.c TI a.1),(.c (.sl [(.sl [TI])]) a.2)]),(.c TI left)] (AH (bg (α:=QC) a left)):=by
 refine bz QI2 QFd QR7 0 0 12 G7 (kc GA kn) (λK =>
 ((bJ (α:=List (List Int)) a.2 left)/\(aI (decide ((bg (α:=List (List Int)) a.2 left)<0)) (K (AH (-1:Int))) (K (AH (bg (α:=List (List Int)) a.2 left)))))) (λhb=>?_)
 refine⟨hp,λh=>au (Z0 (of_decide_eq_true h) (by first | omega | (simp only[QP,QL,Q0];omega)) hp.1),λh=>?_⟩;exact au (congrArg (Z6 · _) (by first | rfl | omega | (simp only[QP,QL,Q0];omega)))
theorem QG9:Qf Tryz.prog G7:=Qh λx h=>QN2 x.1 x.2.1 h
def rM(t:Int):aB:=b6 (aL t)
def G8:aJ:=Qg 57 [(.c (.sl QD)),(.c TI)] λx=>(some (bJ (α:=List QC) x.1 x.2.1),rM (bg (α:=List QC) x.1 x.2.1))
def G9:aF:=⟨[G7],false⟩
def Ub:af :=
 (ag [(ag [(.ae [ab 12 5,ab 13 0,ba 14 13,aw 15 .lss 12 14]),(.cond 15 .skip (.exit 0))]),(.block 1 (ag [(.ae [ab 18 0,ab 19 5,aZ 20 18 19 QD,a9 21 20 2,ab 22 1,aD 23 153 [21,22],ab 1 23]),(.ae [ab 24 1,aw 25 .lss 24 (ar 0)]),(.cond 25 (ag [(.ae [ab 4 (ar (-1))]),.ret]) .skip)])),(.ae [ab 16 5,aw 17 .add 16 (ar 1),ab 5 17])])
def Uc:List (Nat × Md):=eV [0,1,5]
def Ud:af :=
 (ag [(.ae [ab 26 1,ab 4 26]),.ret])
def QFK:af :=
 (ag [(.ae [ab 4 (ar 0)]),(.ae [ab 6 1,ab 7 0,ba 8 7,aw 9 .sub 6 8,ab 1 9]),(ag [(.ae [ab 10 1,aw 11 .lss 10 (ar 0)]),(.cond 11 (ag [(.ae [ab 4 (ar (-1))]),.ret]) .skip)]),(ag [(.ae [ab 5 (ar 0)]),(.block 0 (.loop Uc Ub))]),Ud])
def Ue:List (bn × Md):=[(.t 4,.one .d)]
def Uf:Qb:=TQ 0 0 Ue K
def QGr:Qb:=a0 (aN G9 0 Ud (Uf K)) (Uf K)
def QIl:Qb:=a7 0 (QGr K)
def Ha(a:List QC)(bC:Int)(i:Int):Prop:=Loop G9 0 Uc Ub (QIl K) ⟨[(0,(bf QD a)),(1,(aL bC)),(5,(aL i))],[],0⟩
theorem QIt(a:List QC)(bC:Int)(i:Int) (h :
 (aI (decide (i<(a.length:Int))) (((0<=i/\Int.toNat i<a.length)/\(bJ (α:=QC) (aq QS a (Int.toNat i)) bC))/\(aI (decide ((bg (α:=QC) (aq QS a (Int.toNat i)) bC)<0)) (K (rM (-1:Int))) (Ha K a (bg (α:=QC) (aq QS a (Int.toNat i)) bC) (aG (i+1))))) (K (rM bC)))):Ha K a bC i :=
 Loop.of h
theorem QHX(a:List QC)(left:Int)(hp:bJ (α:=List QC) a left):aK Tryz.prog 57 [(.c (.sl QD) a),(.c TI left)] (rM (bg (α:=List QC) a left)):=by
 refine bz G9 QFK Ue 0 0 27 G8 (kc QG9 kn) (λK =>
 (aI (decide ((aG (left-(a.length:Int)))<0)) (K (rM (-1:Int))) (Ha K a (aG (left-(a.length:Int))) 0))) (λhb=>?_)
 exact ri (Q:=λx=>rM x=rM (bg (α:=List QC) a left)) QS hp hb.1.1 (λl i h=>QIt _ a l i h) rfl
theorem QKT:Qf Tryz.prog G8:=Qh λx h=>QHX x.1 x.2.1 h
def Hb(t:bt):aB:=b6 (.a [(aL t.1),(aL t.2)])
def Hc:aJ:=Qg 161 [(.a QO)] λx=>(some (bB (α:=bt) x.1),Hb (id (α:=bt) x.1))
def QMl:aF:=⟨[],true⟩
def QWG:af :=
 (ag [(.ae [aC 1 (.box 195 0 2),aC 2 (.new 175 (bG QO))]),(.ae [aC 3 (.new 175 (bG QO))]),(.ae [ak 4 1 0,an 5 4 1,ak 6 3 0,aV 6 5 1]),(.ae [ak 7 1 1,an 8 7 1,ak 9 3 1,aV 9 8 1]),(.ae [a9 10 3 2,aV 2 10 2]),.ret])
def QJ4:List (bn × Md):=[(.l 2 2 true,.b [.d,.d])]
theorem QSl(a:bt)(hp:bB (α:=bt) a):aK Tryz.prog 161 [(.a [(.c TI a.1),(.c TI a.2)])] (Hb (id (α:=bt) a)):=by
 refine bz QMl QWG QJ4 0 0 11 Hc kn (λK =>
 K (Hb a)) (λhb=>?_)
 exact au rfl
theorem QWv:Qf Tryz.prog Hc:=Qh λx h=>QSl x.1 h
def tR(t:(List bt)):aB:=⟨(.r QO 0 0 t.length),[(.sl 175 QO (.dp 0 true []) t)],[],false,[]⟩
def He:aJ:=Qg 65 [(.c (.sl QO))] λx=>(some (bB (α:=List bt) x.1),tR (id (α:=List bt) x.1))
def Hf:aF:=⟨[Hc],true⟩
def Ug:af :=
 (ag [(ag [(.ae [ab 8 4,ab 9 0,ba 10 9,aw 11 .lss 8 10]),(.cond 11 .skip (.exit 0))]),(.block 1 (.ae [ab 14 3,ab 15 4,ab 16 0,ab 17 4,aZ 18 16 17 QO,a9 19 18 2,aD 20 161 [19],aZ 21 14 15 QO,aV 21 20 2])),(.ae [ab 12 4,aw 13 .add 12 (ar 1),ab 4 13])])
def Uh:List (Nat × Md):=[(0,.one .d),(3,.one .f),(4,.one .d)]
def Ui:af :=
 (ag [(.ae [ab 22 3,ab 2 22]),.ret])
def QG0:af :=
 (ag [(.ae [ab 2 (.k (.n QO))]),(.ae [ab 5 0,ba 6 5,aC 7 (.mk 175 QO (bG QO) 6),ab 3 7]),(ag [(.ae [ab 4 (ar 0)]),(.block 0 (.loop Uh Ug))]),Ui])
def Uj:List (bn × Md):=[(.t 2,.one (.p 175))]
def Uk:Qb:=TQ 0 0 Uj K
def QM0:Qb:=a0 (aN Hf 0 Ui (Uk K)) (Uk K)
def QSd:Qb:=a7 0 (QM0 K)
def AJ(a:List bt)(i:Int)(out:List bt):Prop:=Loop Hf 0 Uh Ug (QSd K) ⟨[(0,(bf QO a)),(3,(.r QO 0 0 out.length)),(4,(aL i))],[(0,(.sl 175 QO (.dp 0 true []) out))],1⟩
theorem Ul(a:List bt)(i:Int)(out:List bt) (h :
 (aI (decide (i<(a.length:Int))) (((0<=i/\Int.toNat i<a.length)/\((bB (α:=bt) (aq eF a (Int.toNat i)))/\((0<=i/\Int.toNat i<out.length)/\((0+(Int.toNat i))<out.length))))/\(AJ K a (aG (i+1)) (List.take out.length ((out).set (0+(Int.toNat i)) (id (α:=bt) (aq eF a (Int.toNat i))))))) (K (tR (List.take out.length out))))):AJ K a i out :=
 Loop.of h
theorem QLQ(a:List bt)(hp:bB (α:=List bt) a):aK Tryz.prog 65 [(.c (.sl QO) a)] (tR (id (α:=List bt) a)):=by
 refine bz Hf QG0 Uj 0 0 23 He (kc QWv kn) (λK =>
 ((0<=(a.length:Int)/\(a.length:Int)<=ca)/\(AJ K a 0 (List.take (Int.toNat (a.length:Int)) (List.replicate (Int.toNat (a.length:Int)) ((0:Int),(0:Int))))))) (λhb=>?_)
 refine⟨⟨by omega,by rw[gT];have:=Yo hp;omega⟩,?_⟩;refine nM a (A:=λii ll=>AJ (λr'=>r'=tR (id (α:=List bt) a)) a ii ll) (Q:=λz=>tR z=tR (id (α:=List bt) a)) hp ?_ ?_ rfl
 ·intro k x out aW hg ho hx hA;have hw:aG (((k:Nat):Int)+1)=((k+1:Nat):Int):=by have:=Yo hp;rw[QF (by omega) (by omega)];omega
  have g9:k<out.length:=by omega
  refine Ul _ _ _ _ ?_;refine⟨λ_=>?_,λh=>absurd h (by simp;omega)⟩;simp only[Int.toNat_natCast,Nat.zero_add,hg,hw,aW,g9,nK,List.drop_zero,List.take_length,id_eq,and_true,true_and,Int.natCast_nonneg]
  first | exact hA | exact⟨hx,hA⟩
 ·intro out ho hq;refine Ul _ _ _ _ ?_;refine⟨λh=>absurd h (by simp),λ_=>?_⟩;simp only[List.drop_zero,List.take_length];exact hq
theorem QTG:Qf Tryz.prog He:=Qh λx h=>QLQ x.1 h
def Hg(t:QC):aB:=⟨(.a [(aL t.1),(.r [(.sl [TI])] 0 0 ((t.2).length))]),[(.sl 106 [(.sl [TI])] (.dp 0 true []) t.2)],[],false,[]⟩
def Hh:aJ:=Qg 163 [(.a QD)] λx=>(some (bB (α:=QC) x.1),Hg (id (α:=QC) x.1))
def QNR:aF:=⟨[xq],true⟩
def QMF:af :=
 (ag [(.ae [aC 1 (.box 187 0 2),aC 2 (.new 108 (bG QD))]),(.ae [aC 3 (.new 108 (bG QD))]),(.ae [ak 4 1 0,an 5 4 1,ak 6 3 0,aV 6 5 1]),(.ae [ak 7 1 1,an 8 7 1,aD 9 68 [8],ak 10 3 1,aV 10 9 1]),(.ae [a9 11 3 2,aV 2 11 2]),.ret])
def QST:List (bn × Md):=[(.l 2 2 true,.b [.d,.p 106])]
theorem QMv(a:QC)(hp:bB (α:=QC) a):aK Tryz.prog 163 [(.a [(.c TI a.1),(.c (.sl [(.sl [TI])]) a.2)])] (Hg (id (α:=QC) a)):=by
 refine bz QNR QMF QST 0 0 12 Hh (kc GL kn) (λK =>
 ((bB (α:=List (List Int)) a.2)/\K (Hg (a.1,(List.take ((id (α:=List (List Int)) a.2).length) (id (α:=List (List Int)) a.2)))))) (λhb=>?_)
 repeat' (first | refine And.intro ?_ ?_ | exact au (by simp))
 all_goals (simp only[bB,QP,QL,Q0,List.drop_zero,List.take_length,id_eq]at hp ⊢;omega)
theorem QOi:Qf Tryz.prog Hh:=Qh λx h=>QMv x.1 h
def tS(t:(List QC)):aB:=⟨(.r QD 0 0 t.length),[(.sl 108 QD (.dp 0 true []) t)],[],false,[]⟩
def Hi:aJ:=Qg 67 [(.c (.sl QD))] λx=>(some (bB (α:=List QC) x.1),tS (id (α:=List QC) x.1))
def Hj:aF:=⟨[Hh],true⟩
def Um:af :=
 (ag [(ag [(.ae [ab 8 4,ab 9 0,ba 10 9,aw 11 .lss 8 10]),(.cond 11 .skip (.exit 0))]),(.block 1 (.ae [ab 14 3,ab 15 4,ab 16 0,ab 17 4,aZ 18 16 17 QD,a9 19 18 2,aD 20 163 [19],aZ 21 14 15 QD,aV 21 20 2])),(.ae [ab 12 4,aw 13 .add 12 (ar 1),ab 4 13])])
def Un:List (Nat × Md):=[(0,.one .d),(3,.one .f),(4,.one .d)]
def Uo:af :=
 (ag [(.ae [ab 22 3,ab 2 22]),.ret])
def QXC:af :=
 (ag [(.ae [ab 2 (.k (.n QD))]),(.ae [ab 5 0,ba 6 5,aC 7 (.mk 108 QD (bG QD) 6),ab 3 7]),(ag [(.ae [ab 4 (ar 0)]),(.block 0 (.loop Un Um))]),Uo])
def Up:List (bn × Md):=[(.t 2,.one (.p 108))]
def Uq:Qb:=TQ 0 0 Up K
def QR1:Qb:=a0 (aN Hj 0 Uo (Uq K)) (Uq K)
def QQm:Qb:=a7 0 (QR1 K)
def AK(a:List QC)(i:Int)(out:List QC):Prop:=Loop Hj 0 Un Um (QQm K) ⟨[(0,(bf QD a)),(3,(.r QD 0 0 out.length)),(4,(aL i))],[(0,(.sl 108 QD (.dp 0 true []) out))],1⟩
theorem Ur(a:List QC)(i:Int)(out:List QC) (h :
 (aI (decide (i<(a.length:Int))) (((0<=i/\Int.toNat i<a.length)/\((bB (α:=QC) (aq QS a (Int.toNat i)))/\((0<=i/\Int.toNat i<out.length)/\((0+(Int.toNat i))<out.length))))/\(AK K a (aG (i+1)) (List.take out.length ((out).set (0+(Int.toNat i)) ((id (α:=QC) (aq QS a (Int.toNat i))).1,(List.take (((id (α:=QC) (aq QS a (Int.toNat i))).2).length) (List.drop 0 ((id (α:=QC) (aq QS a (Int.toNat i))).2)))))))) (K (tS (List.take out.length out))))):AK K a i out :=
 Loop.of h
theorem QSa(a:List QC)(hp:bB (α:=List QC) a):aK Tryz.prog 67 [(.c (.sl QD) a)] (tS (id (α:=List QC) a)):=by
 refine bz Hj QXC Up 0 0 23 Hi (kc QOi kn) (λK =>
 ((0<=(a.length:Int)/\(a.length:Int)<=ca)/\(AK K a 0 (List.take (Int.toNat (a.length:Int)) (List.replicate (Int.toNat (a.length:Int)) ((0:Int),[])))))) (λhb=>?_)
 refine⟨⟨by omega,by rw[gT];have:=Yo hp;omega⟩,?_⟩;refine nM a (A:=λii ll=>AK (λr'=>r'=tS (id (α:=List QC) a)) a ii ll) (Q:=λz=>tS z=tS (id (α:=List QC) a)) hp ?_ ?_ rfl
 ·intro k x out aW hg ho hx hA;have hw:aG (((k:Nat):Int)+1)=((k+1:Nat):Int):=by have:=Yo hp;rw[QF (by omega) (by omega)];omega
  have g9:k<out.length:=by omega
  refine Ur _ _ _ _ ?_;refine⟨λ_=>?_,λh=>absurd h (by simp;omega)⟩;simp only[Int.toNat_natCast,Nat.zero_add,hg,hw,aW,g9,nK,List.drop_zero,List.take_length,id_eq,and_true,true_and,Int.natCast_nonneg]
  first | exact hA | exact⟨hx,hA⟩
 ·intro out ho hq;refine Ur _ _ _ _ ?_;refine⟨λh=>absurd h (by simp),λ_=>?_⟩;simp only[List.drop_zero,List.take_length];exact hq
theorem QU7:Qf Tryz.prog Hi:=Qh λx h=>QSa x.1 h
def xw(t:Bool):aB:=b6 (bE t)
def Hk:aJ:=Qg 171 [(.a QO),(.a QO)] λx=>(none,xw (aY (α:=bt) x.1 x.2.1))
def QGd:aF:=⟨[],false⟩
def QWe:af :=
 (ag [(.ae [aC 2 (.box 175 0 2),aC 3 (.box 175 1 2),ab 4 (a6 false)]),(ag [(.ae [ak 5 2 0,an 6 5 1,ak 7 3 0,an 8 7 1,aw 9 .neq 6 8]),(.cond 9 (ag [(.ae [ab 4 (a6 false)]),.ret]) .skip)]),(ag [(.ae [ak 10 2 1,an 11 10 1,ak 12 3 1,an 13 12 1,aw 14 .neq 11 13]),(.cond 14 (ag [(.ae [ab 4 (a6 false)]),.ret]) .skip)]),(.ae [ab 4 (a6 true)]),.ret])
def QTi:List (bn × Md):=[(.t 4,.one .d)]
theorem QRN(a:bt)(b:bt):aK Tryz.prog 171 [(.a [(.c TI a.1),(.c TI a.2)]),(.a [(.c TI b.1),(.c TI b.2)])] (xw (aY (α:=bt) a b)):=by
 refine bz QGd QWe QTi 0 0 15 Hk kn (λK =>
 (aI (a.1 != b.1) (K (xw false)) (aI (a.2 != b.2) (K (xw false)) (K (xw true))))) (λhb=>?_)
 refine⟨λh=>au (Eq.symm (decide_eq_false (by rintro rfl;simp[aY]at h))),λh0=>?_⟩;refine⟨λh=>au (Eq.symm (decide_eq_false (by rintro rfl;simp[aY]at h))),λh1=>?_⟩;refine au (Eq.symm (decide_eq_true ?_));simp[aY]at h0 h1;simp[Prod.ext_iff, *]
theorem QHE:Qf Tryz.prog Hk:=Qh λx _=>QRN x.1 x.2.1
def rN(t:Bool):aB:=b6 (bE t)
def Hl:aJ:=Qg 75 [(.c (.sl QO)),(.c (.sl QO))] λx=>(none,rN (aY (α:=List bt) x.1 x.2.1))
def Hm:aF:=⟨[Hk],false⟩
def Us:af :=
 (ag [(ag [(.ae [ab 11 5,ab 12 0,ba 13 12,aw 14 .lss 11 13]),(.cond 14 .skip (.exit 0))]),(.block 1 (ag [(.draw [ab 17 0,ab 18 5,aZ 19 17 18 QO,a9 20 19 2,ab 21 1,ab 22 5,aZ 23 21 22 QO,a9 24 23 2,aD 25 171 [20,24],bL 26 25] []),(.cond 26 (ag [(.ae [ab 4 (a6 false)]),.ret]) .skip)])),(.ae [ab 15 5,aw 16 .add 15 (ar 1),ab 5 16])])
def Ut:List (Nat × Md):=eV [0,1,5]
def Uu:af :=
 (ag [(.ae [ab 4 (a6 true)]),.ret])
def QV8:af :=
 (ag [(.ae [ab 4 (a6 false)]),(ag [(.ae [ab 6 0,ba 7 6,ab 8 1,ba 9 8,aw 10 .neq 7 9]),(.cond 10 (ag [(.ae [ab 4 (a6 false)]),.ret]) .skip)]),(ag [(.ae [ab 5 (ar 0)]),(.block 0 (.loop Ut Us))]),Uu])
def Uv:List (bn × Md):=[(.t 4,.one .d)]
def Uw:Qb:=TQ 0 0 Uv K
def QI3:Qb:=a0 (aN Hm 0 Uu (Uw K)) (Uw K)
def QVR:Qb:=a7 0 (QI3 K)
def Hn(a:List bt)(b:List bt)(i:Int):Prop:=Loop Hm 0 Ut Us (QVR K) ⟨[(0,(bf QO a)),(1,(bf QO b)),(5,(aL i))],[],0⟩
theorem QL4(a:List bt)(b:List bt)(i:Int) (h :
 (aI (decide (i<(a.length:Int))) (((0<=i/\Int.toNat i<a.length)/\(0<=i/\Int.toNat i<b.length))/\(aI (!(aY (α:=bt) (aq eF a (Int.toNat i)) (aq eF b (Int.toNat i)))) (K (rN false)) (Hn K a b (aG (i+1))))) (K (rN true)))):Hn K a b i :=
 Loop.of h
theorem QJ2(a:List bt)(b:List bt):aK Tryz.prog 75 [(.c (.sl QO) a),(.c (.sl QO) b)] (rN (aY (α:=List bt) a b)):=by
 refine bz Hm QV8 Uv 0 0 27 Hl (kc QHE kn) (λK =>
 (aI ((a.length:Int) != (b.length:Int)) (K (rN false)) (Hn K a b 0))) (λhb=>?_)
 exact J9 eF (E:=aY) (λ_ _=>rfl) hb.1.1 (λi h=>QL4 _ a b i h) (Q:=λx=>rN x=rN (aY (α:=List bt) a b)) rfl
theorem QMo:Qf Tryz.prog Hl:=Qh λx _=>QJ2 x.1 x.2.1
def xx(t:Bool):aB:=b6 (bE t)
def Ho:aJ:=Qg 173 [(.a QD),(.a QD)] λx=>(none,xx (aY (α:=QC) x.1 x.2.1))
def QFO:aF:=⟨[xt],false⟩
def QGA:af :=
 (ag [(.ae [aC 2 (.box 108 0 2),aC 3 (.box 108 1 2),ab 4 (a6 false)]),(ag [(.ae [ak 5 2 0,an 6 5 1,ak 7 3 0,an 8 7 1,aw 9 .neq 6 8]),(.cond 9 (ag [(.ae [ab 4 (a6 false)]),.ret]) .skip)]),(ag [(.ae [ak 10 2 1,an 11 10 1,ak 12 3 1,an 13 12 1,aD 14 78 [11,13],bL 15 14]),(.cond 15 (ag [(.ae [ab 4 (a6 false)]),.ret]) .skip)]),(.ae [ab 4 (a6 true)]),.ret])
def QTL:List (bn × Md):=[(.t 4,.one .d)]
theorem QGH(a:QC)(b:QC):aK Tryz.prog 173 [(.a [(.c TI a.1),(.c (.sl [(.sl [TI])]) a.2)]),(.a [(.c TI b.1),(.c (.sl [(.sl [TI])]) b.2)])] (xx (aY (α:=QC) a b)):=by
 refine bz QFO QGA QTL 0 0 16 Ho (kc GZ kn) (λK =>
 (aI (a.1 != b.1) (K (xx false)) (aI (!(aY (α:=List (List Int)) a.2 b.2)) (K (xx false)) (K (xx true))))) (λhb=>?_)
 refine⟨λh=>au (Eq.symm (decide_eq_false (by rintro rfl;simp[aY]at h))),λh0=>?_⟩;refine⟨λh=>au (Eq.symm (decide_eq_false (by rintro rfl;simp[aY]at h))),λh1=>?_⟩;refine au (Eq.symm (decide_eq_true ?_));simp[aY]at h0 h1;simp[Prod.ext_iff, *]
theorem QVV:Qf Tryz.prog Ho:=Qh λx _=>QGH x.1 x.2.1
def rO(t:Bool):aB:=b6 (bE t)
def Hp:aJ:=Qg 77 [(.c (.sl QD)),(.c (.sl QD))] λx=>(none,rO (aY (α:=List QC) x.1 x.2.1))
def Hq:aF:=⟨[Ho],false⟩
def Ux:af :=
 (ag [(ag [(.ae [ab 11 5,ab 12 0,ba 13 12,aw 14 .lss 11 13]),(.cond 14 .skip (.exit 0))]),(.block 1 (ag [(.draw [ab 17 0,ab 18 5,aZ 19 17 18 QD,a9 20 19 2,ab 21 1,ab 22 5,aZ 23 21 22 QD,a9 24 23 2,aD 25 173 [20,24],bL 26 25] []),(.cond 26 (ag [(.ae [ab 4 (a6 false)]),.ret]) .skip)])),(.ae [ab 15 5,aw 16 .add 15 (ar 1),ab 5 16])])
def Uy:List (Nat × Md):=eV [0,1,5]
def Uz:af :=
 (ag [(.ae [ab 4 (a6 true)]),.ret])
def QUu:af :=
 (ag [(.ae [ab 4 (a6 false)]),(ag [(.ae [ab 6 0,ba 7 6,ab 8 1,ba 9 8,aw 10 .neq 7 9]),(.cond 10 (ag [(.ae [ab 4 (a6 false)]),.ret]) .skip)]),(ag [(.ae [ab 5 (ar 0)]),(.block 0 (.loop Uy Ux))]),Uz])
def UA:List (bn × Md):=[(.t 4,.one .d)]
def UB:Qb:=TQ 0 0 UA K
def QQt:Qb:=a0 (aN Hq 0 Uz (UB K)) (UB K)
def QG6:Qb:=a7 0 (QQt K)
def Hr(a:List QC)(b:List QC)(i:Int):Prop:=Loop Hq 0 Uy Ux (QG6 K) ⟨[(0,(bf QD a)),(1,(bf QD b)),(5,(aL i))],[],0⟩
theorem QJp(a:List QC)(b:List QC)(i:Int) (h :
 (aI (decide (i<(a.length:Int))) (((0<=i/\Int.toNat i<a.length)/\(0<=i/\Int.toNat i<b.length))/\(aI (!(aY (α:=QC) (aq QS a (Int.toNat i)) (aq QS b (Int.toNat i)))) (K (rO false)) (Hr K a b (aG (i+1))))) (K (rO true)))):Hr K a b i :=
 Loop.of h
theorem QLE(a:List QC)(b:List QC):aK Tryz.prog 77 [(.c (.sl QD) a),(.c (.sl QD) b)] (rO (aY (α:=List QC) a b)):=by
 refine bz Hq QUu UA 0 0 27 Hp (kc QVV kn) (λK =>
 (aI ((a.length:Int) != (b.length:Int)) (K (rO false)) (Hr K a b 0))) (λhb=>?_)
 exact J9 QS (E:=aY) (λ_ _=>rfl) hb.1.1 (λi h=>QJp _ a b i h) (Q:=λx=>rO x=rO (aY (α:=List QC) a b)) rfl
theorem QXH:Qf Tryz.prog Hp:=Qh λx _=>QLE x.1 x.2.1
def AL(t:Int):aB:=b6 (aL t)
def Hs:aJ:=Qg 152 [(.a aM),(.c TI)] λx=>(some (bJ (α:=aH) x.1 x.2.1),AL (bg (α:=aH) x.1 x.2.1))
def QQi:aF:=⟨[rE],false⟩
def QJd:af :=
 (ag [(.ae [aC 2 (.box 184 0 4),ab 4 (ar 0)]),(.ae [ak 5 2 3,an 6 5 1,ab 7 1,aD 8 59 [6,7],ab 1 8]),(ag [(.ae [ab 9 1,aw 10 .lss 9 (ar 0)]),(.cond 10 (ag [(.ae [ab 4 (ar (-1))]),.ret]) .skip)]),(.ae [ab 11 1,ab 4 11]),.ret])
def QWy:List (bn × Md):=[(.t 4,.one .d)]
theorem QQ5(a:aH)(left:Int)(hp:bJ (α:=aH) a left):aK Tryz.prog 152 [(.a (aT.cells aM a)),(.c TI left)] (AL (bg (α:=aH) a left)):=by
 refine bz QQi QJd QWy 0 0 12 Hs (kc xl kn) (λK =>
 ((bJ (α:=List Int) a.2.2.2 left)/\(aI (decide ((bg (α:=List Int) a.2.2.2 left)<0)) (K (AL (-1:Int))) (K (AL (bg (α:=List Int) a.2.2.2 left)))))) (λhb=>?_)
 refine⟨hp,λh=>au (Z0 (of_decide_eq_true h) (by first | omega | (simp only[QP,QL,Q0];omega)) hp.1),λh=>?_⟩;exact au (congrArg (Z6 · _) (by first | rfl | omega | (simp only[QP,QL,Q0];omega)))
theorem QLO:Qf Tryz.prog Hs:=Qh λx h=>QQ5 x.1 x.2.1 h
def rP(t:Int):aB:=b6 (aL t)
def Ht:aJ:=Qg 56 [(.c (.sl aM)),(.c TI)] λx=>(some (bJ (α:=List aH) x.1 x.2.1),rP (bg (α:=List aH) x.1 x.2.1))
def Hu:aF:=⟨[Hs],false⟩
def UC:af :=
 (ag [(ag [(.ae [ab 12 5,ab 13 0,ba 14 13,aw 15 .lss 12 14]),(.cond 15 .skip (.exit 0))]),(.block 1 (ag [(.ae [ab 18 0,ab 19 5,aZ 20 18 19 aM,a9 21 20 4,ab 22 1,aD 23 152 [21,22],ab 1 23]),(.ae [ab 24 1,aw 25 .lss 24 (ar 0)]),(.cond 25 (ag [(.ae [ab 4 (ar (-1))]),.ret]) .skip)])),(.ae [ab 16 5,aw 17 .add 16 (ar 1),ab 5 17])])
def UD:List (Nat × Md):=eV [0,1,5]
def UE:af :=
 (ag [(.ae [ab 26 1,ab 4 26]),.ret])
def QXr:af :=
 (ag [(.ae [ab 4 (ar 0)]),(.ae [ab 6 1,ab 7 0,ba 8 7,aw 9 .sub 6 8,ab 1 9]),(ag [(.ae [ab 10 1,aw 11 .lss 10 (ar 0)]),(.cond 11 (ag [(.ae [ab 4 (ar (-1))]),.ret]) .skip)]),(ag [(.ae [ab 5 (ar 0)]),(.block 0 (.loop UD UC))]),UE])
def UF:List (bn × Md):=[(.t 4,.one .d)]
def UG:Qb:=TQ 0 0 UF K
def QXw:Qb:=a0 (aN Hu 0 UE (UG K)) (UG K)
def QES:Qb:=a7 0 (QXw K)
def Hv(a:List aH)(bC:Int)(i:Int):Prop:=Loop Hu 0 UD UC (QES K) ⟨[(0,(bf aM a)),(1,(aL bC)),(5,(aL i))],[],0⟩
theorem QVI(a:List aH)(bC:Int)(i:Int) (h :
 (aI (decide (i<(a.length:Int))) (((0<=i/\Int.toNat i<a.length)/\(bJ (α:=aH) (aq b5 a (Int.toNat i)) bC))/\(aI (decide ((bg (α:=aH) (aq b5 a (Int.toNat i)) bC)<0)) (K (rP (-1:Int))) (Hv K a (bg (α:=aH) (aq b5 a (Int.toNat i)) bC) (aG (i+1))))) (K (rP bC)))):Hv K a bC i :=
 Loop.of h
theorem QUX(a:List aH)(left:Int)(hp:bJ (α:=List aH) a left):aK Tryz.prog 56 [(.c (.sl aM) a),(.c TI left)] (rP (bg (α:=List aH) a left)):=by
 refine bz Hu QXr UF 0 0 27 Ht (kc QLO kn) (λK =>
 (aI (decide ((aG (left-(a.length:Int)))<0)) (K (rP (-1:Int))) (Hv K a (aG (left-(a.length:Int))) 0))) (λhb=>?_)
 exact ri (Q:=λx=>rP x=rP (bg (α:=List aH) a left)) b5 hp hb.1.1 (λl i h=>QVI _ a l i h) rfl
theorem QIU:Qf Tryz.prog Ht:=Qh λx h=>QUX x.1 x.2.1 h
def Hw(t:aH):aB:=⟨(.a [(aL t.1),(aL t.2.1),(aL t.2.2.1),(.r [TI] 0 0 ((t.2.2.2).length))]),[(.sl 3 [TI] (.dp 0 true []) t.2.2.2)],[],false,[]⟩
def Hx:aJ:=Qg 162 [(.a aM)] λx=>(some (bB (α:=aH) x.1),Hw (id (α:=aH) x.1))
def QPg:aF:=⟨[rH],true⟩
def QS0:af :=
 (ag [(.ae [aC 1 (.box 184 0 4),aC 2 (.new 134 (bG aM))]),(.ae [aC 3 (.new 134 (bG aM))]),(.ae [ak 4 1 0,an 5 4 1,ak 6 3 0,aV 6 5 1]),(.ae [ak 7 1 1,an 8 7 1,ak 9 3 1,aV 9 8 1]),(.ae [ak 10 1 2,an 11 10 1,ak 12 3 2,aV 12 11 1]),(.ae [ak 13 1 3,an 14 13 1,aD 15 29 [14],ak 16 3 3,aV 16 15 1]),(.ae [a9 17 3 4,aV 2 17 4]),.ret])
def QXK:List (bn × Md):=[(.l 2 4 true,.b [.d,.d,.d,.p 3])]
theorem QOJ(a:aH)(hp:bB (α:=aH) a):aK Tryz.prog 162 [(.a (aT.cells aM a))] (Hw (id (α:=aH) a)):=by
 refine bz QPg QS0 QXK 0 0 18 Hx (kc xp kn) (λK =>
 ((bB (α:=List Int) a.2.2.2)/\K (Hw (a.1,a.2.1,a.2.2.1,(List.take ((id (α:=List Int) a.2.2.2).length) (id (α:=List Int) a.2.2.2)))))) (λhb=>?_)
 repeat' (first | refine And.intro ?_ ?_ | exact au (by simp))
 all_goals (simp only[bB,QP,QL,Q0,List.drop_zero,List.take_length,id_eq]at hp ⊢;omega)
theorem QQ6:Qf Tryz.prog Hx:=Qh λx h=>QOJ x.1 h
def tT(t:(List aH)):aB:=⟨(.r aM 0 0 t.length),[(.sl 134 aM (.dp 0 true []) t)],[],false,[]⟩
def Hy:aJ:=Qg 66 [(.c (.sl aM))] λx=>(some (bB (α:=List aH) x.1),tT (id (α:=List aH) x.1))
def Hz:aF:=⟨[Hx],true⟩
def UH:af :=
 (ag [(ag [(.ae [ab 8 4,ab 9 0,ba 10 9,aw 11 .lss 8 10]),(.cond 11 .skip (.exit 0))]),(.block 1 (.ae [ab 14 3,ab 15 4,ab 16 0,ab 17 4,aZ 18 16 17 aM,a9 19 18 4,aD 20 162 [19],aZ 21 14 15 aM,aV 21 20 4])),(.ae [ab 12 4,aw 13 .add 12 (ar 1),ab 4 13])])
def UI:List (Nat × Md):=[(0,.one .d),(3,.one .f),(4,.one .d)]
def UJ:af :=
 (ag [(.ae [ab 22 3,ab 2 22]),.ret])
def QTc:af :=
 (ag [(.ae [ab 2 (.k (.n aM))]),(.ae [ab 5 0,ba 6 5,aC 7 (.mk 134 aM (bG aM) 6),ab 3 7]),(ag [(.ae [ab 4 (ar 0)]),(.block 0 (.loop UI UH))]),UJ])
def UK:List (bn × Md):=[(.t 2,.one (.p 134))]
def UL:Qb:=TQ 0 0 UK K
def QTf:Qb:=a0 (aN Hz 0 UJ (UL K)) (UL K)
def QVJ:Qb:=a7 0 (QTf K)
def AN(a:List aH)(i:Int)(out:List aH):Prop:=Loop Hz 0 UI UH (QVJ K) ⟨[(0,(bf aM a)),(3,(.r aM 0 0 out.length)),(4,(aL i))],[(0,(.sl 134 aM (.dp 0 true []) out))],1⟩
theorem UM(a:List aH)(i:Int)(out:List aH) (h :
 (aI (decide (i<(a.length:Int))) (((0<=i/\Int.toNat i<a.length)/\((bB (α:=aH) (aq b5 a (Int.toNat i)))/\((0<=i/\Int.toNat i<out.length)/\((0+(Int.toNat i))<out.length))))/\(AN K a (aG (i+1)) (List.take out.length ((out).set (0+(Int.toNat i)) ((id (α:=aH) (aq b5 a (Int.toNat i))).1,(id (α:=aH) (aq b5 a (Int.toNat i))).2.1,(id (α:=aH) (aq b5 a (Int.toNat i))).2.2.1,(List.take (((id (α:=aH) (aq b5 a (Int.toNat i))).2.2.2).length) (List.drop 0 ((id (α:=aH) (aq b5 a (Int.toNat i))).2.2.2)))))))) (K (tT (List.take out.length out))))):AN K a i out :=
 Loop.of h
theorem QVb(a:List aH)(hp:bB (α:=List aH) a):aK Tryz.prog 66 [(.c (.sl aM) a)] (tT (id (α:=List aH) a)):=by
 refine bz Hz QTc UK 0 0 23 Hy (kc QQ6 kn) (λK =>
 ((0<=(a.length:Int)/\(a.length:Int)<=ca)/\(AN K a 0 (List.take (Int.toNat (a.length:Int)) (List.replicate (Int.toNat (a.length:Int)) ((0:Int),(0:Int),(0:Int),[])))))) (λhb=>?_)
 refine⟨⟨by omega,by rw[gT];have:=Yo hp;omega⟩,?_⟩;refine nM a (A:=λii ll=>AN (λr'=>r'=tT (id (α:=List aH) a)) a ii ll) (Q:=λz=>tT z=tT (id (α:=List aH) a)) hp ?_ ?_ rfl
 ·intro k x out aW hg ho hx hA;have hw:aG (((k:Nat):Int)+1)=((k+1:Nat):Int):=by have:=Yo hp;rw[QF (by omega) (by omega)];omega
  have g9:k<out.length:=by omega
  refine UM _ _ _ _ ?_;refine⟨λ_=>?_,λh=>absurd h (by simp;omega)⟩;simp only[Int.toNat_natCast,Nat.zero_add,hg,hw,aW,g9,nK,List.drop_zero,List.take_length,id_eq,and_true,true_and,Int.natCast_nonneg]
  first | exact hA | exact⟨hx,hA⟩
 ·intro out ho hq;refine UM _ _ _ _ ?_;refine⟨λh=>absurd h (by simp),λ_=>?_⟩;simp only[List.drop_zero,List.take_length];exact hq
theorem QQH:Qf Tryz.prog Hy:=Qh λx h=>QVb x.1 h
def rQ(t:Bool):aB:=b6 (bE t)
def HA:aJ:=Qg 172 [(.a aM),(.a aM)] λx=>(none,rQ (aY (α:=aH) x.1 x.2.1))
def QUv:aF:=⟨[rJ],false⟩
def QG1:af :=
 (ag [(.ae [aC 2 (.box 134 0 4),aC 3 (.box 134 1 4),ab 4 (a6 false)]),(ag [(.ae [ak 5 2 0,an 6 5 1,ak 7 3 0,an 8 7 1,aw 9 .neq 6 8]),(.cond 9 (ag [(.ae [ab 4 (a6 false)]),.ret]) .skip)]),(ag [(.ae [ak 10 2 1,an 11 10 1,ak 12 3 1,an 13 12 1,aw 14 .neq 11 13]),(.cond 14 (ag [(.ae [ab 4 (a6 false)]),.ret]) .skip)]),(ag [(.ae [ak 15 2 2,an 16 15 1,ak 17 3 2,an 18 17 1,aw 19 .neq 16 18]),(.cond 19 (ag [(.ae [ab 4 (a6 false)]),.ret]) .skip)]),(ag [(.ae [ak 20 2 3,an 21 20 1,ak 22 3 3,an 23 22 1,aD 24 23 [21,23],bL 25 24]),(.cond 25 (ag [(.ae [ab 4 (a6 false)]),.ret]) .skip)]),(.ae [ab 4 (a6 true)]),.ret])
def QOP:List (bn × Md):=[(.t 4,.one .d)]
theorem QMM(a:aH)(b:aH):aK Tryz.prog 172 [(.a (aT.cells aM a)),(.a (aT.cells aM b))] (rQ (aY (α:=aH) a b)):=by
 refine bz QUv QG1 QOP 0 0 26 HA (kc xr kn) (λK =>
 (aI (a.1 != b.1) (K (rQ false)) (aI (a.2.1 != b.2.1) (K (rQ false)) (aI (a.2.2.1 != b.2.2.1) (K (rQ false)) (aI (!(aY (α:=List Int) a.2.2.2 b.2.2.2)) (K (rQ false)) (K (rQ true))))))) (λhb=>?_)
 refine⟨λh=>au (Eq.symm (decide_eq_false (by rintro rfl;simp[aY]at h))),λh0=>?_⟩;refine⟨λh=>au (Eq.symm (decide_eq_false (by rintro rfl;simp[aY]at h))),λh1=>?_⟩;refine⟨λh=>au (Eq.symm (decide_eq_false (by rintro rfl;simp[aY]at h))),λh2=>?_⟩;refine⟨λh=>au (Eq.symm (decide_eq_false (by rintro rfl;simp[aY]at h))),λh3=>?_⟩;refine au (Eq.symm (decide_eq_true ?_));simp[aY]at h0 h1 h2 h3;simp[Prod.ext_iff, *]
theorem QKP:Qf Tryz.prog HA:=Qh λx _=>QMM x.1 x.2.1
def rR(t:Bool):aB:=b6 (bE t)
def HC:aJ:=Qg 76 [(.c (.sl aM)),(.c (.sl aM))] λx=>(none,rR (aY (α:=List aH) x.1 x.2.1))
def HD:aF:=⟨[HA],false⟩
def UN:af :=
 (ag [(ag [(.ae [ab 11 5,ab 12 0,ba 13 12,aw 14 .lss 11 13]),(.cond 14 .skip (.exit 0))]),(.block 1 (ag [(.draw [ab 17 0,ab 18 5,aZ 19 17 18 aM,a9 20 19 4,ab 21 1,ab 22 5,aZ 23 21 22 aM,a9 24 23 4,aD 25 172 [20,24],bL 26 25] []),(.cond 26 (ag [(.ae [ab 4 (a6 false)]),.ret]) .skip)])),(.ae [ab 15 5,aw 16 .add 15 (ar 1),ab 5 16])])
def UO:List (Nat × Md):=eV [0,1,5]
def UP:af :=
 (ag [(.ae [ab 4 (a6 true)]),.ret])
def QLd:af :=
 (ag [(.ae [ab 4 (a6 false)]),(ag [(.ae [ab 6 0,ba 7 6,ab 8 1,ba 9 8,aw 10 .neq 7 9]),(.cond 10 (ag [(.ae [ab 4 (a6 false)]),.ret]) .skip)]),(ag [(.ae [ab 5 (ar 0)]),(.block 0 (.loop UO UN))]),UP])
def UQ:List (bn × Md):=[(.t 4,.one .d)]
def UR:Qb:=TQ 0 0 UQ K
def QSY:Qb:=a0 (aN HD 0 UP (UR K)) (UR K)
def QFC:Qb:=a7 0 (QSY K)
def HE(a:List aH)(b:List aH)(i:Int):Prop:=Loop HD 0 UO UN (QFC K) ⟨[(0,(bf aM a)),(1,(bf aM b)),(5,(aL i))],[],0⟩
theorem QN6(a:List aH)(b:List aH)(i:Int) (h :
 (aI (decide (i<(a.length:Int))) (((0<=i/\Int.toNat i<a.length)/\(0<=i/\Int.toNat i<b.length))/\(aI (!(aY (α:=aH) (aq b5 a (Int.toNat i)) (aq b5 b (Int.toNat i)))) (K (rR false)) (HE K a b (aG (i+1))))) (K (rR true)))):HE K a b i :=
 Loop.of h
theorem QXo(a:List aH)(b:List aH):aK Tryz.prog 76 [(.c (.sl aM) a),(.c (.sl aM) b)] (rR (aY (α:=List aH) a b)):=by
 refine bz HD QLd UQ 0 0 27 HC (kc QKP kn) (λK =>
 (aI ((a.length:Int) != (b.length:Int)) (K (rR false)) (HE K a b 0))) (λhb=>?_)
 exact J9 b5 (E:=aY) (λ_ _=>rfl) hb.1.1 (λi h=>QN6 _ a b i h) (Q:=λx=>rR x=rR (aY (α:=List aH) a b)) rfl
theorem QIC:Qf Tryz.prog HC:=Qh λx _=>QXo x.1 x.2.1
def Jj(t:Int):aB:=b6 (aL t)
def HF:aJ:=Qg 12 [(.a Qe),(.c TI)] λx=>(some (bJ (α:=Qc) x.1 x.2.1),Jj (bg (α:=Qc) x.1 x.2.1))
def QM3:aF:=⟨[G6,Ht,G8,xm,rE,GB],false⟩
def QIn:af :=
 (ag [(.ae [aC 2 (.box 30 0 14),ab 4 (ar 0)]),(.ae [ak 5 2 1,an 6 5 1,ab 7 1,aD 8 55 [6,7],ab 1 8]),(ag [(.ae [ab 9 1,aw 10 .lss 9 (ar 0)]),(.cond 10 (ag [(.ae [ab 4 (ar (-1))]),.ret]) .skip)]),(.ae [ak 11 2 2,an 12 11 1,ab 13 1,aD 14 56 [12,13],ab 1 14]),(ag [(.ae [ab 15 1,aw 16 .lss 15 (ar 0)]),(.cond 16 (ag [(.ae [ab 4 (ar (-1))]),.ret]) .skip)]),(.ae [ak 17 2 5,an 18 17 1,ab 19 1,aD 20 57 [18,19],ab 1 20]),(ag [(.ae [ab 21 1,aw 22 .lss 21 (ar 0)]),(.cond 22 (ag [(.ae [ab 4 (ar (-1))]),.ret]) .skip)]),(.ae [ak 23 2 6,an 24 23 1,ab 25 1,aD 26 58 [24,25],ab 1 26]),(ag [(.ae [ab 27 1,aw 28 .lss 27 (ar 0)]),(.cond 28 (ag [(.ae [ab 4 (ar (-1))]),.ret]) .skip)]),(.ae [ak 29 2 7,an 30 29 1,ab 31 1,aD 32 59 [30,31],ab 1 32]),(ag [(.ae [ab 33 1,aw 34 .lss 33 (ar 0)]),(.cond 34 (ag [(.ae [ab 4 (ar (-1))]),.ret]) .skip)]),(.ae [ak 35 2 8,an 36 35 1,ab 37 1,aD 38 59 [36,37],ab 1 38]),(ag [(.ae [ab 39 1,aw 40 .lss 39 (ar 0)]),(.cond 40 (ag [(.ae [ab 4 (ar (-1))]),.ret]) .skip)]),(.ae [ak 41 2 9,an 42 41 1,ab 43 1,aD 44 59 [42,43],ab 1 44]),(ag [(.ae [ab 45 1,aw 46 .lss 45 (ar 0)]),(.cond 46 (ag [(.ae [ab 4 (ar (-1))]),.ret]) .skip)]),(.ae [ak 47 2 10,an 48 47 1,ab 49 1,aD 50 59 [48,49],ab 1 50]),(ag [(.ae [ab 51 1,aw 52 .lss 51 (ar 0)]),(.cond 52 (ag [(.ae [ab 4 (ar (-1))]),.ret]) .skip)]),(.ae [ak 53 2 11,a9 54 53 3,ab 55 1,aD 56 60 [54,55],ab 1 56]),(ag [(.ae [ab 57 1,aw 58 .lss 57 (ar 0)]),(.cond 58 (ag [(.ae [ab 4 (ar (-1))]),.ret]) .skip)]),(.ae [ab 59 1,ab 4 59]),.ret])
def QSn:List (bn × Md):=[(.t 4,.one .d)]
theorem QNx(a:Qc)(left:Int)(hp:bJ (α:=Qc) a left):aK Tryz.prog 12 [(.a (aT.cells Qe a)),(.c TI left)] (Jj (bg (α:=Qc) a left)):=by
 refine bz QM3 QIn QSn 0 0 60 HF (kc QFr (kc QIU (kc QKT (kc GA (kc xl (kc QIi kn)))))) (λK =>
 let z8:=bg (α:=List bt) a.2.1 left
 let z5:=bg (α:=List aH) a.2.2.1 z8
 let z3:=bg (α:=List QC) a.2.2.2.2.2.1 z5
 let z6:=bg (α:=List (List Int)) a.2.2.2.2.2.2.1 z3
 let z1:=bg (α:=List Int) a.2.2.2.2.2.2.2.1 z6
 let z7:=bg (α:=List Int) a.2.2.2.2.2.2.2.2.1 z1
 let z2:=bg (α:=List Int) a.2.2.2.2.2.2.2.2.2.1 z7
 let z4:=bg (α:=List Int) a.2.2.2.2.2.2.2.2.2.2.1 z2
 let z9:=bg (α:=QN) a.2.2.2.2.2.2.2.2.2.2.2 z4
 ((bJ (α:=List bt) a.2.1 left)/\(aI (decide (z8<0)) (K (Jj (-1:Int))) ((bJ (α:=List aH) a.2.2.1 z8)/\(aI (decide (z5<0)) (K (Jj (-1:Int))) ((bJ (α:=List QC) a.2.2.2.2.2.1 z5)/\(aI (decide (z3<0)) (K (Jj (-1:Int))) ((bJ (α:=List (List Int)) a.2.2.2.2.2.2.1 z3)/\(aI (decide (z6<0)) (K (Jj (-1:Int))) ((bJ (α:=List Int) a.2.2.2.2.2.2.2.1 z6)/\(aI (decide (z1<0)) (K (Jj (-1:Int))) ((bJ (α:=List Int) a.2.2.2.2.2.2.2.2.1 z1)/\(aI (decide (z7<0)) (K (Jj (-1:Int))) ((bJ (α:=List Int) a.2.2.2.2.2.2.2.2.2.1 z7)/\(aI (decide (z2<0)) (K (Jj (-1:Int))) ((bJ (α:=List Int) a.2.2.2.2.2.2.2.2.2.2.1 z2)/\(aI (decide (z4<0)) (K (Jj (-1:Int))) ((bJ (α:=QN) a.2.2.2.2.2.2.2.2.2.2.2 z4)/\(aI (decide (z9<0)) (K (Jj (-1:Int))) (K (Jj z9))))))))))))))))))))) (λhb=>?_)
 refine⟨hp,λh=>au (Z0 (of_decide_eq_true h) (by first | omega | (simp only[QP,QL,Q0];omega)) hp.1),λh=>?_⟩;rw[Ju (Int.not_lt.1 (of_decide_eq_false h))];refine⟨Jp hp,λh=>au (Z0 (of_decide_eq_true h) (by first | omega | (simp only[QP,QL,Q0];omega)) hp.1),λh=>?_⟩;rw[Ju (Int.not_lt.1 (of_decide_eq_false h))];refine⟨Jp hp,λh=>au (Z0 (of_decide_eq_true h) (by first | omega | (simp only[QP,QL,Q0];omega)) hp.1),λh=>?_⟩;rw[Ju (Int.not_lt.1 (of_decide_eq_false h))];refine⟨Jp hp,λh=>au (Z0 (of_decide_eq_true h) (by first | omega | (simp only[QP,QL,Q0];omega)) hp.1),λh=>?_⟩;rw[Ju (Int.not_lt.1 (of_decide_eq_false h))];refine⟨Jp hp,λh=>au (Z0 (of_decide_eq_true h) (by first | omega | (simp only[QP,QL,Q0];omega)) hp.1),λh=>?_⟩;rw[Ju (Int.not_lt.1 (of_decide_eq_false h))];refine⟨Jp hp,λh=>au (Z0 (of_decide_eq_true h) (by first | omega | (simp only[QP,QL,Q0];omega)) hp.1),λh=>?_⟩;rw[Ju (Int.not_lt.1 (of_decide_eq_false h))];refine⟨Jp hp,λh=>au (Z0 (of_decide_eq_true h) (by first | omega | (simp only[QP,QL,Q0];omega)) hp.1),λh=>?_⟩;rw[Ju (Int.not_lt.1 (of_decide_eq_false h))];refine⟨Jp hp,λh=>au (Z0 (of_decide_eq_true h) (by first | omega | (simp only[QP,QL,Q0];omega)) hp.1),λh=>?_⟩;rw[Ju (Int.not_lt.1 (of_decide_eq_false h))];refine⟨Jp hp,λh=>au (Z0 (of_decide_eq_true h) (by first | omega | (simp only[QP,QL,Q0];omega)) hp.1),λh=>?_⟩;exact au (congrArg (Z6 · _) (by first | rfl | omega | (simp only[QP,QL,Q0];omega)))
theorem QO7:Qf Tryz.prog HF:=Qh λx h=>QNx x.1 x.2.1 h
def rS(t:Int):aB:=b6 (aL t)
def HG:aJ:=Qg 87 [(.c (.sl Qe)),(.c TI)] λx=>(some (bJ (α:=List Qc) x.1 x.2.1),rS (bg (α:=List Qc) x.1 x.2.1))
def HI:aF:=⟨[HF],false⟩
def US:af :=
 (ag [(ag [(.ae [ab 12 5,ab 13 0,ba 14 13,aw 15 .lss 12 14]),(.cond 15 .skip (.exit 0))]),(.block 1 (ag [(.ae [ab 18 0,ab 19 5,aZ 20 18 19 Qe,a9 21 20 14,ab 22 1,aD 23 12 [21,22],ab 1 23]),(.ae [ab 24 1,aw 25 .lss 24 (ar 0)]),(.cond 25 (ag [(.ae [ab 4 (ar (-1))]),.ret]) .skip)])),(.ae [ab 16 5,aw 17 .add 16 (ar 1),ab 5 17])])
def UT:List (Nat × Md):=eV [0,1,5]
def UU:af :=
 (ag [(.ae [ab 26 1,ab 4 26]),.ret])
def QUh:af :=
 (ag [(.ae [ab 4 (ar 0)]),(.ae [ab 6 1,ab 7 0,ba 8 7,aw 9 .sub 6 8,ab 1 9]),(ag [(.ae [ab 10 1,aw 11 .lss 10 (ar 0)]),(.cond 11 (ag [(.ae [ab 4 (ar (-1))]),.ret]) .skip)]),(ag [(.ae [ab 5 (ar 0)]),(.block 0 (.loop UT US))]),UU])
def UW:List (bn × Md):=[(.t 4,.one .d)]
def UX:Qb:=TQ 0 0 UW K
def QMy:Qb:=a0 (aN HI 0 UU (UX K)) (UX K)
def QGv:Qb:=a7 0 (QMy K)
def HJ(a:List Qc)(bC:Int)(i:Int):Prop:=Loop HI 0 UT US (QGv K) ⟨[(0,(bf Qe a)),(1,(aL bC)),(5,(aL i))],[],0⟩
theorem QE1(a:List Qc)(bC:Int)(i:Int) (h :
 (aI (decide (i<(a.length:Int))) (((0<=i/\Int.toNat i<a.length)/\(bJ (α:=Qc) (aq Qy a (Int.toNat i)) bC))/\(aI (decide ((bg (α:=Qc) (aq Qy a (Int.toNat i)) bC)<0)) (K (rS (-1:Int))) (HJ K a (bg (α:=Qc) (aq Qy a (Int.toNat i)) bC) (aG (i+1))))) (K (rS bC)))):HJ K a bC i :=
 Loop.of h
theorem QNq(a:List Qc)(left:Int)(hp:bJ (α:=List Qc) a left):aK Tryz.prog 87 [(.c (.sl Qe) a),(.c TI left)] (rS (bg (α:=List Qc) a left)):=by
 refine bz HI QUh UW 0 0 27 HG (kc QO7 kn) (λK =>
 (aI (decide ((aG (left-(a.length:Int)))<0)) (K (rS (-1:Int))) (HJ K a (aG (left-(a.length:Int))) 0))) (λhb=>?_)
 exact ri (Q:=λx=>rS x=rS (bg (α:=List Qc) a left)) Qy hp hb.1.1 (λl i h=>QE1 _ a l i h) rfl
theorem QKV:Qf Tryz.prog HG:=Qh λx h=>QNq x.1 x.2.1 h
def HK(t:Qc):aB:=⟨(.a [(aL t.1),(.r QO 0 0 ((t.2.1).length)),(.r aM 1 0 ((t.2.2.1).length)),(bE t.2.2.2.1),(bE t.2.2.2.2.1),(.r QD 2 0 ((t.2.2.2.2.2.1).length)),(.r [(.sl [TI])] 3 0 ((t.2.2.2.2.2.2.1).length)),(.r [TI] 4 0 ((t.2.2.2.2.2.2.2.1).length)),(.r [TI] 5 0 ((t.2.2.2.2.2.2.2.2.1).length)),(.r [TI] 6 0 ((t.2.2.2.2.2.2.2.2.2.1).length)),(.r [TI] 7 0 ((t.2.2.2.2.2.2.2.2.2.2.1).length)),(.r [(.sl [TI])] 8 0 ((t.2.2.2.2.2.2.2.2.2.2.2.1).length)),(aL t.2.2.2.2.2.2.2.2.2.2.2.2.1),(bE t.2.2.2.2.2.2.2.2.2.2.2.2.2)]),[(.sl 175 QO (.dp 0 true []) t.2.1),(.sl 134 aM (.dp 0 true []) t.2.2.1),(.sl 108 QD (.dp 0 true []) t.2.2.2.2.2.1),(.sl 106 [(.sl [TI])] (.dp 0 true []) t.2.2.2.2.2.2.1),(.sl 3 [TI] (.dp 0 true []) t.2.2.2.2.2.2.2.1),(.sl 3 [TI] (.dp 0 true []) t.2.2.2.2.2.2.2.2.1),(.sl 3 [TI] (.dp 0 true []) t.2.2.2.2.2.2.2.2.2.1),(.sl 3 [TI] (.dp 0 true []) t.2.2.2.2.2.2.2.2.2.2.1),(.sl 106 [(.sl [TI])] (.dp 0 true []) t.2.2.2.2.2.2.2.2.2.2.2.1)],[],false,[]⟩
def HL:aJ:=Qg 14 [(.a Qe)] λx=>(some (bB (α:=Qc) x.1),HK (id (α:=Qc) x.1))
def QGN:aF:=⟨[He,Hy,Hi,xq,rH,GN],true⟩
def QFg:af :=
 (ag [(.ae [aC 1 (.box 30 0 14),aC 2 (.new 39 (bG Qe))]),(.ae [aC 3 (.new 39 (bG Qe))]),(.ae [ak 4 1 0,an 5 4 1,ak 6 3 0,aV 6 5 1]),(.ae [ak 7 1 1,an 8 7 1,aD 9 65 [8],ak 10 3 1,aV 10 9 1]),(.ae [ak 11 1 2,an 12 11 1,aD 13 66 [12],ak 14 3 2,aV 14 13 1]),(.ae [ak 15 1 3,an 16 15 1,ak 17 3 3,aV 17 16 1]),(.ae [ak 18 1 4,an 19 18 1,ak 20 3 4,aV 20 19 1]),(.ae [ak 21 1 5,an 22 21 1,aD 23 67 [22],ak 24 3 5,aV 24 23 1]),(.ae [ak 25 1 6,an 26 25 1,aD 27 68 [26],ak 28 3 6,aV 28 27 1]),(.ae [ak 29 1 7,an 30 29 1,aD 31 29 [30],ak 32 3 7,aV 32 31 1]),(.ae [ak 33 1 8,an 34 33 1,aD 35 29 [34],ak 36 3 8,aV 36 35 1]),(.ae [ak 37 1 9,an 38 37 1,aD 39 29 [38],ak 40 3 9,aV 40 39 1]),(.ae [ak 41 1 10,an 42 41 1,aD 43 29 [42],ak 44 3 10,aV 44 43 1]),(.ae [ak 45 1 11,a9 46 45 3,aD 47 69 [46],ak 48 3 11,aV 48 47 3]),(.ae [a9 49 3 14,aV 2 49 14]),.ret])
def QOy:List (bn × Md):=[(.l 2 14 true,.b [.d,.p 175,.p 134,.d,.d,.p 108,.p 106,.p 3,.p 3,.p 3,.p 3,.p 106,.d,.d])]
theorem QUG(a:Qc)(hp:bB (α:=Qc) a):aK Tryz.prog 14 [(.a (aT.cells Qe a))] (HK (id (α:=Qc) a)):=by
 refine bz QGN QFg QOy 0 0 50 HL (kc QTG (kc QQH (kc QU7 (kc GL (kc xp (kc QQT kn)))))) (λK =>
 ((bB (α:=List bt) a.2.1)/\((bB (α:=List aH) a.2.2.1)/\((bB (α:=List QC) a.2.2.2.2.2.1)/\((bB (α:=List (List Int)) a.2.2.2.2.2.2.1)/\((bB (α:=List Int) a.2.2.2.2.2.2.2.1)/\((bB (α:=List Int) a.2.2.2.2.2.2.2.2.1)/\((bB (α:=List Int) a.2.2.2.2.2.2.2.2.2.1)/\((bB (α:=List Int) a.2.2.2.2.2.2.2.2.2.2.1)/\((bB (α:=QN) a.2.2.2.2.2.2.2.2.2.2.2)/\K (HK (a.1,(List.take ((id (α:=List bt) a.2.1).length) (id (α:=List bt) a.2.1)),(List.take ((id (α:=List aH) a.2.2.1).length) (id (α:=List aH) a.2.2.1)),a.2.2.2.1,a.2.2.2.2.1,(List.take ((id (α:=List QC) a.2.2.2.2.2.1).length) (id (α:=List QC) a.2.2.2.2.2.1)),(List.take ((id (α:=List (List Int)) a.2.2.2.2.2.2.1).length) (id (α:=List (List Int)) a.2.2.2.2.2.2.1)),(List.take ((id (α:=List Int) a.2.2.2.2.2.2.2.1).length) (id (α:=List Int) a.2.2.2.2.2.2.2.1)),(List.take ((id (α:=List Int) a.2.2.2.2.2.2.2.2.1).length) (id (α:=List Int) a.2.2.2.2.2.2.2.2.1)),(List.take ((id (α:=List Int) a.2.2.2.2.2.2.2.2.2.1).length) (id (α:=List Int) a.2.2.2.2.2.2.2.2.2.1)),(List.take ((id (α:=List Int) a.2.2.2.2.2.2.2.2.2.2.1).length) (id (α:=List Int) a.2.2.2.2.2.2.2.2.2.2.1)),(List.take (((id (α:=QN) a.2.2.2.2.2.2.2.2.2.2.2).1).length) ((id (α:=QN) a.2.2.2.2.2.2.2.2.2.2.2).1)),(id (α:=QN) a.2.2.2.2.2.2.2.2.2.2.2).2.1,(id (α:=QN) a.2.2.2.2.2.2.2.2.2.2.2).2.2)))))))))))) (λhb=>?_)
 repeat' (first | refine And.intro ?_ ?_ | exact au (by simp))
 all_goals (simp only[bB,QP,QL,Q0,List.drop_zero,List.take_length,id_eq]at hp ⊢;omega)
theorem QFq:Qf Tryz.prog HL:=Qh λx h=>QUG x.1 h
def tU(t:(List Qc)):aB:=⟨(.r Qe 0 0 t.length),[(.sl 39 Qe (.dp 0 true []) t)],[],false,[]⟩
def HM:aJ:=Qg 90 [(.c (.sl Qe))] λx=>(some (bB (α:=List Qc) x.1),tU (id (α:=List Qc) x.1))
def HN:aF:=⟨[HL],true⟩
def UY:af :=
 (ag [(ag [(.ae [ab 8 4,ab 9 0,ba 10 9,aw 11 .lss 8 10]),(.cond 11 .skip (.exit 0))]),(.block 1 (.ae [ab 14 3,ab 15 4,ab 16 0,ab 17 4,aZ 18 16 17 Qe,a9 19 18 14,aD 20 14 [19],aZ 21 14 15 Qe,aV 21 20 14])),(.ae [ab 12 4,aw 13 .add 12 (ar 1),ab 4 13])])
def UZ:List (Nat × Md):=[(0,.one .d),(3,.one .f),(4,.one .d)]
def U0:af :=
 (ag [(.ae [ab 22 3,ab 2 22]),.ret])
def QRM:af :=
 (ag [(.ae [ab 2 (.k (.n Qe))]),(.ae [ab 5 0,ba 6 5,aC 7 (.mk 39 Qe (bG Qe) 6),ab 3 7]),(ag [(.ae [ab 4 (ar 0)]),(.block 0 (.loop UZ UY))]),U0])
def U1:List (bn × Md):=[(.t 2,.one (.p 39))]
def U2:Qb:=TQ 0 0 U1 K
def QJb:Qb:=a0 (aN HN 0 U0 (U2 K)) (U2 K)
def QHP:Qb:=a7 0 (QJb K)
def AP(a:List Qc)(i:Int)(out:List Qc):Prop:=Loop HN 0 UZ UY (QHP K) ⟨[(0,(bf Qe a)),(3,(.r Qe 0 0 out.length)),(4,(aL i))],[(0,(.sl 39 Qe (.dp 0 true []) out))],1⟩
theorem U3(a:List Qc)(i:Int)(out:List Qc) (h :
 let z1:=id (α:=Qc) (aq Qy a (Int.toNat i))
 (aI (decide (i<(a.length:Int))) (((0<=i/\Int.toNat i<a.length)/\((bB (α:=Qc) (aq Qy a (Int.toNat i)))/\((0<=i/\Int.toNat i<out.length)/\((0+(Int.toNat i))<out.length))))/\(AP K a (aG (i+1)) (List.take out.length ((out).set (0+(Int.toNat i)) (z1.1,(List.take ((z1.2.1).length) (List.drop 0 (z1.2.1))),(List.take ((z1.2.2.1).length) (List.drop 0 (z1.2.2.1))),z1.2.2.2.1,z1.2.2.2.2.1,(List.take ((z1.2.2.2.2.2.1).length) (List.drop 0 (z1.2.2.2.2.2.1))),(List.take ((z1.2.2.2.2.2.2.1).length) (List.drop 0 (z1.2.2.2.2.2.2.1))),(List.take ((z1.2.2.2.2.2.2.2.1).length) (List.drop 0 (z1.2.2.2.2.2.2.2.1))),(List.take ((z1.2.2.2.2.2.2.2.2.1).length) (List.drop 0 (z1.2.2.2.2.2.2.2.2.1))),(List.take ((z1.2.2.2.2.2.2.2.2.2.1).length) (List.drop 0 (z1.2.2.2.2.2.2.2.2.2.1))),(List.take ((z1.2.2.2.2.2.2.2.2.2.2.1).length) (List.drop 0 (z1.2.2.2.2.2.2.2.2.2.2.1))),(List.take ((z1.2.2.2.2.2.2.2.2.2.2.2.1).length) (List.drop 0 (z1.2.2.2.2.2.2.2.2.2.2.2.1))),z1.2.2.2.2.2.2.2.2.2.2.2.2.1,z1.2.2.2.2.2.2.2.2.2.2.2.2.2))))) (K (tU (List.take out.length out))))):AP K a i out :=
 Loop.of h
theorem QSr(a:List Qc)(hp:bB (α:=List Qc) a):aK Tryz.prog 90 [(.c (.sl Qe) a)] (tU (id (α:=List Qc) a)):=by
 refine bz HN QRM U1 0 0 23 HM (kc QFq kn) (λK =>
 ((0<=(a.length:Int)/\(a.length:Int)<=ca)/\(AP K a 0 (List.take (Int.toNat (a.length:Int)) (List.replicate (Int.toNat (a.length:Int)) ((0:Int),[],[],false,false,[],[],[],[],[],[],[],(0:Int),false)))))) (λhb=>?_)
 refine⟨⟨by omega,by rw[gT];have:=Yo hp;omega⟩,?_⟩;refine nM a (A:=λii ll=>AP (λr'=>r'=tU (id (α:=List Qc) a)) a ii ll) (Q:=λz=>tU z=tU (id (α:=List Qc) a)) hp ?_ ?_ rfl
 ·intro k x out aW hg ho hx hA;have hw:aG (((k:Nat):Int)+1)=((k+1:Nat):Int):=by have:=Yo hp;rw[QF (by omega) (by omega)];omega
  have g9:k<out.length:=by omega
  refine U3 _ _ _ _ ?_
  conv=>zeta
  refine⟨λ_=>?_,λh=>absurd h (by simp;omega)⟩;simp only[Int.toNat_natCast,Nat.zero_add,hg,hw,aW,g9,nK,List.drop_zero,List.take_length,id_eq,and_true,true_and,Int.natCast_nonneg]
  first | exact hA | exact⟨hx,hA⟩
 ·intro out ho hq;refine U3 _ _ _ _ ?_
  conv=>zeta
  refine⟨λh=>absurd h (by simp),λ_=>?_⟩;simp only[List.drop_zero,List.take_length];exact hq
theorem QPa:Qf Tryz.prog HM:=Qh λx h=>QSr x.1 h
def YK(t:Bool):aB:=b6 (bE t)
def HO:aJ:=Qg 16 [(.a Qe),(.a Qe)] λx=>(none,YK (aY (α:=Qc) x.1 x.2.1))
def QH4:aF:=⟨[Hl,HC,Hp,xt,rJ,G1],false⟩
def QWB:af :=
 (ag [(.ae [aC 2 (.box 39 0 14),aC 3 (.box 39 1 14),ab 4 (a6 false)]),(ag [(.ae [ak 5 2 0,an 6 5 1,ak 7 3 0,an 8 7 1,aw 9 .neq 6 8]),(.cond 9 (ag [(.ae [ab 4 (a6 false)]),.ret]) .skip)]),(ag [(.ae [ak 10 2 1,an 11 10 1,ak 12 3 1,an 13 12 1,aD 14 75 [11,13],bL 15 14]),(.cond 15 (ag [(.ae [ab 4 (a6 false)]),.ret]) .skip)]),(ag [(.ae [ak 16 2 2,an 17 16 1,ak 18 3 2,an 19 18 1,aD 20 76 [17,19],bL 21 20]),(.cond 21 (ag [(.ae [ab 4 (a6 false)]),.ret]) .skip)]),(ag [(.ae [ak 22 2 3,an 23 22 1,ak 24 3 3,an 25 24 1,aC 26 (.ie true 23 25)]),(.cond 26 (ag [(.ae [ab 4 (a6 false)]),.ret]) .skip)]),(ag [(.ae [ak 27 2 4,an 28 27 1,ak 29 3 4,an 30 29 1,aC 31 (.ie true 28 30)]),(.cond 31 (ag [(.ae [ab 4 (a6 false)]),.ret]) .skip)]),(ag [(.ae [ak 32 2 5,an 33 32 1,ak 34 3 5,an 35 34 1,aD 36 77 [33,35],bL 37 36]),(.cond 37 (ag [(.ae [ab 4 (a6 false)]),.ret]) .skip)]),(ag [(.ae [ak 38 2 6,an 39 38 1,ak 40 3 6,an 41 40 1,aD 42 78 [39,41],bL 43 42]),(.cond 43 (ag [(.ae [ab 4 (a6 false)]),.ret]) .skip)]),(ag [(.ae [ak 44 2 7,an 45 44 1,ak 46 3 7,an 47 46 1,aD 48 23 [45,47],bL 49 48]),(.cond 49 (ag [(.ae [ab 4 (a6 false)]),.ret]) .skip)]),(ag [(.ae [ak 50 2 8,an 51 50 1,ak 52 3 8,an 53 52 1,aD 54 23 [51,53],bL 55 54]),(.cond 55 (ag [(.ae [ab 4 (a6 false)]),.ret]) .skip)]),(ag [(.ae [ak 56 2 9,an 57 56 1,ak 58 3 9,an 59 58 1,aD 60 23 [57,59],bL 61 60]),(.cond 61 (ag [(.ae [ab 4 (a6 false)]),.ret]) .skip)]),(ag [(.ae [ak 62 2 10,an 63 62 1,ak 64 3 10,an 65 64 1,aD 66 23 [63,65],bL 67 66]),(.cond 67 (ag [(.ae [ab 4 (a6 false)]),.ret]) .skip)]),(ag [(.ae [ak 68 2 11,a9 69 68 3,ak 70 3 11,a9 71 70 3,aD 72 46 [69,71],bL 73 72]),(.cond 73 (ag [(.ae [ab 4 (a6 false)]),.ret]) .skip)]),(.ae [ab 4 (a6 true)]),.ret])
def QUr:List (bn × Md):=[(.t 4,.one .d)]
theorem QUN(a:Qc)(b:Qc):aK Tryz.prog 16 [(.a (aT.cells Qe a)),(.a (aT.cells Qe b))] (YK (aY (α:=Qc) a b)):=by
 refine bz QH4 QWB QUr 0 0 74 HO (kc QMo (kc QIC (kc QXH (kc GZ (kc xr (kc QF5 kn)))))) (λK =>
 (aI (a.1 != b.1) (K (YK false)) (aI (!(aY (α:=List bt) a.2.1 b.2.1)) (K (YK false)) (aI (!(aY (α:=List aH) a.2.2.1 b.2.2.1)) (K (YK false)) (aI (!(a.2.2.2.1==b.2.2.2.1)) (K (YK false)) (aI (!(a.2.2.2.2.1==b.2.2.2.2.1)) (K (YK false)) (aI (!(aY (α:=List QC) a.2.2.2.2.2.1 b.2.2.2.2.2.1)) (K (YK false)) (aI (!(aY (α:=List (List Int)) a.2.2.2.2.2.2.1 b.2.2.2.2.2.2.1)) (K (YK false)) (aI (!(aY (α:=List Int) a.2.2.2.2.2.2.2.1 b.2.2.2.2.2.2.2.1)) (K (YK false)) (aI (!(aY (α:=List Int) a.2.2.2.2.2.2.2.2.1 b.2.2.2.2.2.2.2.2.1)) (K (YK false)) (aI (!(aY (α:=List Int) a.2.2.2.2.2.2.2.2.2.1 b.2.2.2.2.2.2.2.2.2.1)) (K (YK false)) (aI (!(aY (α:=List Int) a.2.2.2.2.2.2.2.2.2.2.1 b.2.2.2.2.2.2.2.2.2.2.1)) (K (YK false)) (aI (!(aY (α:=QN) a.2.2.2.2.2.2.2.2.2.2.2 b.2.2.2.2.2.2.2.2.2.2.2)) (K (YK false)) (K (YK true))))))))))))))) (λhb=>?_)
 refine⟨λh=>au (Eq.symm (decide_eq_false (by rintro rfl;simp[aY]at h))),λh0=>?_⟩;refine⟨λh=>au (Eq.symm (decide_eq_false (by rintro rfl;simp[aY]at h))),λh1=>?_⟩;refine⟨λh=>au (Eq.symm (decide_eq_false (by rintro rfl;simp[aY]at h))),λh2=>?_⟩;refine⟨λh=>au (Eq.symm (decide_eq_false (by rintro rfl;simp[aY]at h))),λh3=>?_⟩;refine⟨λh=>au (Eq.symm (decide_eq_false (by rintro rfl;simp[aY]at h))),λh4=>?_⟩;refine⟨λh=>au (Eq.symm (decide_eq_false (by rintro rfl;simp[aY]at h))),λh5=>?_⟩;refine⟨λh=>au (Eq.symm (decide_eq_false (by rintro rfl;simp[aY]at h))),λh6=>?_⟩;refine⟨λh=>au (Eq.symm (decide_eq_false (by rintro rfl;simp[aY]at h))),λh7=>?_⟩;refine⟨λh=>au (Eq.symm (decide_eq_false (by rintro rfl;simp[aY]at h))),λh8=>?_⟩;refine⟨λh=>au (Eq.symm (decide_eq_false (by rintro rfl;simp[aY]at h))),λh9=>?_⟩;refine⟨λh=>au (Eq.symm (decide_eq_false (by rintro rfl;simp[aY]at h))),λnh=>?_⟩;refine⟨λh=>au (Eq.symm (decide_eq_false (by rintro rfl;simp[aY]at h))),λxy=>?_⟩;refine au (Eq.symm (decide_eq_true ?_));simp[aY]at h0 h1 h2 h3 h4 h5 h6 h7 h8 h9 nh xy;simp[Prod.ext_iff, *]
theorem QKH:Qf Tryz.prog HO:=Qh λx _=>QUN x.1 x.2.1
def rT(t:Bool):aB:=b6 (bE t)
def HP:aJ:=Qg 93 [(.c (.sl Qe)),(.c (.sl Qe))] λx=>(none,rT (aY (α:=List Qc) x.1 x.2.1))
def HQ:aF:=⟨[HO],false⟩
def U4:af :=
 (ag [(ag [(.ae [ab 11 5,ab 12 0,ba 13 12,aw 14 .lss 11 13]),(.cond 14 .skip (.exit 0))]),(.block 1 (ag [(.draw [ab 17 0,ab 18 5,aZ 19 17 18 Qe,a9 20 19 14,ab 21 1,ab 22 5,aZ 23 21 22 Qe,a9 24 23 14,aD 25 16 [20,24],bL 26 25] []),(.cond 26 (ag [(.ae [ab 4 (a6 false)]),.ret]) .skip)])),(.ae [ab 15 5,aw 16 .add 15 (ar 1),ab 5 16])])
def U5:List (Nat × Md):=eV [0,1,5]
def U6:af :=
 (ag [(.ae [ab 4 (a6 true)]),.ret])
def QNN:af :=
 (ag [(.ae [ab 4 (a6 false)]),(ag [(.ae [ab 6 0,ba 7 6,ab 8 1,ba 9 8,aw 10 .neq 7 9]),(.cond 10 (ag [(.ae [ab 4 (a6 false)]),.ret]) .skip)]),(ag [(.ae [ab 5 (ar 0)]),(.block 0 (.loop U5 U4))]),U6])
def U7:List (bn × Md):=[(.t 4,.one .d)]
def U8:Qb:=TQ 0 0 U7 K
def QUy:Qb:=a0 (aN HQ 0 U6 (U8 K)) (U8 K)
def QXk:Qb:=a7 0 (QUy K)
def HR(a:List Qc)(b:List Qc)(i:Int):Prop:=Loop HQ 0 U5 U4 (QXk K) ⟨[(0,(bf Qe a)),(1,(bf Qe b)),(5,(aL i))],[],0⟩
theorem QGg(a:List Qc)(b:List Qc)(i:Int) (h :
 (aI (decide (i<(a.length:Int))) (((0<=i/\Int.toNat i<a.length)/\(0<=i/\Int.toNat i<b.length))/\(aI (!(aY (α:=Qc) (aq Qy a (Int.toNat i)) (aq Qy b (Int.toNat i)))) (K (rT false)) (HR K a b (aG (i+1))))) (K (rT true)))):HR K a b i :=
 Loop.of h
theorem QLV(a:List Qc)(b:List Qc):aK Tryz.prog 93 [(.c (.sl Qe) a),(.c (.sl Qe) b)] (rT (aY (α:=List Qc) a b)):=by
 refine bz HQ QNN U7 0 0 27 HP (kc QKH kn) (λK =>
 (aI ((a.length:Int) != (b.length:Int)) (K (rT false)) (HR K a b 0))) (λhb=>?_)
 exact J9 Qy (E:=aY) (λ_ _=>rfl) hb.1.1 (λi h=>QGg _ a b i h) (Q:=λx=>rT x=rT (aY (α:=List Qc) a b)) rfl
theorem QKx:Qf Tryz.prog HP:=Qh λx _=>QLV x.1 x.2.1
def AQ(t:Int):aB:=b6 (aL t)
def HS:aJ:=Qg 260 [(.a Qs),(.c TI)] λx=>(some (bJ (α:=Ql) x.1 x.2.1),AQ (bg (α:=Ql) x.1 x.2.1))
def QJh:aF:=⟨[rE],false⟩
def QWi:af :=
 (ag [(.ae [aC 2 (.box 249 0 2),ab 4 (ar 0)]),(.ae [ak 5 2 1,an 6 5 1,ab 7 1,aD 8 59 [6,7],ab 1 8]),(ag [(.ae [ab 9 1,aw 10 .lss 9 (ar 0)]),(.cond 10 (ag [(.ae [ab 4 (ar (-1))]),.ret]) .skip)]),(.ae [ab 11 1,ab 4 11]),.ret])
def QJJ:List (bn × Md):=[(.t 4,.one .d)]
theorem QXc(a:Ql)(left:Int)(hp:bJ (α:=Ql) a left):aK Tryz.prog 260 [(.a [(.c TI a.1),(.c (.sl [TI]) a.2)]),(.c TI left)] (AQ (bg (α:=Ql) a left)):=by
 refine bz QJh QWi QJJ 0 0 12 HS (kc xl kn) (λK =>
 ((bJ (α:=List Int) a.2 left)/\(aI (decide ((bg (α:=List Int) a.2 left)<0)) (K (AQ (-1:Int))) (K (AQ (bg (α:=List Int) a.2 left)))))) (λhb=>?_)
 refine⟨hp,λh=>au (Z0 (of_decide_eq_true h) (by first | omega | (simp only[QP,QL,Q0];omega)) hp.1),λh=>?_⟩;exact au (congrArg (Z6 · _) (by first | rfl | omega | (simp only[QP,QL,Q0];omega)))
theorem QUf:Qf Tryz.prog HS:=Qh λx h=>QXc x.1 x.2.1 h
def rU(t:Int):aB:=b6 (aL t)
def HT:aJ:=Qg 234 [(.c (.sl Qs)),(.c TI)] λx=>(some (bJ (α:=List Ql) x.1 x.2.1),rU (bg (α:=List Ql) x.1 x.2.1))
def HU:aF:=⟨[HS],false⟩
def U9:af :=
 (ag [(ag [(.ae [ab 12 5,ab 13 0,ba 14 13,aw 15 .lss 12 14]),(.cond 15 .skip (.exit 0))]),(.block 1 (ag [(.ae [ab 18 0,ab 19 5,aZ 20 18 19 Qs,a9 21 20 2,ab 22 1,aD 23 260 [21,22],ab 1 23]),(.ae [ab 24 1,aw 25 .lss 24 (ar 0)]),(.cond 25 (ag [(.ae [ab 4 (ar (-1))]),.ret]) .skip)])),(.ae [ab 16 5,aw 17 .add 16 (ar 1),ab 5 17])])
def Va:List (Nat × Md):=eV [0,1,5]
def Vb:af :=
 (ag [(.ae [ab 26 1,ab 4 26]),.ret])
def QGG:af :=
 (ag [(.ae [ab 4 (ar 0)]),(.ae [ab 6 1,ab 7 0,ba 8 7,aw 9 .sub 6 8,ab 1 9]),(ag [(.ae [ab 10 1,aw 11 .lss 10 (ar 0)]),(.cond 11 (ag [(.ae [ab 4 (ar (-1))]),.ret]) .skip)]),(ag [(.ae [ab 5 (ar 0)]),(.block 0 (.loop Va U9))]),Vb])
def Vc:List (bn × Md):=[(.t 4,.one .d)]
def Vd:Qb:=TQ 0 0 Vc K
def QSu:Qb:=a0 (aN HU 0 Vb (Vd K)) (Vd K)
def QKA:Qb:=a7 0 (QSu K)
def HV(a:List Ql)(bC:Int)(i:Int):Prop:=Loop HU 0 Va U9 (QKA K) ⟨[(0,(bf Qs a)),(1,(aL bC)),(5,(aL i))],[],0⟩
theorem QRI(a:List Ql)(bC:Int)(i:Int) (h :
 (aI (decide (i<(a.length:Int))) (((0<=i/\Int.toNat i<a.length)/\(bJ (α:=Ql) (aq ((0,[]):Ql) a (Int.toNat i)) bC))/\(aI (decide ((bg (α:=Ql) (aq ((0,[]):Ql) a (Int.toNat i)) bC)<0)) (K (rU (-1:Int))) (HV K a (bg (α:=Ql) (aq ((0,[]):Ql) a (Int.toNat i)) bC) (aG (i+1))))) (K (rU bC)))):HV K a bC i :=
 Loop.of h
theorem QOh(a:List Ql)(left:Int)(hp:bJ (α:=List Ql) a left):aK Tryz.prog 234 [(.c (.sl Qs) a),(.c TI left)] (rU (bg (α:=List Ql) a left)):=by
 refine bz HU QGG Vc 0 0 27 HT (kc QUf kn) (λK =>
 (aI (decide ((aG (left-(a.length:Int)))<0)) (K (rU (-1:Int))) (HV K a (aG (left-(a.length:Int))) 0))) (λhb=>?_)
 exact ri (Q:=λx=>rU x=rU (bg (α:=List Ql) a left)) ((0,[]):Ql) hp hb.1.1 (λl i h=>QRI _ a l i h) rfl
theorem QLy:Qf Tryz.prog HT:=Qh λx h=>QOh x.1 x.2.1 h
def AR(t:Int):aB:=b6 (aL t)
def HW:aJ:=Qg 175 [(.a Qj),(.c TI)] λx=>(some (bJ (α:=Qd) x.1 x.2.1),AR (bg (α:=Qd) x.1 x.2.1))
def QLG:aF:=⟨[HT],false⟩
def QIT:af :=
 (ag [(.ae [aC 2 (.box 208 0 2),ab 4 (ar 0)]),(.ae [ak 5 2 1,an 6 5 1,ab 7 1,aD 8 234 [6,7],ab 1 8]),(ag [(.ae [ab 9 1,aw 10 .lss 9 (ar 0)]),(.cond 10 (ag [(.ae [ab 4 (ar (-1))]),.ret]) .skip)]),(.ae [ab 11 1,ab 4 11]),.ret])
def QTR:List (bn × Md):=[(.t 4,.one .d)]
theorem QWS(a:Qd)(left:Int)(hp:bJ (α:=Qd) a left):aK Tryz.prog 175 [(.a [(.c TI a.1),(.c (.sl Qs) a.2)]),(.c TI left)] (AR (bg (α:=Qd) a left)):=by
 refine bz QLG QIT QTR 0 0 12 HW (kc QLy kn) (λK =>
 ((bJ (α:=List Ql) a.2 left)/\(aI (decide ((bg (α:=List Ql) a.2 left)<0)) (K (AR (-1:Int))) (K (AR (bg (α:=List Ql) a.2 left)))))) (λhb=>?_)
 refine⟨hp,λh=>au (Z0 (of_decide_eq_true h) (by first | omega | (simp only[QP,QL,Q0];omega)) hp.1),λh=>?_⟩;exact au (congrArg (Z6 · _) (by first | rfl | omega | (simp only[QP,QL,Q0];omega)))
theorem QXd:Qf Tryz.prog HW:=Qh λx h=>QWS x.1 x.2.1 h
def rV(t:Int):aB:=b6 (aL t)
def HX:aJ:=Qg 88 [(.c (.sl Qj)),(.c TI)] λx=>(some (bJ (α:=List Qd) x.1 x.2.1),rV (bg (α:=List Qd) x.1 x.2.1))
def HY:aF:=⟨[HW],false⟩
def Ve:af :=
 (ag [(ag [(.ae [ab 12 5,ab 13 0,ba 14 13,aw 15 .lss 12 14]),(.cond 15 .skip (.exit 0))]),(.block 1 (ag [(.ae [ab 18 0,ab 19 5,aZ 20 18 19 Qj,a9 21 20 2,ab 22 1,aD 23 175 [21,22],ab 1 23]),(.ae [ab 24 1,aw 25 .lss 24 (ar 0)]),(.cond 25 (ag [(.ae [ab 4 (ar (-1))]),.ret]) .skip)])),(.ae [ab 16 5,aw 17 .add 16 (ar 1),ab 5 17])])
def Vf:List (Nat × Md):=eV [0,1,5]
def Vg:af :=
 (ag [(.ae [ab 26 1,ab 4 26]),.ret])
def QQ4:af :=
 (ag [(.ae [ab 4 (ar 0)]),(.ae [ab 6 1,ab 7 0,ba 8 7,aw 9 .sub 6 8,ab 1 9]),(ag [(.ae [ab 10 1,aw 11 .lss 10 (ar 0)]),(.cond 11 (ag [(.ae [ab 4 (ar (-1))]),.ret]) .skip)]),(ag [(.ae [ab 5 (ar 0)]),(.block 0 (.loop Vf Ve))]),Vg])
def Vh:List (bn × Md):=[(.t 4,.one .d)]
def Vi:Qb:=TQ 0 0 Vh K
def QTe:Qb:=a0 (aN HY 0 Vg (Vi K)) (Vi K)
def QTY:Qb:=a7 0 (QTe K)
def HZ(a:List Qd)(bC:Int)(i:Int):Prop:=Loop HY 0 Vf Ve (QTY K) ⟨[(0,(bf Qj a)),(1,(aL bC)),(5,(aL i))],[],0⟩
theorem QOc(a:List Qd)(bC:Int)(i:Int) (h :
 (aI (decide (i<(a.length:Int))) (((0<=i/\Int.toNat i<a.length)/\(bJ (α:=Qd) (aq Qv a (Int.toNat i)) bC))/\(aI (decide ((bg (α:=Qd) (aq Qv a (Int.toNat i)) bC)<0)) (K (rV (-1:Int))) (HZ K a (bg (α:=Qd) (aq Qv a (Int.toNat i)) bC) (aG (i+1))))) (K (rV bC)))):HZ K a bC i :=
 Loop.of h
theorem QOz(a:List Qd)(left:Int)(hp:bJ (α:=List Qd) a left):aK Tryz.prog 88 [(.c (.sl Qj) a),(.c TI left)] (rV (bg (α:=List Qd) a left)):=by
 refine bz HY QQ4 Vh 0 0 27 HX (kc QXd kn) (λK =>
 (aI (decide ((aG (left-(a.length:Int)))<0)) (K (rV (-1:Int))) (HZ K a (aG (left-(a.length:Int))) 0))) (λhb=>?_)
 exact ri (Q:=λx=>rV x=rV (bg (α:=List Qd) a left)) Qv hp hb.1.1 (λl i h=>QOc _ a l i h) rfl
theorem QLS:Qf Tryz.prog HX:=Qh λx h=>QOz x.1 x.2.1 h
def H0(t:Ql):aB:=⟨(.a [(aL t.1),(.r [TI] 0 0 ((t.2).length))]),[(.sl 3 [TI] (.dp 0 true []) t.2)],[],false,[]⟩
def H3:aJ:=Qg 261 [(.a Qs)] λx=>(some (bB (α:=Ql) x.1),H0 (id (α:=Ql) x.1))
def QFe:aF:=⟨[rH],true⟩
def QH9:af :=
 (ag [(.ae [aC 1 (.box 249 0 2),aC 2 (.new 178 (bG Qs))]),(.ae [aC 3 (.new 178 (bG Qs))]),(.ae [ak 4 1 0,an 5 4 1,ak 6 3 0,aV 6 5 1]),(.ae [ak 7 1 1,an 8 7 1,aD 9 29 [8],ak 10 3 1,aV 10 9 1]),(.ae [a9 11 3 2,aV 2 11 2]),.ret])
def QTH:List (bn × Md):=[(.l 2 2 true,.b [.d,.p 3])]
theorem QU4(a:Ql)(hp:bB (α:=Ql) a):aK Tryz.prog 261 [(.a [(.c TI a.1),(.c (.sl [TI]) a.2)])] (H0 (id (α:=Ql) a)):=by
 refine bz QFe QH9 QTH 0 0 12 H3 (kc xp kn) (λK =>
 ((bB (α:=List Int) a.2)/\K (H0 (a.1,(List.take ((id (α:=List Int) a.2).length) (id (α:=List Int) a.2)))))) (λhb=>?_)
 repeat' (first | refine And.intro ?_ ?_ | exact au (by simp))
 all_goals (simp only[bB,QP,QL,Q0,List.drop_zero,List.take_length,id_eq]at hp ⊢;omega)
theorem QHQ:Qf Tryz.prog H3:=Qh λx h=>QU4 x.1 h
def tV(t:(List Ql)):aB:=⟨(.r Qs 0 0 t.length),[(.sl 178 Qs (.dp 0 true []) t)],[],false,[]⟩
def H4:aJ:=Qg 235 [(.c (.sl Qs))] λx=>(some (bB (α:=List Ql) x.1),tV (id (α:=List Ql) x.1))
def H5:aF:=⟨[H3],true⟩
def Vj:af :=
 (ag [(ag [(.ae [ab 8 4,ab 9 0,ba 10 9,aw 11 .lss 8 10]),(.cond 11 .skip (.exit 0))]),(.block 1 (.ae [ab 14 3,ab 15 4,ab 16 0,ab 17 4,aZ 18 16 17 Qs,a9 19 18 2,aD 20 261 [19],aZ 21 14 15 Qs,aV 21 20 2])),(.ae [ab 12 4,aw 13 .add 12 (ar 1),ab 4 13])])
def Vk:List (Nat × Md):=[(0,.one .d),(3,.one .f),(4,.one .d)]
def Vl:af :=
 (ag [(.ae [ab 22 3,ab 2 22]),.ret])
def QF9:af :=
 (ag [(.ae [ab 2 (.k (.n Qs))]),(.ae [ab 5 0,ba 6 5,aC 7 (.mk 178 Qs (bG Qs) 6),ab 3 7]),(ag [(.ae [ab 4 (ar 0)]),(.block 0 (.loop Vk Vj))]),Vl])
def Vm:List (bn × Md):=[(.t 2,.one (.p 178))]
def Vn:Qb:=TQ 0 0 Vm K
def QGx:Qb:=a0 (aN H5 0 Vl (Vn K)) (Vn K)
def QKK:Qb:=a7 0 (QGx K)
def AS(a:List Ql)(i:Int)(out:List Ql):Prop:=Loop H5 0 Vk Vj (QKK K) ⟨[(0,(bf Qs a)),(3,(.r Qs 0 0 out.length)),(4,(aL i))],[(0,(.sl 178 Qs (.dp 0 true []) out))],1⟩
theorem Vo(a:List Ql)(i:Int)(out:List Ql) (h :
 (aI (decide (i<(a.length:Int))) (((0<=i/\Int.toNat i<a.length)/\((bB (α:=Ql) (aq ((0,[]):Ql) a (Int.toNat i)))/\((0<=i/\Int.toNat i<out.length)/\((0+(Int.toNat i))<out.length))))/\(AS K a (aG (i+1)) (List.take out.length ((out).set (0+(Int.toNat i)) ((id (α:=Ql) (aq ((0,[]):Ql) a (Int.toNat i))).1,(List.take (((id (α:=Ql) (aq ((0,[]):Ql) a (Int.toNat i))).2).length) (List.drop 0 ((id (α:=Ql) (aq ((0,[]):Ql) a (Int.toNat i))).2)))))))) (K (tV (List.take out.length out))))):AS K a i out :=
 Loop.of h
theorem QQz(a:List Ql)(hp:bB (α:=List Ql) a):aK Tryz.prog 235 [(.c (.sl Qs) a)] (tV (id (α:=List Ql) a)):=by
 refine bz H5 QF9 Vm 0 0 23 H4 (kc QHQ kn) (λK =>
 ((0<=(a.length:Int)/\(a.length:Int)<=ca)/\(AS K a 0 (List.take (Int.toNat (a.length:Int)) (List.replicate (Int.toNat (a.length:Int)) ((0:Int),[])))))) (λhb=>?_)
 refine⟨⟨by omega,by rw[gT];have:=Yo hp;omega⟩,?_⟩;refine nM a (A:=λii ll=>AS (λr'=>r'=tV (id (α:=List Ql) a)) a ii ll) (Q:=λz=>tV z=tV (id (α:=List Ql) a)) hp ?_ ?_ rfl
 ·intro k x out aW hg ho hx hA;have hw:aG (((k:Nat):Int)+1)=((k+1:Nat):Int):=by have:=Yo hp;rw[QF (by omega) (by omega)];omega
  have g9:k<out.length:=by omega
  refine Vo _ _ _ _ ?_;refine⟨λ_=>?_,λh=>absurd h (by simp;omega)⟩;simp only[Int.toNat_natCast,Nat.zero_add,hg,hw,aW,g9,nK,List.drop_zero,List.take_length,id_eq,and_true,true_and,Int.natCast_nonneg]
  first | exact hA | exact⟨hx,hA⟩
 ·intro out ho hq;refine Vo _ _ _ _ ?_;refine⟨λh=>absurd h (by simp),λ_=>?_⟩;simp only[List.drop_zero,List.take_length];exact hq
theorem QPz:Qf Tryz.prog H4:=Qh λx h=>QQz x.1 h
def H6(t:Qd):aB:=⟨(.a [(aL t.1),(.r Qs 0 0 ((t.2).length))]),[(.sl 178 Qs (.dp 0 true []) t.2)],[],false,[]⟩
def H7:aJ:=Qg 178 [(.a Qj)] λx=>(some (bB (α:=Qd) x.1),H6 (id (α:=Qd) x.1))
def QNa:aF:=⟨[H4],true⟩
def QS3:af :=
 (ag [(.ae [aC 1 (.box 208 0 2),aC 2 (.new 161 (bG Qj))]),(.ae [aC 3 (.new 161 (bG Qj))]),(.ae [ak 4 1 0,an 5 4 1,ak 6 3 0,aV 6 5 1]),(.ae [ak 7 1 1,an 8 7 1,aD 9 235 [8],ak 10 3 1,aV 10 9 1]),(.ae [a9 11 3 2,aV 2 11 2]),.ret])
def QJH:List (bn × Md):=[(.l 2 2 true,.b [.d,.p 178])]
theorem QXa(a:Qd)(hp:bB (α:=Qd) a):aK Tryz.prog 178 [(.a [(.c TI a.1),(.c (.sl Qs) a.2)])] (H6 (id (α:=Qd) a)):=by
 refine bz QNa QS3 QJH 0 0 12 H7 (kc QPz kn) (λK =>
 ((bB (α:=List Ql) a.2)/\K (H6 (a.1,(List.take ((id (α:=List Ql) a.2).length) (id (α:=List Ql) a.2)))))) (λhb=>?_)
 repeat' (first | refine And.intro ?_ ?_ | exact au (by simp))
 all_goals (simp only[bB,QP,QL,Q0,List.drop_zero,List.take_length,id_eq]at hp ⊢;omega)
theorem QU3:Qf Tryz.prog H7:=Qh λx h=>QXa x.1 h
def tW(t:(List Qd)):aB:=⟨(.r Qj 0 0 t.length),[(.sl 161 Qj (.dp 0 true []) t)],[],false,[]⟩
def H8:aJ:=Qg 91 [(.c (.sl Qj))] λx=>(some (bB (α:=List Qd) x.1),tW (id (α:=List Qd) x.1))
def H9:aF:=⟨[H7],true⟩
def Vp:af :=
 (ag [(ag [(.ae [ab 8 4,ab 9 0,ba 10 9,aw 11 .lss 8 10]),(.cond 11 .skip (.exit 0))]),(.block 1 (.ae [ab 14 3,ab 15 4,ab 16 0,ab 17 4,aZ 18 16 17 Qj,a9 19 18 2,aD 20 178 [19],aZ 21 14 15 Qj,aV 21 20 2])),(.ae [ab 12 4,aw 13 .add 12 (ar 1),ab 4 13])])
def Vq:List (Nat × Md):=[(0,.one .d),(3,.one .f),(4,.one .d)]
def Vr:af :=
 (ag [(.ae [ab 22 3,ab 2 22]),.ret])
def QLz:af :=
 (ag [(.ae [ab 2 (.k (.n Qj))]),(.ae [ab 5 0,ba 6 5,aC 7 (.mk 161 Qj (bG Qj) 6),ab 3 7]),(ag [(.ae [ab 4 (ar 0)]),(.block 0 (.loop Vq Vp))]),Vr])
def Vs:List (bn × Md):=[(.t 2,.one (.p 161))]
def Vt:Qb:=TQ 0 0 Vs K
def QVM:Qb:=a0 (aN H9 0 Vr (Vt K)) (Vt K)
def QTF:Qb:=a7 0 (QVM K)
def AU(a:List Qd)(i:Int)(out:List Qd):Prop:=Loop H9 0 Vq Vp (QTF K) ⟨[(0,(bf Qj a)),(3,(.r Qj 0 0 out.length)),(4,(aL i))],[(0,(.sl 161 Qj (.dp 0 true []) out))],1⟩
theorem Vu(a:List Qd)(i:Int)(out:List Qd) (h :
 (aI (decide (i<(a.length:Int))) (((0<=i/\Int.toNat i<a.length)/\((bB (α:=Qd) (aq Qv a (Int.toNat i)))/\((0<=i/\Int.toNat i<out.length)/\((0+(Int.toNat i))<out.length))))/\(AU K a (aG (i+1)) (List.take out.length ((out).set (0+(Int.toNat i)) ((id (α:=Qd) (aq Qv a (Int.toNat i))).1,(List.take (((id (α:=Qd) (aq Qv a (Int.toNat i))).2).length) (List.drop 0 ((id (α:=Qd) (aq Qv a (Int.toNat i))).2)))))))) (K (tW (List.take out.length out))))):AU K a i out :=
 Loop.of h
theorem QFi(a:List Qd)(hp:bB (α:=List Qd) a):aK Tryz.prog 91 [(.c (.sl Qj) a)] (tW (id (α:=List Qd) a)):=by
 refine bz H9 QLz Vs 0 0 23 H8 (kc QU3 kn) (λK =>
 ((0<=(a.length:Int)/\(a.length:Int)<=ca)/\(AU K a 0 (List.take (Int.toNat (a.length:Int)) (List.replicate (Int.toNat (a.length:Int)) ((0:Int),[])))))) (λhb=>?_)
 refine⟨⟨by omega,by rw[gT];have:=Yo hp;omega⟩,?_⟩;refine nM a (A:=λii ll=>AU (λr'=>r'=tW (id (α:=List Qd) a)) a ii ll) (Q:=λz=>tW z=tW (id (α:=List Qd) a)) hp ?_ ?_ rfl
 ·intro k x out aW hg ho hx hA;have hw:aG (((k:Nat):Int)+1)=((k+1:Nat):Int):=by have:=Yo hp;rw[QF (by omega) (by omega)];omega
  have g9:k<out.length:=by omega
  refine Vu _ _ _ _ ?_;refine⟨λ_=>?_,λh=>absurd h (by simp;omega)⟩;simp only[Int.toNat_natCast,Nat.zero_add,hg,hw,aW,g9,nK,List.drop_zero,List.take_length,id_eq,and_true,true_and,Int.natCast_nonneg]
  first | exact hA | exact⟨hx,hA⟩
 ·intro out ho hq;refine Vu _ _ _ _ ?_;refine⟨λh=>absurd h (by simp),λ_=>?_⟩;simp only[List.drop_zero,List.take_length];exact hq
theorem QI6:Qf Tryz.prog H8:=Qh λx h=>QFi x.1 h
def xz(t:Bool):aB:=b6 (bE t)
def Ia:aJ:=Qg 262 [(.a Qs),(.a Qs)] λx=>(none,xz (aY (α:=Ql) x.1 x.2.1))
def QQn:aF:=⟨[rJ],false⟩
def QLe:af :=
 (ag [(.ae [aC 2 (.box 178 0 2),aC 3 (.box 178 1 2),ab 4 (a6 false)]),(ag [(.ae [ak 5 2 0,an 6 5 1,ak 7 3 0,an 8 7 1,aw 9 .neq 6 8]),(.cond 9 (ag [(.ae [ab 4 (a6 false)]),.ret]) .skip)]),(ag [(.ae [ak 10 2 1,an 11 10 1,ak 12 3 1,an 13 12 1,aD 14 23 [11,13],bL 15 14]),(.cond 15 (ag [(.ae [ab 4 (a6 false)]),.ret]) .skip)]),(.ae [ab 4 (a6 true)]),.ret])
def QKv:List (bn × Md):=[(.t 4,.one .d)]
theorem QHR(a:Ql)(b:Ql):aK Tryz.prog 262 [(.a [(.c TI a.1),(.c (.sl [TI]) a.2)]),(.a [(.c TI b.1),(.c (.sl [TI]) b.2)])] (xz (aY (α:=Ql) a b)):=by
 refine bz QQn QLe QKv 0 0 16 Ia (kc xr kn) (λK =>
 (aI (a.1 != b.1) (K (xz false)) (aI (!(aY (α:=List Int) a.2 b.2)) (K (xz false)) (K (xz true))))) (λhb=>?_)
 refine⟨λh=>au (Eq.symm (decide_eq_false (by rintro rfl;simp[aY]at h))),λh0=>?_⟩;refine⟨λh=>au (Eq.symm (decide_eq_false (by rintro rfl;simp[aY]at h))),λh1=>?_⟩;refine au (Eq.symm (decide_eq_true ?_));simp[aY]at h0 h1;simp[Prod.ext_iff, *]
theorem QMP:Qf Tryz.prog Ia:=Qh λx _=>QHR x.1 x.2.1
def rW(t:Bool):aB:=b6 (bE t)
def Ib:aJ:=Qg 236 [(.c (.sl Qs)),(.c (.sl Qs))] λx=>(none,rW (aY (α:=List Ql) x.1 x.2.1))
def Ic:aF:=⟨[Ia],false⟩
def Vv:af :=
 (ag [(ag [(.ae [ab 11 5,ab 12 0,ba 13 12,aw 14 .lss 11 13]),(.cond 14 .skip (.exit 0))]),(.block 1 (ag [(.draw [ab 17 0,ab 18 5,aZ 19 17 18 Qs,a9 20 19 2,ab 21 1,ab 22 5,aZ 23 21 22 Qs,a9 24 23 2,aD 25 262 [20,24],bL 26 25] []),(.cond 26 (ag [(.ae [ab 4 (a6 false)]),.ret]) .skip)])),(.ae [ab 15 5,aw 16 .add 15 (ar 1),ab 5 16])])
def Vw:List (Nat × Md):=eV [0,1,5]
def Vx:af :=
 (ag [(.ae [ab 4 (a6 true)]),.ret])
def QKc:af :=
 (ag [(.ae [ab 4 (a6 false)]),(ag [(.ae [ab 6 0,ba 7 6,ab 8 1,ba 9 8,aw 10 .neq 7 9]),(.cond 10 (ag [(.ae [ab 4 (a6 false)]),.ret]) .skip)]),(ag [(.ae [ab 5 (ar 0)]),(.block 0 (.loop Vw Vv))]),Vx])
def Vy:List (bn × Md):=[(.t 4,.one .d)]
def Vz:Qb:=TQ 0 0 Vy K
def QOX:Qb:=a0 (aN Ic 0 Vx (Vz K)) (Vz K)
def QRo:Qb:=a7 0 (QOX K)
def Ie(a:List Ql)(b:List Ql)(i:Int):Prop:=Loop Ic 0 Vw Vv (QRo K) ⟨[(0,(bf Qs a)),(1,(bf Qs b)),(5,(aL i))],[],0⟩
theorem QG7(a:List Ql)(b:List Ql)(i:Int) (h :
 (aI (decide (i<(a.length:Int))) (((0<=i/\Int.toNat i<a.length)/\(0<=i/\Int.toNat i<b.length))/\(aI (!(aY (α:=Ql) (aq ((0,[]):Ql) a (Int.toNat i)) (aq ((0,[]):Ql) b (Int.toNat i)))) (K (rW false)) (Ie K a b (aG (i+1))))) (K (rW true)))):Ie K a b i :=
 Loop.of h
theorem QGC(a:List Ql)(b:List Ql):aK Tryz.prog 236 [(.c (.sl Qs) a),(.c (.sl Qs) b)] (rW (aY (α:=List Ql) a b)):=by
 refine bz Ic QKc Vy 0 0 27 Ib (kc QMP kn) (λK =>
 (aI ((a.length:Int) != (b.length:Int)) (K (rW false)) (Ie K a b 0))) (λhb=>?_)
 exact J9 ((0,[]):Ql) (E:=aY) (λ_ _=>rfl) hb.1.1 (λi h=>QG7 _ a b i h) (Q:=λx=>rW x=rW (aY (α:=List Ql) a b)) rfl
theorem QLa:Qf Tryz.prog Ib:=Qh λx _=>QGC x.1 x.2.1
def xA(t:Bool):aB:=b6 (bE t)
def Ig:aJ:=Qg 181 [(.a Qj),(.a Qj)] λx=>(none,xA (aY (α:=Qd) x.1 x.2.1))
def QPT:aF:=⟨[Ib],false⟩
def QUV:af :=
 (ag [(.ae [aC 2 (.box 161 0 2),aC 3 (.box 161 1 2),ab 4 (a6 false)]),(ag [(.ae [ak 5 2 0,an 6 5 1,ak 7 3 0,an 8 7 1,aw 9 .neq 6 8]),(.cond 9 (ag [(.ae [ab 4 (a6 false)]),.ret]) .skip)]),(ag [(.ae [ak 10 2 1,an 11 10 1,ak 12 3 1,an 13 12 1,aD 14 236 [11,13],bL 15 14]),(.cond 15 (ag [(.ae [ab 4 (a6 false)]),.ret]) .skip)]),(.ae [ab 4 (a6 true)]),.ret])
def QON:List (bn × Md):=[(.t 4,.one .d)]
theorem QIL(a:Qd)(b:Qd):aK Tryz.prog 181 [(.a [(.c TI a.1),(.c (.sl Qs) a.2)]),(.a [(.c TI b.1),(.c (.sl Qs) b.2)])] (xA (aY (α:=Qd) a b)):=by
 refine bz QPT QUV QON 0 0 16 Ig (kc QLa kn) (λK =>
 (aI (a.1 != b.1) (K (xA false)) (aI (!(aY (α:=List Ql) a.2 b.2)) (K (xA false)) (K (xA true))))) (λhb=>?_)
 refine⟨λh=>au (Eq.symm (decide_eq_false (by rintro rfl;simp[aY]at h))),λh0=>?_⟩;refine⟨λh=>au (Eq.symm (decide_eq_false (by rintro rfl;simp[aY]at h))),λh1=>?_⟩;refine au (Eq.symm (decide_eq_true ?_));simp[aY]at h0 h1;simp[Prod.ext_iff, *]
theorem QEH:Qf Tryz.prog Ig:=Qh λx _=>QIL x.1 x.2.1
def rX(t:Bool):aB:=b6 (bE t)
def Ih:aJ:=Qg 94 [(.c (.sl Qj)),(.c (.sl Qj))] λx=>(none,rX (aY (α:=List Qd) x.1 x.2.1))
def Ii:aF:=⟨[Ig],false⟩
def VA:af :=
 (ag [(ag [(.ae [ab 11 5,ab 12 0,ba 13 12,aw 14 .lss 11 13]),(.cond 14 .skip (.exit 0))]),(.block 1 (ag [(.draw [ab 17 0,ab 18 5,aZ 19 17 18 Qj,a9 20 19 2,ab 21 1,ab 22 5,aZ 23 21 22 Qj,a9 24 23 2,aD 25 181 [20,24],bL 26 25] []),(.cond 26 (ag [(.ae [ab 4 (a6 false)]),.ret]) .skip)])),(.ae [ab 15 5,aw 16 .add 15 (ar 1),ab 5 16])])
def VB:List (Nat × Md):=eV [0,1,5]
def VC:af :=
 (ag [(.ae [ab 4 (a6 true)]),.ret])
def QTI:af :=
 (ag [(.ae [ab 4 (a6 false)]),(ag [(.ae [ab 6 0,ba 7 6,ab 8 1,ba 9 8,aw 10 .neq 7 9]),(.cond 10 (ag [(.ae [ab 4 (a6 false)]),.ret]) .skip)]),(ag [(.ae [ab 5 (ar 0)]),(.block 0 (.loop VB VA))]),VC])
def VD:List (bn × Md):=[(.t 4,.one .d)]
def VE:Qb:=TQ 0 0 VD K
def QRQ:Qb:=a0 (aN Ii 0 VC (VE K)) (VE K)
def QNz:Qb:=a7 0 (QRQ K)
def Ij(a:List Qd)(b:List Qd)(i:Int):Prop:=Loop Ii 0 VB VA (QNz K) ⟨[(0,(bf Qj a)),(1,(bf Qj b)),(5,(aL i))],[],0⟩
theorem QLt(a:List Qd)(b:List Qd)(i:Int) (h :
 (aI (decide (i<(a.length:Int))) (((0<=i/\Int.toNat i<a.length)/\(0<=i/\Int.toNat i<b.length))/\(aI (!(aY (α:=Qd) (aq Qv a (Int.toNat i)) (aq Qv b (Int.toNat i)))) (K (rX false)) (Ij K a b (aG (i+1))))) (K (rX true)))):Ij K a b i :=
 Loop.of h
theorem QMs(a:List Qd)(b:List Qd):aK Tryz.prog 94 [(.c (.sl Qj) a),(.c (.sl Qj) b)] (rX (aY (α:=List Qd) a b)):=by
 refine bz Ii QTI VD 0 0 27 Ih (kc QEH kn) (λK =>
 (aI ((a.length:Int) != (b.length:Int)) (K (rX false)) (Ij K a b 0))) (λhb=>?_)
 exact J9 Qv (E:=aY) (λ_ _=>rfl) hb.1.1 (λi h=>QLt _ a b i h) (Q:=λx=>rX x=rX (aY (α:=List Qd) a b)) rfl
theorem QRZ:Qf Tryz.prog Ih:=Qh λx _=>QMs x.1 x.2.1
def rY(t:Int):aB:=b6 (aL t)
def Ik:aJ:=Qg 19 [(.a QR),(.c TI)] λx=>(some (bJ (α:=Qm) x.1 x.2.1),rY (bg (α:=Qm) x.1 x.2.1))
def QOg:aF:=⟨[GD,HG,HX],false⟩
def QSF:af :=
 (ag [(.ae [aC 2 (.box 49 0 4),ab 4 (ar 0)]),(.ae [ak 5 2 0,an 6 5 1,ab 7 1,aD 8 34 [6,7],ab 1 8]),(ag [(.ae [ab 9 1,aw 10 .lss 9 (ar 0)]),(.cond 10 (ag [(.ae [ab 4 (ar (-1))]),.ret]) .skip)]),(.ae [ak 11 2 1,an 12 11 1,ab 13 1,aD 14 87 [12,13],ab 1 14]),(ag [(.ae [ab 15 1,aw 16 .lss 15 (ar 0)]),(.cond 16 (ag [(.ae [ab 4 (ar (-1))]),.ret]) .skip)]),(.ae [ak 17 2 2,an 18 17 1,ab 19 1,aD 20 88 [18,19],ab 1 20]),(ag [(.ae [ab 21 1,aw 22 .lss 21 (ar 0)]),(.cond 22 (ag [(.ae [ab 4 (ar (-1))]),.ret]) .skip)]),(.ae [ak 23 2 3,an 24 23 1,ab 25 1,aD 26 88 [24,25],ab 1 26]),(ag [(.ae [ab 27 1,aw 28 .lss 27 (ar 0)]),(.cond 28 (ag [(.ae [ab 4 (ar (-1))]),.ret]) .skip)]),(.ae [ab 29 1,ab 4 29]),.ret])
def QJq:List (bn × Md):=[(.t 4,.one .d)]
theorem QJP(a:Qm)(left:Int)(hp:bJ (α:=Qm) a left):aK Tryz.prog 19 [(.a (aT.cells QR a)),(.c TI left)] (rY (bg (α:=Qm) a left)):=by
 refine bz QOg QSF QJq 0 0 30 Ik (kc QRj (kc QKV (kc QLS kn))) (λK =>
 let z3:=bg (α:=List Qo) a.1 left
 let z1:=bg (α:=List Qc) a.2.1 z3
 let z2:=bg (α:=List Qd) a.2.2.1 z1
 ((bJ (α:=List Qo) a.1 left)/\(aI (decide (z3<0)) (K (rY (-1:Int))) ((bJ (α:=List Qc) a.2.1 z3)/\(aI (decide (z1<0)) (K (rY (-1:Int))) ((bJ (α:=List Qd) a.2.2.1 z1)/\(aI (decide (z2<0)) (K (rY (-1:Int))) ((bJ (α:=List Qd) a.2.2.2 z2)/\(aI (decide ((bg (α:=List Qd) a.2.2.2 z2)<0)) (K (rY (-1:Int))) (K (rY (bg (α:=List Qd) a.2.2.2 z2)))))))))))) (λhb=>?_)
 refine⟨hp,λh=>au (Z0 (of_decide_eq_true h) (by first | omega | (simp only[QP,QL,Q0];omega)) hp.1),λh=>?_⟩;rw[Ju (Int.not_lt.1 (of_decide_eq_false h))];refine⟨Jp hp,λh=>au (Z0 (of_decide_eq_true h) (by first | omega | (simp only[QP,QL,Q0];omega)) hp.1),λh=>?_⟩;rw[Ju (Int.not_lt.1 (of_decide_eq_false h))];refine⟨Jp hp,λh=>au (Z0 (of_decide_eq_true h) (by first | omega | (simp only[QP,QL,Q0];omega)) hp.1),λh=>?_⟩;rw[Ju (Int.not_lt.1 (of_decide_eq_false h))];refine⟨Jp hp,λh=>au (Z0 (of_decide_eq_true h) (by first | omega | (simp only[QP,QL,Q0];omega)) hp.1),λh=>?_⟩;exact au (congrArg (Z6 · _) (by first | rfl | omega | (simp only[QP,QL,Q0];omega)))
theorem QSy:Qf Tryz.prog Ik:=Qh λx h=>QJP x.1 x.2.1 h
def Il(t:Qm):aB:=⟨(.a [(.r QG 0 0 ((t.1).length)),(.r Qe 1 0 ((t.2.1).length)),(.r Qj 2 0 ((t.2.2.1).length)),(.r Qj 3 0 ((t.2.2.2).length))]),[(.sl 154 QG (.dp 0 true []) t.1),(.sl 39 Qe (.dp 0 true []) t.2.1),(.sl 161 Qj (.dp 0 true []) t.2.2.1),(.sl 161 Qj (.dp 0 true []) t.2.2.2)],[],false,[]⟩
def Im:aJ:=Qg 21 [(.a QR)] λx=>(some (bB (α:=Qm) x.1),Il (id (α:=Qm) x.1))
def QHt:aF:=⟨[GQ,HM,H8],true⟩
def QNU:af :=
 (ag [(.ae [aC 1 (.box 49 0 4),aC 2 (.new 56 (bG QR))]),(.ae [aC 3 (.new 56 (bG QR))]),(.ae [ak 4 1 0,an 5 4 1,aD 6 37 [5],ak 7 3 0,aV 7 6 1]),(.ae [ak 8 1 1,an 9 8 1,aD 10 90 [9],ak 11 3 1,aV 11 10 1]),(.ae [ak 12 1 2,an 13 12 1,aD 14 91 [13],ak 15 3 2,aV 15 14 1]),(.ae [ak 16 1 3,an 17 16 1,aD 18 91 [17],ak 19 3 3,aV 19 18 1]),(.ae [a9 20 3 4,aV 2 20 4]),.ret])
def QRY:List (bn × Md):=[(.l 2 4 true,.b [.p 154,.p 39,.p 161,.p 161])]
theorem QEI(a:Qm)(hp:bB (α:=Qm) a):aK Tryz.prog 21 [(.a (aT.cells QR a))] (Il (id (α:=Qm) a)):=by
 refine bz QHt QNU QRY 0 0 21 Im (kc QGl (kc QPa (kc QI6 kn))) (λK =>
 ((bB (α:=List Qo) a.1)/\((bB (α:=List Qc) a.2.1)/\((bB (α:=List Qd) a.2.2.1)/\((bB (α:=List Qd) a.2.2.2)/\K (Il ((List.take ((id (α:=List Qo) a.1).length) (id (α:=List Qo) a.1)),(List.take ((id (α:=List Qc) a.2.1).length) (id (α:=List Qc) a.2.1)),(List.take ((id (α:=List Qd) a.2.2.1).length) (id (α:=List Qd) a.2.2.1)),(List.take ((id (α:=List Qd) a.2.2.2).length) (id (α:=List Qd) a.2.2.2))))))))) (λhb=>?_)
 repeat' (first | refine And.intro ?_ ?_ | exact au (by simp))
 all_goals (simp only[bB,QP,QL,Q0,List.drop_zero,List.take_length,id_eq]at hp ⊢;omega)
theorem QS4:Qf Tryz.prog Im:=Qh λx h=>QEI x.1 h
def rZ(t:Bool):aB:=b6 (bE t)
def Ip:aJ:=Qg 24 [(.a QR),(.a QR)] λx=>(none,rZ (aY (α:=Qm) x.1 x.2.1))
def QSb:aF:=⟨[G3,HP,Ih],false⟩
def QET:af :=
 (ag [(.ae [aC 2 (.box 56 0 4),aC 3 (.box 56 1 4),ab 4 (a6 false)]),(ag [(.ae [ak 5 2 0,an 6 5 1,ak 7 3 0,an 8 7 1,aD 9 40 [6,8],bL 10 9]),(.cond 10 (ag [(.ae [ab 4 (a6 false)]),.ret]) .skip)]),(ag [(.ae [ak 11 2 1,an 12 11 1,ak 13 3 1,an 14 13 1,aD 15 93 [12,14],bL 16 15]),(.cond 16 (ag [(.ae [ab 4 (a6 false)]),.ret]) .skip)]),(ag [(.ae [ak 17 2 2,an 18 17 1,ak 19 3 2,an 20 19 1,aD 21 94 [18,20],bL 22 21]),(.cond 22 (ag [(.ae [ab 4 (a6 false)]),.ret]) .skip)]),(ag [(.ae [ak 23 2 3,an 24 23 1,ak 25 3 3,an 26 25 1,aD 27 94 [24,26],bL 28 27]),(.cond 28 (ag [(.ae [ab 4 (a6 false)]),.ret]) .skip)]),(.ae [ab 4 (a6 true)]),.ret])
def QMB:List (bn × Md):=[(.t 4,.one .d)]
theorem QO9(a:Qm)(b:Qm):aK Tryz.prog 24 [(.a (aT.cells QR a)),(.a (aT.cells QR b))] (rZ (aY (α:=Qm) a b)):=by
 refine bz QSb QET QMB 0 0 29 Ip (kc QPt (kc QKx (kc QRZ kn))) (λK =>
 (aI (!(aY (α:=List Qo) a.1 b.1)) (K (rZ false)) (aI (!(aY (α:=List Qc) a.2.1 b.2.1)) (K (rZ false)) (aI (!(aY (α:=List Qd) a.2.2.1 b.2.2.1)) (K (rZ false)) (aI (!(aY (α:=List Qd) a.2.2.2 b.2.2.2)) (K (rZ false)) (K (rZ true))))))) (λhb=>?_)
 refine⟨λh=>au (Eq.symm (decide_eq_false (by rintro rfl;simp[aY]at h))),λh0=>?_⟩;refine⟨λh=>au (Eq.symm (decide_eq_false (by rintro rfl;simp[aY]at h))),λh1=>?_⟩;refine⟨λh=>au (Eq.symm (decide_eq_false (by rintro rfl;simp[aY]at h))),λh2=>?_⟩;refine⟨λh=>au (Eq.symm (decide_eq_false (by rintro rfl;simp[aY]at h))),λh3=>?_⟩;refine au (Eq.symm (decide_eq_true ?_));simp[aY]at h0 h1 h2 h3;simp[Prod.ext_iff, *]
theorem QMu:Qf Tryz.prog Ip:=Qh λx _=>QO9 x.1 x.2.1
def Iq(t:Bool):aB:=b6 (bE t)
def Y1:aJ:=Qg 158 [(.c TI),(.c TI),(.c TI)] λx=>(none,Iq (bj x.1 x.2.1 x.2.2.1))
def QTd:aF:=⟨[],false⟩
def QKg:af :=
 (ag [(.ae [ab 6 (a6 false)]),(.ae [ab 7 0,ab 8 1,aw 9 .geq 7 8,ab 10 9,.bw 10 true [ab 11 0,ab 12 2,aw 13 .leq 11 12] 14 13,ab 6 14]),.ret])
def QWj:List (bn × Md):=[(.t 6,.one .d)]
theorem QJN(x:Int)(low:Int)(high:Int):aK Tryz.prog 158 [(.c TI x),(.c TI low),(.c TI high)] (Iq (bj x low high)):=by
 refine bz QTd QKg QWj 0 0 15 Y1 kn (λK =>
 K (Iq ((decide (x>=low))&&(decide (x<=high))))) (λhb=>?_)
 exact au rfl
theorem Jg:Qf Tryz.prog Y1:=Qh λx _=>QJN x.1 x.2.1 x.2.2.1
def Ir(t:Bool):aB:=b6 (bE t)
def tX:aJ:=Qg 183 [(.c TI)] λx=>(none,Ir (Zv x.1))
def QPK:aF:=⟨[Y1],false⟩
def QV1:af :=
 (ag [(.ae [ab 2 (a6 false)]),(.ae [ab 3 0,aD 4 158 [3,(ar (-2147483647)),(ar 2147483647)],ab 2 4]),.ret])
def QF4:List (bn × Md):=[(.t 2,.one .d)]
theorem QHs(x:Int):aK Tryz.prog 183 [(.c TI x)] (Ir (Zv x)):=by
 refine bz QPK QV1 QF4 0 0 5 tX (kc Jg kn) (λK =>
 K (Ir (bj x (-2147483647:Int) (2147483647:Int)))) (λhb=>?_)
 exact au rfl
theorem AW:Qf Tryz.prog tX:=Qh λx _=>QHs x.1
def Is(t:Bool):aB:=b6 (bE t)
def xB:aJ:=Qg 240 [(.c TI)] λx=>(none,Is (Zv x.1))
def QM5:aF:=⟨[],false⟩
def QTV:af :=
 (ag [(.ae [ab 2 (a6 false)]),(.ae [ab 3 0,aw 4 .geq 3 (ar (-2147483647)),ab 5 4,.bw 5 true [ab 6 0,aw 7 .leq 6 (ar 2147483647)] 8 7,ab 2 8]),.ret])
def QMD:List (bn × Md):=[(.t 2,.one .d)]
theorem QOQ(x:Int):aK Tryz.prog 240 [(.c TI x)] (Is (Zv x)):=by
 refine bz QM5 QTV QMD 0 0 9 xB kn (λK =>
 K (Is ((decide (x>=(-2147483647:Int)))&&(decide (x<=2147483647))))) (λhb=>?_)
 exact au rfl
theorem It:Qf Tryz.prog xB:=Qh λx _=>QOQ x.1
def tY(t:Bool):aB:=b6 (bE t)
def xC:aJ:=Qg 238 [(.c (.sl [TI]))] λx=>(none,tY (Z3 x.1))
def Iu:aF:=⟨[xB],false⟩
def VF:af :=
 (ag [(.ae [aw 8 .lss 7 6]),(.cond 8 .skip (.exit 0)),(.block 1 (ag [(.ae [aZ 9 5 7 [TI],an 10 9 1,ab 4 10]),(.ae [ab 11 4,aD 12 240 [11],bL 13 12]),(.cond 13 (ag [(.ae [ab 2 (a6 false)]),.ret]) .skip)])),(.ae [aw 14 .add 7 (ar 1),ab 7 14])])
def VG:List (Nat × Md):=eV [5,6,7]
def VH:af :=
 (ag [(.ae [ab 2 (a6 true)]),.ret])
def QRl:af :=
 (ag [(.ae [ab 2 (a6 false)]),(ag [(.ae [ab 5 0,ba 6 5,ab 7 (ar 0)]),(.block 0 (.loop VG VF))]),VH])
def VI:List (bn × Md):=[(.t 2,.one .d)]
def VJ:Qb:=TQ 0 0 VI K
def QUH:Qb:=a0 (aN Iu 0 VH (VJ K)) (VJ K)
def QIk:Qb:=a7 0 (QUH K)
def Iv(v:List Int)(x:Int):Prop:=Loop Iu 0 VG VF (QIk K) ⟨[(5,(bf [TI] v)),(6,(aL (v.length:Int))),(7,(aL x))],[],0⟩
theorem QJr(v:List Int)(x:Int) (h :
 (aI (decide (x<(v.length:Int))) ((0<=x/\Int.toNat x<v.length)/\(aI (!(Zv (aq (0:Int) v (Int.toNat x)))) (K (tY false)) (Iv K v (aG (x+1))))) (K (tY true)))):Iv K v x :=
 Loop.of h
theorem QGJ(v:List Int):aK Tryz.prog 238 [(.c (.sl [TI]) v)] (tY (Z3 v)):=by
 refine bz Iu QRl VI 0 0 15 xC (kc It kn) (λK =>
 (Iv K v 0)) (λhb=>?_)
 have r0:v.length<=9223372036854775807:=hb.1.1;exact oV (Q:=λx=>tY x=tY (Z3 v)) (p:=Zv) (c:=λx=>!(Zv x)) 0 r0 (λ_=>rfl) (λi h=>QJr _ v i h) (au (by simp[Z3]))
theorem Iw:Qf Tryz.prog xC:=Qh λx _=>QGJ x.1
def tZ(t:Bool):aB:=b6 (bE t)
def Yv:aJ:=Qg 97 [(.c (.sl [TI]))] λx=>(none,tZ (QK x.1))
def Ix:aF:=⟨[tX,Y1],false⟩
def VK:af :=
 (ag [(ag [(.ae [ab 4 3,ab 5 0,ba 6 5,aw 7 .lss 4 6]),(.cond 7 .skip (.exit 0))]),(.block 1 (ag [(.ae [ab 10 0,ab 11 3,aZ 12 10 11 [TI],an 13 12 1,aD 14 183 [13],bL 15 14]),(.cond 15 (ag [(.ae [ab 2 (a6 false)]),.ret]) .skip)])),(.ae [ab 8 3,aw 9 .add 8 (ar 1),ab 3 9])])
def VL:List (Nat × Md):=eV [0,3]
def VM:af :=
 (ag [(.ae [ab 16 0,ba 17 16,aD 18 158 [17,(ar 1),(ar 6)],ab 2 18]),.ret])
def QV7:af :=
 (ag [(.ae [ab 2 (a6 false)]),(ag [(.ae [ab 3 (ar 0)]),(.block 0 (.loop VL VK))]),VM])
def VN:List (bn × Md):=[(.t 2,.one .d)]
def VO:Qb:=TQ 0 0 VN K
def QEP:Qb:=a0 (aN Ix 0 VM (VO K)) (VO K)
def QIA:Qb:=a7 0 (QEP K)
def Iy(v:List Int)(i:Int):Prop:=Loop Ix 0 VL VK (QIA K) ⟨[(0,(bf [TI] v)),(3,(aL i))],[],0⟩
theorem QVd(v:List Int)(i:Int) (h :
 (aI (decide (i<(v.length:Int))) ((0<=i/\Int.toNat i<v.length)/\(aI (!(Zv (aq (0:Int) v (Int.toNat i)))) (K (tZ false)) (Iy K v (aG (i+1))))) (K (tZ (bj (v.length:Int) (1:Int) (6:Int)))))):Iy K v i :=
 Loop.of h
theorem QUm(v:List Int):aK Tryz.prog 97 [(.c (.sl [TI]) v)] (tZ (QK v)):=by
 refine bz Ix QV7 VN 0 0 19 Yv (kc AW (kc Jg kn)) (λK =>
 (Iy K v 0)) (λhb=>?_)
 have r0:v.length<=9223372036854775807:=hb.1.1;exact oV (Q:=λx=>tZ x=tZ (QK v)) (p:=Zv) (c:=λx=>!(Zv x)) 0 r0 (λ_=>rfl) (λi h=>QVd _ v i h) (au (by grind[QK,Z3]))
theorem YL:Qf Tryz.prog Yv:=Qh λx _=>QUm x.1
def Iz(t:Bool):aB:=b6 (bE t)
def J4:aJ:=Qg 187 [(.c (.sl [TI]))] λx=>(none,Iz (QK x.1))
def QUo:aF:=⟨[xC],false⟩
def QQI:af :=
 (ag [(.ae [ab 2 (a6 false)]),(.ae [ab 3 0,ba 4 3,aw 5 .geq 4 (ar 1),ab 6 5,.bw 6 true [ab 7 0,ba 8 7,aw 9 .leq 8 (ar 6)] 10 9,ab 11 10,.bw 11 true [ab 12 0,aD 13 238 [12]] 14 13,ab 2 14]),.ret])
def QI4:List (bn × Md):=[(.t 2,.one .d)]
theorem QKs(v:List Int):aK Tryz.prog 187 [(.c (.sl [TI]) v)] (Iz (QK v)):=by
 refine bz QUo QQI QI4 0 0 15 J4 (kc Iw kn) (λK =>
 K (Iz (((decide ((v.length:Int)>=1))&&(decide ((v.length:Int)<=6)))&&(Z3 v)))) (λhb=>?_)
 exact au (by grind[QK,bj])
theorem r8:Qf Tryz.prog J4:=Qh λx _=>QKs x.1
def IA(t:Bool):aB:=b6 (bE t)
def Jr:aJ:=Qg 100 [(.c (.sl [TI])),(.c TI)] λx=>(none,IA (QH x.1 x.2.1))
def QQ0:aF:=⟨[J4],false⟩
def QX1:af :=
 (ag [(.ae [ab 4 (a6 false)]),(.ae [ab 5 0,aD 6 187 [5],ab 7 6,.bw 7 true [ab 8 0,ba 9 8,ab 10 1,aw 11 .eql 9 10] 12 11,ab 4 12]),.ret])
def QLn:List (bn × Md):=[(.t 4,.one .d)]
theorem QM1(v:List Int)(n:Int):aK Tryz.prog 100 [(.c (.sl [TI]) v),(.c TI n)] (IA (QH v n)):=by
 refine bz QQ0 QX1 QLn 0 0 13 Jr (kc r8 kn) (λK =>
 K (IA ((QK v)&&((v.length:Int)==n)))) (λhb=>?_)
 exact au (by simp[QH])
theorem JS:Qf Tryz.prog Jr:=Qh λx _=>QM1 x.1 x.2.1
def IB(t:Bool):aB:=b6 (bE t)
def IC:aJ:=Qg 169 [(.c (.sl [TI])),(.c TI)] λx=>(none,IB (Yr x.1 x.2.1))
def QW5:aF:=⟨[Jr],false⟩
def QOv:af :=
 (ag [(.ae [ab 4 (a6 false)]),(.ae [ab 5 0,ba 6 5,aw 7 .eql 6 (ar 0),ab 8 7,.bw 8 false [ab 9 0,ab 10 1,aD 11 100 [9,10]] 12 11,ab 4 12]),.ret])
def QV9:List (bn × Md):=[(.t 4,.one .d)]
theorem QOI(v:List Int)(n:Int):aK Tryz.prog 169 [(.c (.sl [TI]) v),(.c TI n)] (IB (Yr v n)):=by
 refine bz QW5 QOv QV9 0 0 13 IC (kc JS kn) (λK =>
 K (IB (((v.length:Int)==0)||(QH v n)))) (λhb=>?_)
 exact au (by simp[Yr,QH])
theorem QLZ:Qf Tryz.prog IC:=Qh λx _=>QOI x.1 x.2.1
def ID(t:Bool):aB:=b6 (bE t)
def IE:aJ:=Qg 159 [(.c (.sl [TI])),(.c TI)] λx=>(none,ID (Yr x.1 x.2.1))
def QOd:aF:=⟨[Yv],false⟩
def QGD:af :=
 (ag [(.ae [ab 4 (a6 false)]),(.ae [ab 5 0,ba 6 5,aw 7 .eql 6 (ar 0),ab 8 7,.bw 8 false [ab 9 0,aD 10 97 [9],ab 11 10,.bw 11 true [ab 12 0,ba 13 12,ab 14 1,aw 15 .eql 13 14] 16 15] 17 16,ab 4 17]),.ret])
def QQV:List (bn × Md):=[(.t 4,.one .d)]
theorem QHC(v:List Int)(n:Int):aK Tryz.prog 159 [(.c (.sl [TI]) v),(.c TI n)] (ID (Yr v n)):=by
 refine bz QOd QGD QQV 0 0 18 IE (kc YL kn) (λK =>
 K (ID (((v.length:Int)==0)||((QK v)&&((v.length:Int)==n))))) (λhb=>?_)
 exact au (by simp[Yr,QH])
theorem QUQ:Qf Tryz.prog IE:=Qh λx _=>QHC x.1 x.2.1
def nO(t:Int):aB:=b6 (aL t)
def IF:aJ:=Qg 253 [(.a aM)] λx=>(none,nO (YD x.1))
def IG:aF:=⟨[Y1],false⟩
def VP:af :=
 (.cond 15 (ag [(.ae [ak 18 1 1,an 19 18 1,ak 20 1 2,an 21 20 1,aw 22 .mul 19 21,ab 2 22]),.ret]) (ag [(.ae [aw 24 .eql 14 (ar 2),ab 23 24]),(.cond 23 (ag [(.ae [ak 25 1 1,an 26 25 1,ab 2 26]),.ret]) (ag [(.ae [aw 28 .eql 14 (ar 4),ab 27 28]),(.cond 27 (ag [(.ae [ab 2 (ar 1)]),.ret]) .skip)]))]))
def QKS:List (Nat × Md):=[(1,.b (dO 4)),(14,.one .d),(15,.one .d)]
def QSD:af:=.wk QKS VP
def VQ:af :=
 (ag [(.ae [ab 2 (ar 0)]),.ret])
def QNg:af :=
 (ag [(.ae [aC 1 (.box 134 0 4),ab 2 (ar 0)]),(ag [(.ae [ak 3 1 1,an 4 3 1,aD 5 158 [4,(ar 1),(ar 6)],bL 6 5,ab 7 6,.bw 7 false [ak 8 1 2,an 9 8 1,aD 10 158 [9,(ar 1),(ar 6)],bL 11 10] 12 11]),(.cond 12 (ag [(.ae [ab 2 (ar 0)]),.ret]) .skip)]),(ag [(.ae [ak 13 1 0,an 14 13 1]),(.block 0 (ag [(ag [(.ae [aw 16 .eql 14 (ar 1),ab 15 16]),(.cond 15 .skip (.ae [aw 17 .eql 14 (ar 5),ab 15 17]))]),QSD]))]),VQ])
def VS:List (bn × Md):=[(.t 2,.one .d)]
def VT:Qb:=TQ 0 0 VS K
def QGM:Qb:=a0 (aN IG 0 VQ (VT K)) (VT K)
def QOY:Qb:=a7 0 (QGM K)
@[irreducible] def IH(o:aH)(x:Bool):Prop:=aN IG 0 VP (QOY K) ⟨[(1,(.p 0 0 0)),(14,(aL o.1)),(15,(bE x))],[(0,(.box (aT.cells aM o)))],1⟩
theorem VU(o:aH)(x:Bool) (h :
 (aI x (K (nO (aG (o.2.1*o.2.2.1)))) (aI (o.1==2) (K (nO o.2.1)) (aI (o.1==4) (K (nO (1:Int))) (K (nO (0:Int))))))):dt (IH K o x) :=
 dt.of h
theorem QEC(o:aH):aK Tryz.prog 253 [(.a (aT.cells aM o))] (nO (YD o)):=by
 refine bz IG QNg VS 0 0 29 IF (kc Jg kn) (λK =>
 (aI ((!(bj o.2.1 (1:Int) (6:Int)))||(!(bj o.2.2.1 (1:Int) (6:Int)))) (K (nO (0:Int))) (aI (o.1==1) (IH K o (o.1==1)) (IH K o (o.1==5))))) (λhb=>?_)
 refine⟨λh=>au (by grind[YD]),λh=>?_⟩;have hi:bj o.2.1 1 6=true/\bj o.2.2.1 1 6=true:=by simpa using h
 have hm:=rj (Za.1 hi.1).1 (Za.1 hi.1).2 (Za.1 hi.2).1 (Za.1 hi.2).2;have hw:=QF (x:=o.2.1*o.2.2.1) (by omega) (by omega);refine⟨λh1=>(VU (λr'=>r'=nO (YD o)) o _ ?_).h,λh1=>(VU (λr'=>r'=nO (YD o)) o _ ?_).h⟩ <;> grind[YD]
theorem QIy:Qf Tryz.prog IF:=Qh λx _=>QEC x.1
def nP(t:Int):aB:=b6 (aL t)
def II:aJ:=Qg 257 [(.a aM)] λx=>(none,nP (YD x.1))
def IJ:aF:=⟨[],false⟩
def VV:af :=
 (.cond 23 (ag [(.ae [ak 26 1 1,an 27 26 1,ak 28 1 2,an 29 28 1,aw 30 .mul 27 29,ab 2 30]),.ret]) (ag [(.ae [aw 32 .eql 22 (ar 2),ab 31 32]),(.cond 31 (ag [(.ae [ak 33 1 1,an 34 33 1,ab 2 34]),.ret]) (ag [(.ae [aw 36 .eql 22 (ar 4),ab 35 36]),(.cond 35 (ag [(.ae [ab 2 (ar 1)]),.ret]) .skip)]))]))
def QR9:List (Nat × Md):=[(1,.b (dO 4)),(22,.one .d),(23,.one .d)]
def QUA:af:=.wk QR9 VV
def VW:af :=
 (ag [(.ae [ab 2 (ar 0)]),.ret])
def QGE:af :=
 (ag [(.ae [aC 1 (.box 134 0 4),ab 2 (ar 0)]),(ag [(.ae [ak 3 1 1,an 4 3 1,aw 5 .lss 4 (ar 1),ab 6 5,.bw 6 false [ak 7 1 1,an 8 7 1,aw 9 .gtr 8 (ar 6)] 10 9,ab 11 10,.bw 11 false [ak 12 1 2,an 13 12 1,aw 14 .lss 13 (ar 1)] 15 14,ab 16 15,.bw 16 false [ak 17 1 2,an 18 17 1,aw 19 .gtr 18 (ar 6)] 20 19]),(.cond 20 (ag [(.ae [ab 2 (ar 0)]),.ret]) .skip)]),(ag [(.ae [ak 21 1 0,an 22 21 1]),(.block 0 (ag [(ag [(.ae [aw 24 .eql 22 (ar 1),ab 23 24]),(.cond 23 .skip (.ae [aw 25 .eql 22 (ar 5),ab 23 25]))]),QUA]))]),VW])
def VX:List (bn × Md):=[(.t 2,.one .d)]
def VY:Qb:=TQ 0 0 VX K
def QUR:Qb:=a0 (aN IJ 0 VW (VY K)) (VY K)
def QVy:Qb:=a7 0 (QUR K)
@[irreducible] def IK(o:aH)(x:Bool):Prop:=aN IJ 0 VV (QVy K) ⟨[(1,(.p 0 0 0)),(22,(aL o.1)),(23,(bE x))],[(0,(.box (aT.cells aM o)))],1⟩
theorem VZ(o:aH)(x:Bool) (h :
 (aI x (K (nP (aG (o.2.1*o.2.2.1)))) (aI (o.1==2) (K (nP o.2.1)) (aI (o.1==4) (K (nP (1:Int))) (K (nP (0:Int))))))):dt (IK K o x) :=
 dt.of h
theorem QSE(o:aH):aK Tryz.prog 257 [(.a (aT.cells aM o))] (nP (YD o)):=by
 refine bz IJ QGE VX 0 0 37 II kn (λK =>
 (aI ((((decide (o.2.1<1))||(decide (o.2.1>6)))||(decide (o.2.2.1<1)))||(decide (o.2.2.1>6))) (K (nP (0:Int))) (aI (o.1==1) (IK K o (o.1==1)) (IK K o (o.1==5))))) (λhb=>?_)
 refine⟨λh=>au (by grind[YD,bj]),λh=>?_⟩;have hi:bj o.2.1 1 6=true/\bj o.2.2.1 1 6=true:=by grind[bj]
 have hm:=rj (Za.1 hi.1).1 (Za.1 hi.1).2 (Za.1 hi.2).1 (Za.1 hi.2).2;have hw:=QF (x:=o.2.1*o.2.2.1) (by omega) (by omega);refine⟨λh1=>(VZ (λr'=>r'=nP (YD o)) o _ ?_).h,λh1=>(VZ (λr'=>r'=nP (YD o)) o _ ?_).h⟩ <;> grind[YD]
theorem QW0:Qf Tryz.prog II:=Qh λx _=>QSE x.1
def o6(t:Bool):aB:=b6 (bE t)
def xD:aJ:=Qg 222 [(.a aM)] λx=>(none,o6 (Zh x.1))
def IL:aF:=⟨[Y1,IF,tX],false⟩
def V0:af :=
 (ag [(ag [(.ae [ab 40 3,ak 41 1 3,an 42 41 1,ba 43 42,aw 44 .lss 40 43]),(.cond 44 .skip (.exit 0))]),(.block 1 (ag [(.ae [ak 47 1 3,an 48 47 1,ab 49 3,aZ 50 48 49 [TI],an 51 50 1,aD 52 183 [51],bL 53 52]),(.cond 53 (ag [(.ae [ab 2 (a6 false)]),.ret]) .skip)])),(.ae [ab 45 3,aw 46 .add 45 (ar 1),ab 3 46])])
def V1:List (Nat × Md):=[(1,.b (dO 4)),(3,.one .d)]
def V2:af :=
 (ag [(.ae [ab 2 (a6 true)]),.ret])
def QQM:af :=
 (ag [(.ae [aC 1 (.box 134 0 4),ab 2 (a6 false)]),(ag [(.draw [ak 4 1 0,an 5 4 1,aD 6 158 [5,(ar 1),(ar 5)],bL 7 6,ab 8 7,.bw 8 false [ak 9 1 1,an 10 9 1,aD 11 158 [10,(ar 1),(ar 6)],bL 12 11] 13 12,ab 14 13,.bw 14 false [ak 15 1 2,an 16 15 1,aD 17 158 [16,(ar 1),(ar 6)],bL 18 17] 19 18,ab 20 19,.bw 20 false [ak 21 1 0,an 22 21 1,aw 23 .neq 22 (ar 1),ab 24 23,.bw 24 true [ak 25 1 1,an 26 25 1,ak 27 1 2,an 28 27 1,aw 29 .neq 26 28] 30 29] 31 30,ab 32 31,.bw 32 false [ak 33 1 3,an 34 33 1,ba 35 34,a9 36 1 4,aD 37 253 [36],aw 38 .neq 35 37] 39 38] [(29,33),(30,33),(31,33)]),(.cond 39 (ag [(.ae [ab 2 (a6 false)]),.ret]) .skip)]),(ag [(.ae [ab 3 (ar 0)]),(.block 0 (.loop V1 V0))]),V2])
def V3:List (bn × Md):=[(.t 2,.one .d)]
def V4:Qb:=TQ 0 0 V3 K
def QX9:Qb:=a0 (aN IL 0 V2 (V4 K)) (V4 K)
def QK4:Qb:=a7 0 (QX9 K)
def IM(o:aH)(i:Int):Prop:=Loop IL 0 V1 V0 (QK4 K) ⟨[(1,(.p 0 0 0)),(3,(aL i))],[(0,(.box (aT.cells aM o)))],1⟩
theorem QFH(o:aH)(i:Int) (h :
 (aI (decide (i<((o.2.2.2).length:Int))) ((0<=i/\Int.toNat i<(o.2.2.2).length)/\(aI (!(Zv (aq (0:Int) o.2.2.2 (Int.toNat i)))) (K (o6 false)) (IM K o (aG (i+1))))) (K (o6 true)))):IM K o i :=
 Loop.of h
theorem QPD(o:aH):aK Tryz.prog 222 [(.a (aT.cells aM o))] (o6 (Zh o)):=by
 refine bz IL QQM V3 0 0 54 xD (kc Jg (kc QIy (kc AW kn))) (λK =>
 (aI (((((!(bj o.1 (1:Int) (5:Int)))||(!(bj o.2.1 (1:Int) (6:Int))))||(!(bj o.2.2.1 (1:Int) (6:Int))))||((o.1 != 1)&&(o.2.1 != o.2.2.1)))||(((o.2.2.2).length:Int) != (YD o))) (K (o6 false)) (IM K o 0))) (λhb=>?_)
 have r9:(o.2.2.2).length<=9223372036854775807:=hb.1.2.2.2.1.1;refine⟨λh=>au (by grind[Zh]),λh=>?_⟩;exact oV (Q:=λx=>o6 x=o6 (Zh o)) (p:=Zv) (c:=λx=>!(Zv x)) 0 r9 (λ_=>rfl) (λi h=>QFH (λr'=>r'=o6 (Zh o)) o i h) (au (by grind[Zh,Z3]))
theorem IP:Qf Tryz.prog xD:=Qh λx _=>QPD x.1
def xE(t:Bool):aB:=b6 (bE t)
def xF:aJ:=Qg 228 [(.a aM)] λx=>(none,xE (Zh x.1))
def QWA:aF:=⟨[II,xC],false⟩
def QPC:af :=
 (ag [(.ae [aC 1 (.box 134 0 4),ab 2 (a6 false)]),(ag [(.ae [ak 3 1 0,an 4 3 1,aw 5 .lss 4 (ar 1),ab 6 5,.bw 6 false [ak 7 1 0,an 8 7 1,aw 9 .gtr 8 (ar 5)] 10 9,ab 11 10,.bw 11 false [ak 12 1 1,an 13 12 1,aw 14 .lss 13 (ar 1)] 15 14,ab 16 15,.bw 16 false [ak 17 1 1,an 18 17 1,aw 19 .gtr 18 (ar 6)] 20 19,ab 21 20,.bw 21 false [ak 22 1 2,an 23 22 1,aw 24 .lss 23 (ar 1)] 25 24,ab 26 25,.bw 26 false [ak 27 1 2,an 28 27 1,aw 29 .gtr 28 (ar 6)] 30 29]),(.cond 30 (ag [(.ae [ab 2 (a6 false)]),.ret]) .skip)]),(ag [(.ae [ak 31 1 0,an 32 31 1,aw 33 .neq 32 (ar 1),ab 34 33,.bw 34 true [ak 35 1 1,an 36 35 1,ak 37 1 2,an 38 37 1,aw 39 .neq 36 38] 40 39]),(.cond 40 (ag [(.ae [ab 2 (a6 false)]),.ret]) .skip)]),(.draw [ak 41 1 3,an 42 41 1,ba 43 42,a9 44 1 4,aD 45 257 [44],aw 46 .eql 43 45,ab 47 46,.bw 47 true [ak 48 1 3,an 49 48 1,aD 50 238 [49]] 51 50,ab 2 51] [(0,4),(1,4),(2,4)]),.ret])
def QGS:List (bn × Md):=[(.t 2,.one .d)]
theorem QLg(o:aH):aK Tryz.prog 228 [(.a (aT.cells aM o))] (xE (Zh o)):=by
 refine bz QWA QPC QGS 0 0 52 xF (kc QW0 (kc Iw kn)) (λK =>
 (aI ((((((decide (o.1<1))||(decide (o.1>5)))||(decide (o.2.1<1)))||(decide (o.2.1>6)))||(decide (o.2.2.1<1)))||(decide (o.2.2.1>6))) (K (xE false)) (aI ((o.1 != 1)&&(o.2.1 != o.2.2.1)) (K (xE false)) (K (xE ((((o.2.2.2).length:Int)==(YD o))&&(Z3 o.2.2.2))))))) (λhb=>?_)
 grind[Zh,bj]
theorem IQ:Qf Tryz.prog xF:=Qh λx _=>QLg x.1
def xG(t:Bool):aB:=b6 (bE t)
def IU:aJ:=Qg 157 [(.a [(.sl aM)])] λx=>(none,xG (Zc x.1))
def IV:aF:=⟨[xD,Y1],false⟩
def V5:af :=
 (ag [(ag [(.ae [ab 4 3,ak 5 1 0,an 6 5 1,ba 7 6,aw 8 .lss 4 7]),(.cond 8 .skip (.exit 0))]),(.block 1 (ag [(.draw [ak 11 1 0,an 12 11 1,ab 13 3,aZ 14 12 13 aM,a9 15 14 4,aD 16 222 [15],bL 17 16,ab 18 17,.bw 18 false [ab 19 3,aw 20 .gtr 19 (ar 0),ab 21 20,.bw 21 true [ak 22 1 0,an 23 22 1,ab 24 3,aZ 25 23 24 aM,ak 26 25 1,an 27 26 1,ak 28 1 0,an 29 28 1,ab 30 3,aw 31 .sub 30 (ar 1),aZ 32 29 31 aM,ak 33 32 2,an 34 33 1,aw 35 .neq 27 34] 36 35] 37 36] []),(.cond 37 (ag [(.ae [ab 2 (a6 false)]),.ret]) .skip)])),(.ae [ab 9 3,aw 10 .add 9 (ar 1),ab 3 10])])
def V6:List (Nat × Md):=[(1,.b [.d]),(3,.one .d)]
def V7:af :=
 (ag [(.ae [ak 38 1 0,an 39 38 1,ba 40 39,aD 41 158 [40,(ar 1),(ar 8)],ab 2 41]),.ret])
def QGa:af :=
 (ag [(.ae [aC 1 (.box 77 0 1),ab 2 (a6 false)]),(ag [(.ae [ab 3 (ar 0)]),(.block 0 (.loop V6 V5))]),V7])
def V8:List (bn × Md):=[(.t 2,.one .d)]
def V9:Qb:=TQ 0 0 V8 K
def QV3:Qb:=a0 (aN IV 0 V7 (V9 K)) (V9 K)
def QP8:Qb:=a7 0 (QV3 K)
def AX(m:List aH)(i:Int):Prop:=Loop IV 0 V6 V5 (QP8 K) ⟨[(1,(.p 0 0 0)),(3,(aL i))],[(0,(.box [(bf aM m)]))],1⟩
theorem Wa(m:List aH)(i:Int) (h :
 (aI (decide (i<(m.length:Int))) (((0<=i/\Int.toNat i<m.length)/\((!(!(Zh (aq b5 m (Int.toNat i)))))=true->((decide (i>0))=true->((0<=i/\Int.toNat i<m.length)/\(0<=aG (i-1)/\Int.toNat (aG (i-1))<m.length)))))/\(aI ((!(Zh (aq b5 m (Int.toNat i))))||((decide (i>0))&&(((aq b5 m (Int.toNat i)).2.1) != ((aq b5 m (Int.toNat (aG (i-1)))).2.2.1)))) (K (xG false)) (AX K m (aG (i+1))))) (K (xG (bj (m.length:Int) (1:Int) (8:Int)))))):AX K m i :=
 Loop.of h
theorem QKk(m:List aH):aK Tryz.prog 157 [(.a [(.c (.sl aM) m)])] (xG (Zc m)):=by
 refine bz IV QGa V8 0 0 42 IU (kc IP (kc Jg kn)) (λK =>
 (AX K m 0)) (λhb=>?_)
 have lZ:(m).length<=9223372036854775807:=hb.1.1.1;refine Zf m (λr k=>YI (JK m k) r=YI none m->AX (λr'=>r'=xG (Zc m)) m k) ?_ ?_ rfl
 ·intro he;refine Wa _ _ _ ⟨λh=>by simp at h,λ_=>?_⟩;grind[YI,Zc]
 ·intro k x r hk aW hg ih he;refine Wa _ _ _ ⟨λ_=>?_,λh=>by simp at h;omega⟩;rw[Int.toNat_natCast,hg,QF (x:=(k:Int)+1) (by omega) (by omega)];have ep:JK m (k+1)=some x.2.2.1:=by simp[JK,hg]
  rw[ep]at ih
  rcases Nat.eq_zero_or_pos k with h0 | h0
  ·subst h0;simp only[YI,JK,if_true]at he;grind[Zc]
  ·have e2:=rl h0 (by omega:k<=9223372036854775807);simp only[YI,JK,if_neg (Nat.ne_of_gt h0)]at he;grind[Zc]
theorem QTj:Qf Tryz.prog IU:=Qh λx _=>QKk x.1
def t4(t:Bool):aB:=b6 (bE t)
def t6:aJ:=Qg 167 [(.a [(.sl aM)])] λx=>(none,t4 (Zc x.1))
def IW:aF:=⟨[xF],false⟩
def Wb:af :=
 (ag [(.ae [aw 19 .lss 18 17]),(.cond 19 .skip (.exit 0)),(.block 1 (ag [(.ae [ab 20 18,aZ 21 16 18 aM,a9 22 21 4,aC 4 (.new 134 (bG aM)),ab 3 20,aV 4 22 4]),(.draw [a9 23 4 4,aD 24 228 [23],bL 25 24,ab 26 25,.bw 26 false [ab 27 3,aw 28 .gtr 27 (ar 0),ab 29 28,.bw 29 true [ak 30 1 0,an 31 30 1,ab 32 3,aw 33 .sub 32 (ar 1),aZ 34 31 33 aM,ak 35 34 2,an 36 35 1,ak 37 4 1,an 38 37 1,aw 39 .neq 36 38] 40 39] 41 40] []),(.cond 41 (ag [(.ae [ab 2 (a6 false)]),.ret]) .skip)])),(.ae [aw 42 .add 18 (ar 1),ab 18 42])])
def Wc:List (Nat × Md):=[(1,.b [.d]),(16,.one .d),(17,.one .d),(18,.one .d)]
def Wd:af :=
 (ag [(.ae [ab 2 (a6 true)]),.ret])
def QWC:af :=
 (ag [(.ae [aC 1 (.box 77 0 1),ab 2 (a6 false)]),(ag [(.ae [ak 5 1 0,an 6 5 1,ba 7 6,aw 8 .lss 7 (ar 1),ab 9 8,.bw 9 false [ak 10 1 0,an 11 10 1,ba 12 11,aw 13 .gtr 12 (ar 8)] 14 13]),(.cond 14 (ag [(.ae [ab 2 (a6 false)]),.ret]) .skip)]),(ag [(.ae [ak 15 1 0,an 16 15 1,ba 17 16,ab 18 (ar 0)]),(.block 0 (.loop Wc Wb))]),Wd])
def We:List (bn × Md):=[(.t 2,.one .d)]
def Wf:Qb:=TQ 0 0 We K
def QTE:Qb:=a0 (aN IW 0 Wd (Wf K)) (Wf K)
def QQs:Qb:=a7 0 (QTE K)
def AY(m:List aH)(x:Int):Prop:=Loop IW 0 Wc Wb (QQs K) ⟨[(1,(.p 0 0 0)),(16,(bf aM m)),(17,(aL (m.length:Int))),(18,(aL x))],[(0,(.box [(bf aM m)]))],1⟩
theorem Wg(m:List aH)(x:Int) (h :
 (aI (decide (x<(m.length:Int))) ((0<=x/\Int.toNat x<m.length)/\(((!(!(Zh (aq b5 m (Int.toNat x)))))=true->((decide (x>0))=true->(0<=aG (x-1)/\Int.toNat (aG (x-1))<m.length)))/\(aI ((!(Zh (aq b5 m (Int.toNat x))))||((decide (x>0))&&(((aq b5 m (Int.toNat (aG (x-1)))).2.2.1) != ((aq b5 m (Int.toNat x)).2.1)))) (K (t4 false)) (AY K m (aG (x+1)))))) (K (t4 true)))):AY K m x :=
 Loop.of h
theorem QRn(m:List aH):aK Tryz.prog 167 [(.a [(.c (.sl aM) m)])] (t4 (Zc m)):=by
 refine bz IW QWC We 0 0 43 t6 (kc IQ kn) (λK =>
 (aI ((decide ((m.length:Int)<1))||(decide ((m.length:Int)>8))) (K (t4 false)) (AY K m 0))) (λhb=>?_)
 have lZ:(m).length<=9223372036854775807:=hb.1.1.1;refine⟨λh=>au (by grind[Zc,bj]),λh=>?_⟩;have fc:bj m.length 1 8=true:=by grind[bj]
 refine Zf m (λr k=>YI (JK m k) r=YI none m->AY (λr'=>r'=t4 (Zc m)) m k) ?_ ?_ rfl
 ·intro he;refine Wg _ _ _ ⟨λh=>by simp at h,λ_=>?_⟩;grind[YI,Zc]
 ·intro k x r hk aW hg ih he;refine Wg _ _ _ ⟨λ_=>?_,λh=>by simp at h;omega⟩;rw[Int.toNat_natCast,hg,QF (x:=(k:Int)+1) (by omega) (by omega)];have ep:JK m (k+1)=some x.2.2.1:=by simp[JK,hg]
  rw[ep]at ih
  rcases Nat.eq_zero_or_pos k with h0 | h0
  ·subst h0;simp only[YI,JK,if_true]at he;grind[Zc]
  ·have e2:=rl h0 (by omega:k<=9223372036854775807);simp only[YI,JK,if_neg (Nat.ne_of_gt h0)]at he;grind[Zc]
theorem AZ:Qf Tryz.prog t6:=Qh λx _=>QRn x.1
def A0(t:Int):aB:=b6 (aL t)
def xH:aJ:=Qg 101 [(.a [(.sl aM)])] λx=>(none,A0 (ZO x.1))
def QE5:aF:=⟨[t6],false⟩
def QMh:af :=
 (ag [(.ae [aC 1 (.box 77 0 1),ab 2 (ar 0)]),(ag [(.ae [a9 3 1 1,aD 4 167 [3],bL 5 4]),(.cond 5 (ag [(.ae [ab 2 (ar 0)]),.ret]) .skip)]),(.ae [ak 6 1 0,an 7 6 1,aZ 8 7 (ar 0) aM,ak 9 8 1,an 10 9 1,ab 2 10]),.ret])
def QSj:List (bn × Md):=[(.t 2,.one .d)]
theorem QEF(m:List aH):aK Tryz.prog 101 [(.a [(.c (.sl aM) m)])] (A0 (ZO m)):=by
 refine bz QE5 QMh QSj 0 0 11 xH (kc AZ kn) (λK =>
 (aI (!(Zc m)) (K (A0 (0:Int))) (((0:Int)<=0/\Int.toNat 0<m.length)/\K (A0 ((aq b5 m (Int.toNat 0)).2.1))))) (λhb=>?_)
 refine⟨λh=>au (by grind[ZO]),λh=>?_⟩;have:=Yw (m:=m) (by simpa using h);exact⟨⟨by omega,by simp;omega⟩,au (by simp at h;simp[ZO,h])⟩
theorem IX:Qf Tryz.prog xH:=Qh λx _=>QEF x.1
def A1(t:Int):aB:=b6 (aL t)
def xI:aJ:=Qg 102 [(.a [(.sl aM)])] λx=>(none,A1 (Zu x.1))
def QVn:aF:=⟨[t6],false⟩
def QVS:af :=
 (ag [(.ae [aC 1 (.box 77 0 1),ab 2 (ar 0)]),(ag [(.ae [a9 3 1 1,aD 4 167 [3],bL 5 4]),(.cond 5 (ag [(.ae [ab 2 (ar 0)]),.ret]) .skip)]),(.ae [ak 6 1 0,an 7 6 1,ak 8 1 0,an 9 8 1,ba 10 9,aw 11 .sub 10 (ar 1),aZ 12 7 11 aM,ak 13 12 2,an 14 13 1,ab 2 14]),.ret])
def QX8:List (bn × Md):=[(.t 2,.one .d)]
theorem QO5(m:List aH):aK Tryz.prog 102 [(.a [(.c (.sl aM) m)])] (A1 (Zu m)):=by
 refine bz QVn QVS QX8 0 0 15 xI (kc AZ kn) (λK =>
 (aI (!(Zc m)) (K (A1 (0:Int))) ((0<=aG ((m.length:Int)-1)/\Int.toNat (aG ((m.length:Int)-1))<m.length)/\K (A1 ((aq b5 m (Int.toNat (aG ((m.length:Int)-1)))).2.2.1))))) (λhb=>?_)
 refine⟨λh=>au (by grind[Zu]),λh=>?_⟩;have:=Yw (m:=m) (by simpa using h);have e:=rl this.1 (by omega:m.length<=9223372036854775807);rw[e.1];exact⟨⟨e.2,by omega⟩,au (by simp at h;simp[Zu,h])⟩
theorem IY:Qf Tryz.prog xI:=Qh λx _=>QO5 x.1
def IZ(t:Int):aB:=b6 (aL t)
def sa:aJ:=Qg 190 [(.c TI)] λx=>(none,IZ (QQ x.1))
def QNM:aF:=⟨[],false⟩
def QPE:af :=
 (ag [(.ae [ab 2 (ar 0)]),(.ae [ab 3 0,aC 4 (.mm true 3 (ar (-2147483647))),aC 5 (.mm false 4 (ar 2147483647)),ab 2 5]),.ret])
def QWO:List (bn × Md):=[(.t 2,.one .d)]
theorem QN5(x:Int):aK Tryz.prog 190 [(.c TI x)] (IZ (QQ x)):=by
 refine bz QNM QPE QWO 0 0 6 sa kn (λK =>
 K (IZ (if(2147483647:Int)<(if x<(-2147483647:Int) then(-2147483647:Int) else x) then(2147483647:Int) else(if x<(-2147483647:Int) then(-2147483647:Int) else x)))) (λhb=>?_)
 exact au (QI7 x)
theorem xJ:Qf Tryz.prog sa:=Qh λx _=>QN5 x.1
def I0(t:Int × Bool):aB:=b6 (.tp [(aL t.1),(bE t.2)])
def xK:aJ:=Qg 189 [(.c TI)] λx=>(none,I0 (ZX x.1))
def QPq:aF:=⟨[sa,xB],false⟩
def QS9:af :=
 (ag [(.ae [ab 2 (ar 0),ab 3 (a6 false)]),(.ae [ab 4 0,aD 5 190 [4],ab 6 0,aD 7 240 [6],bL 8 7,ab 2 5,ab 3 8]),.ret])
def QK2:List (bn × Md):=[(.t 2,.one .d),(.t 3,.one .d)]
theorem QLc(x:Int):aK Tryz.prog 189 [(.c TI x)] (I0 (ZX x)):=by
 refine bz QPq QS9 QK2 0 0 9 xK (kc xJ (kc It kn)) (λK =>
 K (I0 ((QQ x),(!(Zv x))))) (λhb=>?_)
 exact au rfl
theorem I1:Qf Tryz.prog xK:=Qh λx _=>QLc x.1
def xL(t:Int × Bool):aB:=b6 (.tp [(aL t.1),(bE t.2)])
def t7:aJ:=Qg 185 [(.c TI)] λx=>(none,xL (ZX x.1))
def QK0:aF:=⟨[],false⟩
def QOt:af :=
 (ag [(.ae [ab 2 (ar 0),ab 3 (a6 false)]),(ag [(.ae [ab 4 0,aw 5 .gtr 4 (ar 2147483647)]),(.cond 5 (ag [(.ae [ab 2 (ar 2147483647),ab 3 (a6 true)]),.ret]) .skip)]),(ag [(.ae [ab 6 0,aw 7 .lss 6 (ar (-2147483647))]),(.cond 7 (ag [(.ae [ab 2 (ar (-2147483647)),ab 3 (a6 true)]),.ret]) .skip)]),(.ae [ab 8 0,ab 2 8,ab 3 (a6 false)]),.ret])
def QT9:List (bn × Md):=[(.t 2,.one .d),(.t 3,.one .d)]
theorem QJt(x:Int):aK Tryz.prog 185 [(.c TI x)] (xL (ZX x)):=by
 refine bz QK0 QOt QT9 0 0 9 t7 kn (λK =>
 (aI (decide (x>2147483647)) (K (xL ((2147483647:Int),true))) (aI (decide (x<(-2147483647:Int))) (K (xL ((-2147483647:Int),true))) (K (xL (x,false)))))) (λhb=>?_)
 refine⟨λh=>au ?_,λh=>⟨λh2=>au ?_,λh2=>au ?_⟩⟩
 all_goals (simp at *;simp[ZX,QQ,Zv,jP,jQ];omega)
theorem A2:Qf Tryz.prog t7:=Qh λx _=>QJt x.1
def I2(t:Int):aB:=b6 (aL t)
def t8:aJ:=Qg 186 [(.c TI)] λx=>(none,I2 (QQ x.1))
def QSI:aF:=⟨[t7],false⟩
def QKZ:af :=
 (ag [(.ae [ab 2 (ar 0)]),(.ae [ab 6 0,aD 7 185 [6],ab 5 7,bF 8 5 0,bF 9 5 1,ab 3 8,ab 4 9]),(.ae [ab 10 3,ab 2 10]),.ret])
def QGn:List (bn × Md):=[(.t 2,.one .d)]
theorem QFw(x:Int):aK Tryz.prog 186 [(.c TI x)] (I2 (QQ x)):=by
 refine bz QSI QKZ QGn 0 0 11 t8 (kc A2 kn) (λK =>
 K (I2 ((ZX x).1))) (λhb=>?_)
 exact au rfl
theorem A3:Qf Tryz.prog t8:=Qh λx _=>QFw x.1
def A4(t:Int):aB:=b6 (aL t)
def I3:aJ:=Qg 263 [(.c TI),(.c TI)] λx=>(some (Gf x.1 x.2.1),A4 (Ap x.1 x.2.1))
def QIM:aF:=⟨[],false⟩
def QRR:af :=
 (ag [(.ae [ab 4 (ar 0)]),(.ae [ab 6 0,ab 7 1,aw 8 .quo 6 7,ab 5 8]),(ag [(.ae [ab 9 0,ab 10 1,aw 11 .rem 9 10,aw 12 .neq 11 (ar 0),ab 13 12,.bw 13 true [ab 14 0,aw 15 .lss 14 (ar 0),ab 16 1,aw 17 .lss 16 (ar 0),aC 18 (.ie true 15 17)] 19 18]),(.cond 19 (.ae [ab 20 5,aw 21 .sub 20 (ar 1),ab 5 21]) .skip)]),(.ae [ab 22 5,ab 4 22]),.ret])
def QQq:List (bn × Md):=[(.t 4,.one .d)]
theorem QP9(a:Int)(b:Int)(hp:Gf a b):aK Tryz.prog 263 [(.c TI a),(.c TI b)] (A4 (Ap a b)):=by
 refine bz QIM QRR QQq 0 0 23 I3 kn (λK =>
 ((¬ (b:Int)=0)/\((¬ (b:Int)=0)/\(aI (((Int.tmod a b) != 0)&&(!((decide (a<0))==(decide (b<0))))) (K (A4 (aG ((aG (Int.tdiv a b))-1)))) (K (A4 (aG (Int.tdiv a b)))))))) (λhb=>?_)
 obtain⟨h1,h2,rfl⟩:=hp;have hq:aG (Int.tdiv a 65536)=Int.tdiv a 65536:=by
  rw[Int.tdiv_eq_ediv];have:Int.sign 65536=1:=rfl;rw[this];exact QF (by split <;> omega) (by split <;> omega)
 have iK:aG (Int.tdiv a 65536-1)=Int.tdiv a 65536-1:=by
  rw[Int.tdiv_eq_ediv];have:Int.sign 65536=1:=rfl;rw[this];exact QF (by split <;> omega) (by split <;> omega)
 have hf:=QPp a;rw[hq,iK];refine⟨by omega,by omega,λh=>au ?_,λh=>au ?_⟩
 ·rw[if_pos h]at hf;exact hf
 ·rw[if_neg (by rw[h];simp)]at hf;exact hf
theorem QLo:Qf Tryz.prog I3:=Qh λx h=>QP9 x.1 x.2.1 h
def I4(t:Int × Bool):aB:=b6 (.tp [(aL t.1),(bE t.2)])
def t9:aJ:=Qg 106 [(.c TI),(.c TI)] λx=>(none,I4 (Q4 x.1 x.2.1))
def QTq:aF:=⟨[sa,xK],false⟩
def QMA:af :=
 (ag [(.ae [ab 4 (ar 0),ab 5 (a6 false)]),(.ae [ab 6 0,aD 7 190 [6],ab 8 1,aD 9 190 [8],aw 10 .add 7 9,aD 11 189 [10],bF 12 11 0,bF 13 11 1,ab 4 12,ab 5 13]),.ret])
def QQL:List (bn × Md):=[(.t 4,.one .d),(.t 5,.one .d)]
theorem QJQ(a:Int)(b:Int):aK Tryz.prog 106 [(.c TI a),(.c TI b)] (I4 (Q4 a b)):=by
 refine bz QTq QMA QQL 0 0 14 t9 (kc xJ (kc I1 kn)) (λK =>
 K (I4 ((ZX (aG ((QQ a)+(QQ b)))).1,(ZX (aG ((QQ a)+(QQ b)))).2))) (λhb=>?_)
 have h1:=Jy a;have h2:=Jy b;rw[QF (x:=QQ a+QQ b) (by omega) (by omega)];exact au rfl
theorem A5:Qf Tryz.prog t9:=Qh λx _=>QJQ x.1 x.2.1
def I5(t:Int × Bool):aB:=b6 (.tp [(aL t.1),(bE t.2)])
def sb:aJ:=Qg 99 [(.c TI),(.c TI)] λx=>(none,I5 (Q4 x.1 x.2.1))
def QW4:aF:=⟨[t8,t7],false⟩
def QQr:af :=
 (ag [(.ae [ab 4 (ar 0),ab 5 (a6 false)]),(.ae [ab 6 0,aD 7 186 [6],ab 8 1,aD 9 186 [8],aw 10 .add 7 9,aD 11 185 [10],bF 12 11 0,bF 13 11 1,ab 4 12,ab 5 13]),.ret])
def QND:List (bn × Md):=[(.t 4,.one .d),(.t 5,.one .d)]
theorem QJ1(a:Int)(b:Int):aK Tryz.prog 99 [(.c TI a),(.c TI b)] (I5 (Q4 a b)):=by
 refine bz QW4 QQr QND 0 0 14 sb (kc A3 (kc A2 kn)) (λK =>
 K (I5 ((ZX (aG ((QQ a)+(QQ b)))).1,(ZX (aG ((QQ a)+(QQ b)))).2))) (λhb=>?_)
 have h1:=Jy a;have h2:=Jy b;rw[QF (x:=QQ a+QQ b) (by omega) (by omega)];exact au rfl
theorem xM:Qf Tryz.prog sb:=Qh λx _=>QJ1 x.1 x.2.1
def I6(t:Int × Bool):aB:=b6 (.tp [(aL t.1),(bE t.2)])
def I7:aJ:=Qg 196 [(.c TI),(.c TI)] λx=>(none,I6 (Jc x.1 x.2.1))
def QK7:aF:=⟨[sa,xK],false⟩
def QWf:af :=
 (ag [(.ae [ab 4 (ar 0),ab 5 (a6 false)]),(.ae [ab 6 0,aD 7 190 [6],ab 8 1,aD 9 190 [8],aw 10 .sub 7 9,aD 11 189 [10],bF 12 11 0,bF 13 11 1,ab 4 12,ab 5 13]),.ret])
def QJn:List (bn × Md):=[(.t 4,.one .d),(.t 5,.one .d)]
theorem QHc(a:Int)(b:Int):aK Tryz.prog 196 [(.c TI a),(.c TI b)] (I6 (Jc a b)):=by
 refine bz QK7 QWf QJn 0 0 14 I7 (kc xJ (kc I1 kn)) (λK =>
 K (I6 ((ZX (aG ((QQ a)-(QQ b)))).1,(ZX (aG ((QQ a)-(QQ b)))).2))) (λhb=>?_)
 have h1:=Jy a;have h2:=Jy b;rw[QF (x:=QQ a-QQ b) (by omega) (by omega)];exact au rfl
theorem QGt:Qf Tryz.prog I7:=Qh λx _=>QHc x.1 x.2.1
def I8(t:Int × Bool):aB:=b6 (.tp [(aL t.1),(bE t.2)])
def I9:aJ:=Qg 192 [(.c TI),(.c TI)] λx=>(none,I8 (Jc x.1 x.2.1))
def QO2:aF:=⟨[t8,t7],false⟩
def QVA:af :=
 (ag [(.ae [ab 4 (ar 0),ab 5 (a6 false)]),(.ae [ab 6 0,aD 7 186 [6],ab 8 1,aD 9 186 [8],aw 10 .sub 7 9,aD 11 185 [10],bF 12 11 0,bF 13 11 1,ab 4 12,ab 5 13]),.ret])
def QRr:List (bn × Md):=[(.t 4,.one .d),(.t 5,.one .d)]
theorem QIG(a:Int)(b:Int):aK Tryz.prog 192 [(.c TI a),(.c TI b)] (I8 (Jc a b)):=by
 refine bz QO2 QVA QRr 0 0 14 I9 (kc A3 (kc A2 kn)) (λK =>
 K (I8 ((ZX (aG ((QQ a)-(QQ b)))).1,(ZX (aG ((QQ a)-(QQ b)))).2))) (λhb=>?_)
 have h1:=Jy a;have h2:=Jy b;rw[QF (x:=QQ a-QQ b) (by omega) (by omega)];exact au rfl
theorem QLb:Qf Tryz.prog I9:=Qh λx _=>QIG x.1 x.2.1
def Ka(t:Int × Bool):aB:=b6 (.tp [(aL t.1),(bE t.2)])
def xN:aJ:=Qg 239 [(.c TI),(.c TI)] λx=>(none,Ka (Q9 x.1 x.2.1))
def QW6:aF:=⟨[sa,xK],false⟩
def QPQ:af :=
 (ag [(.ae [ab 4 (ar 0),ab 5 (a6 false)]),(.ae [ab 6 0,aD 7 190 [6],ab 8 1,aD 9 190 [8],aw 10 .mul 7 9,aw 11 .shr 10 (.k (.c (.int .u64) (16:Int))),aD 12 189 [11],bF 13 12 0,bF 14 12 1,ab 4 13,ab 5 14]),.ret])
def QQl:List (bn × Md):=[(.t 4,.one .d),(.t 5,.one .d)]
theorem QUY(a:Int)(b:Int):aK Tryz.prog 239 [(.c TI a),(.c TI b)] (Ka (Q9 a b)):=by
 refine bz QW6 QPQ QQl 0 0 15 xN (kc xJ (kc I1 kn)) (λK =>
 (((0:Int)<=16)/\K (Ka ((ZX (Int.fdiv (aG ((QQ a)*(QQ b))) (2 ^ (min (Int.toNat 16) (IntKind.i64.bits))))).1,(ZX (Int.fdiv (aG ((QQ a)*(QQ b))) (2 ^ (min (Int.toNat 16) (IntKind.i64.bits))))).2)))) (λhb=>?_)
 have h:=S9 a b;rw[QF (x:=QQ a*QQ b) (by omega) (by omega)];exact⟨by omega,au rfl⟩
theorem Kb:Qf Tryz.prog xN:=Qh λx _=>QUY x.1 x.2.1
def Kc(t:Int × Bool):aB:=b6 (.tp [(aL t.1),(bE t.2)])
def xO:aJ:=Qg 237 [(.c TI),(.c TI)] λx=>(none,Kc (Q9 x.1 x.2.1))
def QJs:aF:=⟨[t8,I3,t7],false⟩
def QPu:af :=
 (ag [(.ae [ab 4 (ar 0),ab 5 (a6 false)]),(.ae [ab 6 0,aD 7 186 [6],ab 8 1,aD 9 186 [8],aw 10 .mul 7 9,aD 11 263 [10,(ar 65536)],aD 12 185 [11],bF 13 12 0,bF 14 12 1,ab 4 13,ab 5 14]),.ret])
def QMd:List (bn × Md):=[(.t 4,.one .d),(.t 5,.one .d)]
theorem QJ9(a:Int)(b:Int):aK Tryz.prog 237 [(.c TI a),(.c TI b)] (Kc (Q9 a b)):=by
 refine bz QJs QPu QMd 0 0 15 xO (kc A3 (kc QLo (kc A2 kn))) (λK =>
 ((Gf (aG ((QQ a)*(QQ b))) (65536:Int))/\K (Kc ((ZX (Ap (aG ((QQ a)*(QQ b))) (65536:Int))).1,(ZX (Ap (aG ((QQ a)*(QQ b))) (65536:Int))).2)))) (λhb=>?_)
 have h:=S9 a b;rw[QF (x:=QQ a*QQ b) (by omega) (by omega)];exact⟨⟨h.1,h.2,rfl⟩,au rfl⟩
theorem Kd:Qf Tryz.prog xO:=Qh λx _=>QJ9 x.1 x.2.1
def Ke(t:Int):aB:=b6 (aL t)
def Kf:aJ:=Qg 259 [(.c TI)] λx=>(none,Ke (J2 x.1))
def QJi:aF:=⟨[sa],false⟩
def QH1:af :=
 (ag [(.ae [ab 2 (ar 0)]),(.ae [ab 3 0,aD 4 190 [3],aC 5 (.mm true (ar 0) 4),ab 2 5]),.ret])
def QHS:List (bn × Md):=[(.t 2,.one .d)]
theorem QPw(a:Int):aK Tryz.prog 259 [(.c TI a)] (Ke (J2 a)):=by
 refine bz QJi QH1 QHS 0 0 6 Kf (kc xJ kn) (λK =>
 K (Ke (if(0:Int)<(QQ a) then(QQ a) else(0:Int)))) (λhb=>?_)
 exact au rfl
theorem QNI:Qf Tryz.prog Kf:=Qh λx _=>QPw x.1
def Kg(t:Int):aB:=b6 (aL t)
def Kh:aJ:=Qg 256 [(.c TI)] λx=>(none,Kg (J2 x.1))
def QUd:aF:=⟨[t8],false⟩
def QXs:af :=
 (ag [(.ae [ab 2 (ar 0)]),(.ae [ab 3 0,aD 4 186 [3],aC 5 (.mm true (ar 0) 4),ab 2 5]),.ret])
def QI9:List (bn × Md):=[(.t 2,.one .d)]
theorem QSR(a:Int):aK Tryz.prog 256 [(.c TI a)] (Kg (J2 a)):=by
 refine bz QUd QXs QI9 0 0 6 Kh (kc A3 kn) (λK =>
 K (Kg (if(0:Int)<(QQ a) then(QQ a) else(0:Int)))) (λhb=>?_)
 exact au rfl
theorem QWo:Qf Tryz.prog Kh:=Qh λx _=>QSR x.1
def Ki(t:(List Int)):aB:=⟨(.r [TI] 0 0 t.length),[(.sl 3 [TI] (.dp 0 true []) t)],[],false,[]⟩
def JG:aJ:=Qg 104 [(.c (.sl [TI]))] λx=>(some (Qt (α:=List Int) x.1),Ki (id (α:=List Int) x.1))
def QHo:aF:=⟨[],true⟩
def QP5:af :=
 (ag [(.ae [ab 2 (.k (.n [TI]))]),(.ae [aC 3 (.bW 3 [TI] []),ab 4 0,aC 5 (.app 3 4 3 [TI]),ab 2 5]),.ret])
def QVT:List (bn × Md):=[(.t 2,.one (.p 3))]
theorem QKr(l:List Int)(hp:Qt (α:=List Int) l):aK Tryz.prog 104 [(.c (.sl [TI]) l)] (Ki (id (α:=List Int) l)):=by
 refine bz QHo QP5 QVT 0 0 6 JG kn (λK =>
 (((0=0\/0+l.length<=0)/\0+l.length<=ca)/\K (Ki (List.take (0+l.length) (l:List Int))))) (λhb=>?_)
 have hl:=ZH l;unfold Qt at hp;exact⟨⟨.inl rfl,by rw[Zg];omega⟩,au (by simp)⟩
theorem nQ:Qf Tryz.prog JG:=Qh λx h=>QKr x.1 h
def xP(t:(List aH)):aB:=⟨(.r aM 0 0 t.length),[(.sl 134 aM (.dp 0 true []) t)],[],false,[]⟩
def Kj:aJ:=Qg 165 [(.c (.sl aM))] λx=>(some (Qt (α:=List aH) x.1),xP (id (α:=List aH) x.1))
def Kk:aF:=⟨[JG],true⟩
def Wh:af :=
 (ag [(.ae [aw 10 .lss 9 8]),(.cond 10 .skip (.exit 0)),(.block 1 (ag [(.ae [aZ 11 7 9 aM,a9 12 11 4,aC 5 (.new 134 (bG aM)),aV 5 12 4]),(.draw [ab 13 3,ak 14 5 0,an 15 14 1,ak 16 5 1,an 17 16 1,ak 18 5 2,an 19 18 1,ak 20 5 3,an 21 20 1,aD 22 104 [21],aC 23 (.build (bG aM) [(0,1,15),(1,1,17),(2,1,19),(3,1,22)]),aC 24 (.bW 134 aM [23]),aC 25 (.app 13 24 134 aM),ab 3 25] [(1,9),(2,9),(3,9),(4,9),(5,9),(6,9)])])),(.ae [aw 26 .add 9 (ar 1),ab 9 26])])
def Wi:List (Nat × Md):=[(3,.one .f),(7,.one .d),(8,.one .d),(9,.one .d)]
def Wj:af :=
 (ag [(.ae [ab 27 3,ab 2 27]),.ret])
def QE0:af :=
 (ag [(.ae [ab 2 (.k (.n aM))]),(.ae [aC 6 (.bW 134 aM []),ab 3 6]),(ag [(.ae [ab 7 0,ba 8 7,ab 9 (ar 0)]),(.block 0 (.loop Wi Wh))]),Wj])
def Wk:List (bn × Md):=[(.t 2,.one (.p 134))]
def Wl:Qb:=TQ 0 0 Wk K
def QMg:Qb:=a0 (aN Kk 0 Wj (Wl K)) (Wl K)
def QPn:Qb:=a7 0 (QMg K)
def Kl(l:List aH)(x:Int)(ops:List aH):Prop:=Loop Kk 0 Wi Wh (QPn K) ⟨[(3,(.r aM 0 0 ops.length)),(7,(bf aM l)),(8,(aL (l.length:Int))),(9,(aL x))],[(0,(.sl 134 aM (.dp 0 true []) ops))],1⟩
theorem Wm(l:List aH)(x:Int)(ops:List aH) (h :
 (aI (decide (x<(l.length:Int))) ((0<=x/\Int.toNat x<l.length)/\(((Qt (α:=List Int) ((aq b5 l (Int.toNat x)).2.2.2))/\((ops.length=ops.length\/ops.length+1<=ops.length)/\ops.length+1<=ca))/\(Kl K l (aG (x+1)) (List.take (ops.length+1) ((List.take ops.length ops)++([((aq b5 l (Int.toNat x)).1,(aq b5 l (Int.toNat x)).2.1,(aq b5 l (Int.toNat x)).2.2.1,(List.take ((id (α:=List Int) ((aq b5 l (Int.toNat x)).2.2.2)).length) (List.drop 0 (id (α:=List Int) ((aq b5 l (Int.toNat x)).2.2.2)))))])))))) (K (xP (List.take ops.length ops))))):Kl K l x ops :=
 Loop.of h
theorem QFv(l:List aH)(hp:Qt (α:=List aH) l):aK Tryz.prog 165 [(.c (.sl aM) l)] (xP (id (α:=List aH) l)):=by
 refine bz Kk QE0 Wk 0 0 28 Kj (kc nQ kn) (λK =>
 (Kl K l 0 ([]:List aH))) (λhb=>?_)
 refine YC (Q:=λz=>xP z=xP (id (α:=List aH) l)) hp (λk x v hk hl hg hv hx ih=>?_) (λhq=>?_) (au rfl)
 ·refine Wm _ _ _ _ ⟨λ_=>?_,λh=>by simp at h;omega⟩
  try simp only[QP,QL,Q0]at hx
  rw[Int.toNat_natCast,hg,dP (by omega),Q8,rD];exact⟨⟨by omega,hk⟩,⟨(show Sz.sz (_:List Int)<=2147483648 by omega),room (by omega)⟩,ih⟩
 ·refine Wm _ _ _ _ ⟨λh=>by simp at h,λ_=>?_⟩;exact au (by simp)
theorem QOx:Qf Tryz.prog Kj:=Qh λx h=>QFv x.1 h
def xQ(t:(List (List Int))):aB:=⟨(.r [(.sl [TI])] 0 0 t.length),[(.sl 106 [(.sl [TI])] (.dp 0 true []) t)],[],false,[]⟩
def xR:aJ:=Qg 103 [(.c (.sl [(.sl [TI])]))] λx=>(some (Qt (α:=List (List Int)) x.1),xQ (id (α:=List (List Int)) x.1))
def Km:aF:=⟨[JG],true⟩
def Wn:af :=
 (ag [(.ae [aw 10 .lss 9 8]),(.cond 10 .skip (.exit 0)),(.block 1 (ag [(.ae [aZ 11 7 9 [(.sl [TI])],a9 12 11 1,aC 5 (.new 106 [(.n [TI])]),aV 5 12 1]),(.ae [ab 13 3,ak 14 5 0,an 15 14 1,aD 16 104 [15],aC 17 (.build [(.n [TI])] [(0,1,16)]),aC 18 (.bW 106 [(.sl [TI])] [17]),aC 19 (.app 13 18 106 [(.sl [TI])]),ab 3 19])])),(.ae [aw 20 .add 9 (ar 1),ab 9 20])])
def Wo:List (Nat × Md):=[(3,.one .f),(7,.one .d),(8,.one .d),(9,.one .d)]
def Wp:af :=
 (ag [(.ae [ab 21 3,ab 2 21]),.ret])
def QIO:af :=
 (ag [(.ae [ab 2 (.k (.n [(.sl [TI])]))]),(.ae [aC 6 (.bW 106 [(.sl [TI])] []),ab 3 6]),(ag [(.ae [ab 7 0,ba 8 7,ab 9 (ar 0)]),(.block 0 (.loop Wo Wn))]),Wp])
def Wq:List (bn × Md):=[(.t 2,.one (.p 106))]
def Wr:Qb:=TQ 0 0 Wq K
def QSk:Qb:=a0 (aN Km 0 Wp (Wr K)) (Wr K)
def QUK:Qb:=a7 0 (QSk K)
def Kn(l:List (List Int))(x:Int)(rows:List (List Int)):Prop:=Loop Km 0 Wo Wn (QUK K) ⟨[(3,(.r [(.sl [TI])] 0 0 rows.length)),(7,(bf [(.sl [TI])] l)),(8,(aL (l.length:Int))),(9,(aL x))],[(0,(.sl 106 [(.sl [TI])] (.dp 0 true []) rows))],1⟩
theorem Ws(l:List (List Int))(x:Int)(rows:List (List Int)) (h :
 (aI (decide (x<(l.length:Int))) ((0<=x/\Int.toNat x<l.length)/\(((Qt (α:=List Int) (aq ([]:List Int) l (Int.toNat x)))/\((rows.length=rows.length\/rows.length+1<=rows.length)/\rows.length+1<=ca))/\(Kn K l (aG (x+1)) (List.take (rows.length+1) ((List.take rows.length rows)++([(List.take ((id (α:=List Int) (aq ([]:List Int) l (Int.toNat x))).length) (List.drop 0 (id (α:=List Int) (aq ([]:List Int) l (Int.toNat x)))))])))))) (K (xQ (List.take rows.length rows))))):Kn K l x rows :=
 Loop.of h
theorem QFW(l:List (List Int))(hp:Qt (α:=List (List Int)) l):aK Tryz.prog 103 [(.c (.sl [(.sl [TI])]) l)] (xQ (id (α:=List (List Int)) l)):=by
 refine bz Km QIO Wq 0 0 22 xR (kc nQ kn) (λK =>
 (Kn K l 0 ([]:List (List Int)))) (λhb=>?_)
 refine YC (Q:=λz=>xQ z=xQ (id (α:=List (List Int)) l)) hp (λk x v hk hl hg hv hx ih=>?_) (λhq=>?_) (au rfl)
 ·refine Ws _ _ _ _ ⟨λ_=>?_,λh=>by simp at h;omega⟩
  try simp only[QP,QL,Q0]at hx
  rw[Int.toNat_natCast,hg,dP (by omega),Q8,rD];exact⟨⟨by omega,hk⟩,⟨(show Sz.sz (_:List Int)<=2147483648 by omega),room (by omega)⟩,ih⟩
 ·refine Ws _ _ _ _ ⟨λh=>by simp at h,λ_=>?_⟩;exact au (by simp)
theorem Ko:Qf Tryz.prog xR:=Qh λx h=>QFW x.1 h
def xS(t:(List Qo)):aB:=⟨(.r QG 0 0 t.length),[(.sl 154 QG (.dp 0 true []) t)],[],false,[]⟩
def Kp:aJ:=Qg 126 [(.c (.sl QG))] λx=>(some (Qt (α:=List Qo) x.1),xS (id (α:=List Qo) x.1))
def Kq:aF:=⟨[JG],true⟩
def Wt:af :=
 (ag [(.ae [aw 10 .lss 9 8]),(.cond 10 .skip (.exit 0)),(.block 1 (ag [(.ae [aZ 11 7 9 QG,a9 12 11 2,aC 5 (.new 154 (bG QG)),aV 5 12 2]),(.draw [ab 13 3,ak 14 5 0,an 15 14 1,aD 16 104 [15],ak 17 5 1,an 18 17 1,aD 19 104 [18],aC 20 (.build (bG QG) [(0,1,16),(1,1,19)]),aC 21 (.bW 154 QG [20]),aC 22 (.app 13 21 154 QG),ab 3 22] [(3,4),(3,5)])])),(.ae [aw 23 .add 9 (ar 1),ab 9 23])])
def Wu:List (Nat × Md):=[(3,.one .f),(7,.one .d),(8,.one .d),(9,.one .d)]
def Wv:af :=
 (ag [(.ae [ab 24 3,ab 2 24]),.ret])
def QFI:af :=
 (ag [(.ae [ab 2 (.k (.n QG))]),(.ae [aC 6 (.bW 154 QG []),ab 3 6]),(ag [(.ae [ab 7 0,ba 8 7,ab 9 (ar 0)]),(.block 0 (.loop Wu Wt))]),Wv])
def Ww:List (bn × Md):=[(.t 2,.one (.p 154))]
def Wx:Qb:=TQ 0 0 Ww K
def QWM:Qb:=a0 (aN Kq 0 Wv (Wx K)) (Wx K)
def QWp:Qb:=a7 0 (QWM K)
def Kr(b:List Qo)(x:Int)(ZS:List Qo):Prop:=Loop Kq 0 Wu Wt (QWp K) ⟨[(3,(.r QG 0 0 ZS.length)),(7,(bf QG b)),(8,(aL (b.length:Int))),(9,(aL x))],[(0,(.sl 154 QG (.dp 0 true []) ZS))],1⟩
theorem Wy(b:List Qo)(x:Int)(ZS:List Qo) (h :
 (aI (decide (x<(b.length:Int))) ((0<=x/\Int.toNat x<b.length)/\(((Qt (α:=List Int) ((aq QW b (Int.toNat x)).1))/\((Qt (α:=List Int) ((aq QW b (Int.toNat x)).2))/\((ZS.length=ZS.length\/ZS.length+1<=ZS.length)/\ZS.length+1<=ca)))/\(Kr K b (aG (x+1)) (List.take (ZS.length+1) ((List.take ZS.length ZS)++([((List.take ((id (α:=List Int) ((aq QW b (Int.toNat x)).1)).length) (List.drop 0 (id (α:=List Int) ((aq QW b (Int.toNat x)).1)))),(List.take ((id (α:=List Int) ((aq QW b (Int.toNat x)).2)).length) (List.drop 0 (id (α:=List Int) ((aq QW b (Int.toNat x)).2)))))])))))) (K (xS (List.take ZS.length ZS))))):Kr K b x ZS :=
 Loop.of h
theorem QJW(b:List Qo)(hp:Qt (α:=List Qo) b):aK Tryz.prog 126 [(.c (.sl QG) b)] (xS (id (α:=List Qo) b)):=by
 refine bz Kq QFI Ww 0 0 25 Kp (kc nQ kn) (λK =>
 (Kr K b 0 ([]:List Qo))) (λhb=>?_)
 refine YC (Q:=λz=>xS z=xS (id (α:=List Qo) b)) hp (λk x v hk hl hg hv hx ih=>?_) (λhq=>?_) (au rfl)
 ·refine Wy _ _ _ _ ⟨λ_=>?_,λh=>by simp at h;omega⟩
  try simp only[QP,QL,Q0]at hx
  rw[Int.toNat_natCast,hg,dP (by omega),Q8,rD,rD];exact⟨⟨by omega,hk⟩,⟨(show Sz.sz (_:List Int)<=2147483648 by omega),(show Sz.sz (_:List Int)<=2147483648 by omega),room (by omega)⟩,ih⟩
 ·refine Wy _ _ _ _ ⟨λh=>by simp at h,λ_=>?_⟩;exact au (by simp)
theorem QM2:Qf Tryz.prog Kp:=Qh λx h=>QJW x.1 h
def Ks(t:QN):aB:=⟨(.a [(.r [(.sl [TI])] 0 0 ((t.1).length)),(aL t.2.1),(bE t.2.2)]),[(.sl 106 [(.sl [TI])] (.dp 0 true []) t.1)],[],false,[]⟩
def Kt:aJ:=Qg 166 [(.a Zj)] λx=>(some (Qt (α:=QN) x.1),Ks (id (α:=QN) x.1))
def QI1:aF:=⟨[xR],true⟩
def QEL:af :=
 (ag [(.ae [aC 1 (.box 37 0 3),aC 2 (.new 37 (bG Zj))]),(.draw [ak 3 1 0,an 4 3 1,aD 5 103 [4],ak 6 1 1,an 7 6 1,ak 8 1 2,an 9 8 1,aC 10 (.build (bG Zj) [(0,1,5),(1,1,7),(2,1,9)]),aV 2 10 3] [(2,3),(2,4),(2,5),(2,6)]),.ret])
def QRt:List (bn × Md):=[(.l 2 3 true,.b [.p 106,.d,.d])]
theorem QR8(g:QN)(hp:Qt (α:=QN) g):aK Tryz.prog 166 [(.a (aT.cells Zj g))] (Ks (id (α:=QN) g)):=by
 refine bz QI1 QEL QRt 0 0 11 Kt (kc Ko kn) (λK =>
 ((Qt (α:=List (List Int)) g.1)/\K (Ks ((List.take ((id (α:=List (List Int)) g.1).length) (id (α:=List (List Int)) g.1)),g.2.1,g.2.2)))) (λhb=>?_)
 unfold Qt at hp;simp only[QP,QL,Q0]at hp;exact⟨hp,au (by simp)⟩
theorem QUg:Qf Tryz.prog Kt:=Qh λx h=>QR8 x.1 h
def xT(t:(List aH)):aB:=f5 (bf aM t)
def Ku:aJ:=Qg 155 [(.c (.sl aM))] λx=>(some (Qt (α:=List aH) x.1),xT (id (α:=List aH) x.1))
def Kv:aF:=⟨[],false⟩
def Wz:af :=
 (ag [(ag [(.ae [ab 7 4,ab 8 0,ba 9 8,aw 10 .lss 7 9]),(.cond 10 .skip (.exit 0))]),(.block 1 (ag [(.ae [ab 13 0,ab 14 4,aZ 15 13 14 aM,a9 16 15 4,aC 5 (.new 134 (bG aM)),aV 5 16 4]),(.ae [aC 17 (.bW 3 [TI] []),ab 18 0,ab 19 4,aZ 20 18 19 aM,ak 21 20 3,an 22 21 1,aC 23 (.app 17 22 3 [TI]),ak 24 5 3,aV 24 23 1]),(.ae [ab 25 3,a9 26 5 4,aC 27 (.bW 134 aM [26]),aC 28 (.app 25 27 134 aM),ab 3 28])])),(.ae [ab 11 4,aw 12 .add 11 (ar 1),ab 4 12])])
def WA:List (Nat × Md):=[(0,.one .d),(3,.one .f),(4,.one .d)]
def WB:af :=
 (ag [(.ae [ab 29 3,ab 2 29]),.ret])
def QJI:af :=
 (ag [(.ae [ab 2 (.k (.n aM))]),(.ae [aC 6 (.bW 134 aM []),ab 3 6]),(ag [(.ae [ab 4 (ar 0)]),(.block 0 (.loop WA Wz))]),WB])
def WC:List (bn × Md):=[(.t 2,.one .d)]
def WD:Qb:=TQ 0 0 WC K
def QQD:Qb:=a0 (aN Kv 0 WB (WD K)) (WD K)
def QQP:Qb:=a7 0 (QQD K)
def Kw(l:List aH)(i:Int)(out:List aH):Prop:=Loop Kv 0 WA Wz (QQP K) ⟨[(0,(bf aM l)),(3,(.r aM 0 0 out.length)),(4,(aL i))],[(0,(.sl 134 aM .ow out))],1⟩
theorem WE(l:List aH)(i:Int)(out:List aH) (h :
 (aI (decide (i<(l.length:Int))) ((0<=i/\Int.toNat i<l.length)/\(((0<=i/\Int.toNat i<l.length)/\((0=0\/0+((aq b5 l (Int.toNat i)).2.2.2).length<=0)/\0+((aq b5 l (Int.toNat i)).2.2.2).length<=ca))/\(((out.length=out.length\/out.length+1<=out.length)/\out.length+1<=ca)/\(Kw K l (aG (i+1)) (List.take (out.length+1) ((List.take out.length out)++([((aq b5 l (Int.toNat i)).1,(aq b5 l (Int.toNat i)).2.1,(aq b5 l (Int.toNat i)).2.2.1,(List.take (0+((aq b5 l (Int.toNat i)).2.2.2).length) (List.drop 0 ((aq b5 l (Int.toNat i)).2.2.2))))]))))))) (K (xT (List.take out.length (List.drop 0 out)))))):Kw K l i out :=
 Loop.of h
theorem QEZ(l:List aH)(hp:Qt (α:=List aH) l):aK Tryz.prog 155 [(.c (.sl aM) l)] (xT (id (α:=List aH) l)):=by
 refine bz Kv QJI WC 0 0 30 Ku kn (λK =>
 (Kw K l 0 ([]:List aH))) (λhb=>?_)
 refine YC (Q:=λz=>xT z=xT (id (α:=List aH) l)) hp (λk x v hk hl hg hv hx ih=>?_) (λhq=>?_) (au rfl)
 ·refine WE _ _ _ _ ⟨λ_=>?_,λh=>by simp at h;omega⟩
  try simp only[QP,QL,Q0]at hx
  rw[Int.toNat_natCast,hg,dP (by omega),Q8,tJ];exact⟨⟨by omega,hk⟩,⟨⟨by omega,hk⟩,.inl rfl,by have:=ZH x.2.2.2;rw[Zg];omega⟩,room (by omega),ih⟩
 ·refine WE _ _ _ _ ⟨λh=>by simp at h,λ_=>?_⟩;exact au (by simp)
theorem QGK:Qf Tryz.prog Ku:=Qh λx h=>QEZ x.1 h
def xU(t:(List (List Int))):aB:=f5 (bf [(.sl [TI])] t)
def Kx:aJ:=Qg 156 [(.c (.sl [(.sl [TI])]))] λx=>(some (Qt (α:=List (List Int)) x.1),xU (id (α:=List (List Int)) x.1))
def Ky:aF:=⟨[],false⟩
def WG:af :=
 (ag [(ag [(.ae [ab 6 4,ab 7 0,ba 8 7,aw 9 .lss 6 8]),(.cond 9 .skip (.exit 0))]),(.block 1 (.ae [ab 12 3,aC 13 (.bW 3 [TI] []),ab 14 0,ab 15 4,aZ 16 14 15 [(.sl [TI])],ak 17 16 0,an 18 17 1,aC 19 (.app 13 18 3 [TI]),aC 20 (.build [(.n [TI])] [(0,1,19)]),aC 21 (.bW 106 [(.sl [TI])] [20]),aC 22 (.app 12 21 106 [(.sl [TI])]),ab 3 22])),(.ae [ab 10 4,aw 11 .add 10 (ar 1),ab 4 11])])
def WH:List (Nat × Md):=[(0,.one .d),(3,.one .f),(4,.one .d)]
def WI:af :=
 (ag [(.ae [ab 23 3,ab 2 23]),.ret])
def QTu:af :=
 (ag [(.ae [ab 2 (.k (.n [(.sl [TI])]))]),(.ae [aC 5 (.bW 106 [(.sl [TI])] []),ab 3 5]),(ag [(.ae [ab 4 (ar 0)]),(.block 0 (.loop WH WG))]),WI])
def WJ:List (bn × Md):=[(.t 2,.one .d)]
def WK:Qb:=TQ 0 0 WJ K
def QOe:Qb:=a0 (aN Ky 0 WI (WK K)) (WK K)
def QMQ:Qb:=a7 0 (QOe K)
def Kz(l:List (List Int))(i:Int)(out:List (List Int)):Prop:=Loop Ky 0 WH WG (QMQ K) ⟨[(0,(bf [(.sl [TI])] l)),(3,(.r [(.sl [TI])] 0 0 out.length)),(4,(aL i))],[(0,(.sl 106 [(.sl [TI])] .ow out))],1⟩
theorem WL(l:List (List Int))(i:Int)(out:List (List Int)) (h :
 (aI (decide (i<(l.length:Int))) (((0<=i/\Int.toNat i<l.length)/\(((0=0\/0+(aq ([]:List Int) l (Int.toNat i)).length<=0)/\0+(aq ([]:List Int) l (Int.toNat i)).length<=ca)/\((out.length=out.length\/out.length+1<=out.length)/\out.length+1<=ca)))/\(Kz K l (aG (i+1)) (List.take (out.length+1) ((List.take out.length out)++([(List.take (0+(aq ([]:List Int) l (Int.toNat i)).length) (List.drop 0 (aq ([]:List Int) l (Int.toNat i))))]))))) (K (xU (List.take out.length (List.drop 0 out)))))):Kz K l i out :=
 Loop.of h
theorem QNf(l:List (List Int))(hp:Qt (α:=List (List Int)) l):aK Tryz.prog 156 [(.c (.sl [(.sl [TI])]) l)] (xU (id (α:=List (List Int)) l)):=by
 refine bz Ky QTu WJ 0 0 24 Kx kn (λK =>
 (Kz K l 0 ([]:List (List Int)))) (λhb=>?_)
 refine YC (Q:=λz=>xU z=xU (id (α:=List (List Int)) l)) hp (λk x v hk hl hg hv hx ih=>?_) (λhq=>?_) (au rfl)
 ·refine WL _ _ _ _ ⟨λ_=>?_,λh=>by simp at h;omega⟩
  try simp only[QP,QL,Q0]at hx
  rw[Int.toNat_natCast,hg,dP (by omega),Q8,tJ];exact⟨⟨⟨by omega,hk⟩,⟨.inl rfl,by have:=ZH x;rw[Zg];omega⟩,room (by omega)⟩,ih⟩
 ·refine WL _ _ _ _ ⟨λh=>by simp at h,λ_=>?_⟩;exact au (by simp)
theorem QJ5:Qf Tryz.prog Kx:=Qh λx h=>QNf x.1 h
def A6(t:(List Int) × Bool):aB:=f5 (.tp [(bf [TI] t.1),(bE t.2)])
def KA:aJ:=Qg 194 [(.c (.sl [TI])),(.c (.sl [TI]))] λx=>(some (Zp (α:=List Int) (β:=List Int) x.1 x.2.1),A6 (nE x.1 x.2.1))
def KB:aF:=⟨[sb],false⟩
def WM:af :=
 (ag [(ag [(.ae [ab 12 8,ab 13 0,ba 14 13,aw 15 .lss 12 14,ab 16 15,.bw 16 true [ab 17 8,ab 18 1,ba 19 18,aw 20 .lss 17 19] 21 20]),(.cond 21 .skip (.exit 0))]),(.block 1 (ag [(.draw [ab 25 0,ab 26 8,aZ 27 25 26 [TI],an 28 27 1,ab 29 1,ab 30 8,aZ 31 29 30 [TI],an 32 31 1,aD 33 99 [28,32],ab 24 33,bF 34 24 0,bF 35 24 1,ab 9 34,ab 10 35] []),(.ae [ab 36 6,ab 37 9,aC 38 (.bW 3 [TI] [37]),aC 39 (.app 36 38 3 [TI]),ab 6 39]),(.ae [ab 40 7,ab 41 40,.bw 41 false [ab 42 10] 43 42,ab 7 43])])),(.ae [ab 22 8,aw 23 .add 22 (ar 1),ab 8 23])])
def WN:List (Nat × Md):=[(0,.one .d),(1,.one .d),(6,.one .f),(7,.one .d),(8,.one .d)]
def WO:af :=
 (ag [(.ae [ab 44 6,ab 45 7,ab 4 44,ab 5 45]),.ret])
def QFY:af :=
 (ag [(.ae [ab 4 (.k (.n [TI])),ab 5 (a6 false)]),(.ae [aC 11 (.bW 3 [TI] []),ab 6 11]),(.ae [ab 7 (a6 false)]),(ag [(.ae [ab 8 (ar 0)]),(.block 0 (.loop WN WM))]),WO])
def WQ:List (bn × Md):=[(.t 4,.one .d),(.t 5,.one .d)]
def WR:Qb:=TQ 0 0 WQ K
def QHM:Qb:=a0 (aN KB 0 WO (WR K)) (WR K)
def QTJ:Qb:=a7 0 (QHM K)
def A7(a:List Int)(b:List Int)(sat:Bool)(i:Int)(out:List Int):Prop:=Loop KB 0 WN WM (QTJ K) ⟨[(0,(bf [TI] a)),(1,(bf [TI] b)),(6,(.r [TI] 0 0 out.length)),(7,(bE sat)),(8,(aL i))],[(0,(.sl 3 [TI] .ow out))],1⟩
theorem KC(a:List Int)(b:List Int)(sat:Bool)(i:Int)(out:List Int) (h :
 (aI ((decide (i<(a.length:Int)))&&(decide (i<(b.length:Int)))) (((0<=i/\Int.toNat i<a.length)/\(0<=i/\Int.toNat i<b.length))/\(((out.length=out.length\/out.length+1<=out.length)/\out.length+1<=ca)/\(A7 K a b (sat||((Q4 (aq (0:Int) a (Int.toNat i)) (aq (0:Int) b (Int.toNat i))).2)) (aG (i+1)) (List.take (out.length+1) ((List.take out.length out)++([(Q4 (aq (0:Int) a (Int.toNat i)) (aq (0:Int) b (Int.toNat i))).1])))))) (K (A6 ((List.take out.length (List.drop 0 out)),sat))))):A7 K a b sat i out :=
 Loop.of h
theorem QFh(a:List Int)(b:List Int)(hp:Zp (α:=List Int) (β:=List Int) a b):aK Tryz.prog 194 [(.c (.sl [TI]) a),(.c (.sl [TI]) b)] (A6 (nE a b)):=by
 refine bz KB QFY WQ 0 0 46 KA (kc xM kn) (λK =>
 (A7 K a b false 0 ([]:List Int))) (λhb=>?_)
 unfold Zp at hp;have ha:=ZH a;have fw:=ZH b;refine Zf a (λr k=>∀(v:List Int)(s:Bool),v.length=k->(v++(vz Q4 r (b.drop k)).1,s||(vz Q4 r (b.drop k)).2)=(nE a b)->A7 (λr'=>r'=A6 (nE a b)) a b s k v) ?_ ?_ [] false rfl (by unfold nE;simp)
 ·intro v s hv he;refine KC _ _ _ _ _ _ ⟨λh=>by simp at h,λ_=>au ?_⟩;rw[<- he];simp[vz]
 ·intro k x r hk aW hg ih v s hv he;by_cases iP:k<b.length
  ·obtain⟨y,q,hq⟩:=Ys (l:=b) (k:=k) iP;refine KC _ _ _ _ _ _ ⟨λ_=>?_,λh=>by simp at h;omega⟩;rw[Int.toNat_natCast,hg,ZJ hq,dP (by omega),Q8];refine⟨⟨⟨by omega,aW⟩,by omega,iP⟩,room (by omega),ih _ _ (Ye hv) ?_⟩;rw[<- he,hq,vz,Zz hq];simp[Bool.or_assoc]
  ·refine KC _ _ _ _ _ _ ⟨λh=>by simp at h;omega,λ_=>au ?_⟩;rw[<- he,drop_nil (l:=b) (by omega)];simp[vz]
theorem QGf:Qf Tryz.prog KA:=Qh λx h=>QFh x.1 x.2.1 h
def xV(t:QN):aB:=⟨(.a [(.r [(.sl [TI])] 0 0 ((t.1).length)),(aL t.2.1),(bE t.2.2)]),[(.sl 106 [(.sl [TI])] (.dp 0 true []) t.1)],[],false,[]⟩
def KD:aJ:=Qg 113 [(.a Zj),(.a Zj)] λx=>(some (Zp (α:=QN) (β:=QN) x.1 x.2.1),xV (ZZ x.1 x.2.1))
def sd:aF:=⟨[t9],true⟩
def WS:af :=
 (ag [(ag [(.ae [ab 35 8,ak 36 2 0,an 37 36 1,ab 38 6,aZ 39 37 38 [(.sl [TI])],ak 40 39 0,an 41 40 1,ba 42 41,aw 43 .lss 35 42,ab 44 43,.bw 44 true [ab 45 8,ak 46 3 0,an 47 46 1,ab 48 6,aZ 49 47 48 [(.sl [TI])],ak 50 49 0,an 51 50 1,ba 52 51,aw 53 .lss 45 52] 54 53]),(.cond 54 .skip (.exit 2))]),(.block 3 (ag [(.draw [ak 58 2 0,an 59 58 1,ab 60 6,aZ 61 59 60 [(.sl [TI])],ak 62 61 0,an 63 62 1,ab 64 8,aZ 65 63 64 [TI],an 66 65 1,ak 67 3 0,an 68 67 1,ab 69 6,aZ 70 68 69 [(.sl [TI])],ak 71 70 0,an 72 71 1,ab 73 8,aZ 74 72 73 [TI],an 75 74 1,aD 76 106 [66,75],ab 57 76,bF 77 57 0,bF 78 57 1,ab 9 77,ab 10 78] []),(.ae [ak 79 7 0,an 80 79 1,ab 81 9,aC 82 (.bW 3 [TI] [81]),aC 83 (.app 80 82 3 [TI]),ak 84 7 0,aV 84 83 1]),(.ae [ak 85 5 2,an 86 85 1,ab 87 86,.bw 87 false [ab 88 10] 89 88,ak 90 5 2,aV 90 89 1])])),(.ae [ab 55 8,aw 56 .add 55 (ar 1),ab 8 56])])
def WT:List (Nat × Md):=[(2,.b [.d,.d,.d]),(3,.b [.d,.d,.d]),(4,.b [.f,.d,.d]),(5,.b [.f,.d,.d]),(6,.one .d),(7,.b [.p 3]),(8,.one .d)]
def WU:af :=
 (.ae [ak 91 5 0,an 92 91 1,a9 93 7 1,aC 94 (.bW 106 [(.sl [TI])] [93]),aC 95 (.app 92 94 106 [(.sl [TI])]),ak 96 5 0,aV 96 95 1])
def WV:af :=
 (.ae [ab 32 6,aw 33 .add 32 (ar 1),ab 6 33])
def KE:af :=
 (ag [(ag [(.ae [ab 20 6,ak 21 2 0,an 22 21 1,ba 23 22,aw 24 .lss 20 23,ab 25 24,.bw 25 true [ab 26 6,ak 27 3 0,an 28 27 1,ba 29 28,aw 30 .lss 26 29] 31 30]),(.cond 31 .skip (.exit 0))]),(.block 1 (ag [(.ae [aC 34 (.build [(.n [TI])] []),aC 7 (.new 106 [(.n [TI])]),aV 7 34 1]),(ag [(.ae [ab 8 (ar 0)]),(.block 2 (.loop WT WS))]),WU])),WV])
def A8:List (Nat × Md):=[(2,.b [.d,.d,.d]),(3,.b [.d,.d,.d]),(4,.b [.f,.d,.d]),(5,.b [.p 106,.d,.d]),(6,.one .d)]
def WW:af :=
 (ag [(.ae [ak 98 2 1,an 99 98 1,ak 100 3 1,an 101 100 1,aD 102 106 [99,101],ab 97 102,bF 103 97 0,bF 104 97 1,ab 11 103,ab 12 104]),(.ae [ab 105 11,ak 106 5 1,aV 106 105 1]),(.ae [ak 107 5 2,an 108 107 1,ab 109 108,.bw 109 false [ab 110 12] 111 110,ak 112 5 2,aV 112 111 1]),(.ae [a9 113 5 3,aV 4 113 3]),.ret])
def QRU:af :=
 (ag [(.ae [aC 2 (.box 37 0 3),aC 3 (.box 37 1 3),aC 4 (.new 37 (bG Zj))]),(.ae [ak 13 2 2,an 14 13 1,ab 15 14,.bw 15 false [ak 16 3 2,an 17 16 1] 18 17,aC 19 (.build (bG Zj) [(2,1,18)]),aC 5 (.new 37 (bG Zj)),aV 5 19 3]),(ag [(.ae [ab 6 (ar 0)]),(.block 0 (.loop A8 KE))]),WW])
def WX:List (bn × Md):=[(.l 4 3 true,.b [.p 106,.d,.d])]
def WY:Qb:=TQ 0 0 WX K
def QEO:Qb:=a0 (aN sd 0 WW (WY K)) (WY K)
def KF:Qb:=a7 0 (QEO K)
def WZ:Qb:=a0 (λs'=>Loop sd 0 A8 KE (KF K) (gc 0 A8 s')) (KF K)
def QJT:Qb:=a0 (aN sd 0 WV (WZ K)) (WZ K)
def W0:Qb:=a7 1 (QJT K)
def QHL:Qb:=a0 (aN sd 0 WU (W0 K)) (W0 K)
def QO3:Qb:=a7 2 (QHL K)
def A9(a:QN)(b:QN)(k:Int)(g2:Bool)(fK:List Int)(i:Int)(ka:List (List Int)):Prop:=Loop sd 0 WT WS (QO3 K) ⟨[(2,(.p 0 0 0)),(3,(.p 1 0 0)),(4,(.p 2 0 0)),(5,(.p 4 0 0)),(6,(aL i)),(7,(.p 6 0 0)),(8,(aL k))],[(0,(.box (aT.cells Zj a))),(1,(.box (aT.cells Zj b))),(2,(.box [(.n [(.sl [TI])]),(aL 0),(bE false)])),(3,(.sl 106 [(.sl [TI])] (.dp 0 true []) ka)),(4,(.box [(.r [(.sl [TI])] 3 0 ka.length),(aL 0),(bE g2)])),(5,(.sl 3 [TI] (.dp 0 true []) fK)),(6,(.box [(.r [TI] 5 0 fK.length)]))],7⟩
def Ba(a:QN)(b:QN)(i:Int)(g0:List (List Int))(xW:Bool):Prop:=Loop sd 0 A8 KE (KF K) ⟨[(2,(.p 0 0 0)),(3,(.p 1 0 0)),(4,(.p 2 0 0)),(5,(.p 4 0 0)),(6,(aL i))],[(0,(.box (aT.cells Zj a))),(1,(.box (aT.cells Zj b))),(2,(.box [(.n [(.sl [TI])]),(aL 0),(bE false)])),(3,(.sl 106 [(.sl [TI])] (.dp 0 true []) g0)),(4,(.box [(.r [(.sl [TI])] 3 0 g0.length),(aL 0),(bE xW)]))],5⟩
theorem W1(a:QN)(b:QN)(k:Int)(g2:Bool)(fK:List Int)(i:Int)(ka:List (List Int)) (h :
 (((0<=i/\Int.toNat i<(a.1).length)/\((decide (k<((aq ([]:List Int) a.1 (Int.toNat i)).length:Int)))=true->(0<=i/\Int.toNat i<(b.1).length)))/\(aI ((decide (k<((aq ([]:List Int) a.1 (Int.toNat i)).length:Int)))&&(decide (k<((aq ([]:List Int) b.1 (Int.toNat i)).length:Int)))) (((0<=i/\Int.toNat i<(a.1).length)/\((0<=k/\Int.toNat k<(aq ([]:List Int) a.1 (Int.toNat i)).length)/\((0<=i/\Int.toNat i<(b.1).length)/\(0<=k/\Int.toNat k<(aq ([]:List Int) b.1 (Int.toNat i)).length))))/\(((fK.length=fK.length\/fK.length+1<=fK.length)/\fK.length+1<=ca)/\(A9 K a b (aG (k+1)) (g2||((Q4 (aq (0:Int) (aq ([]:List Int) a.1 (Int.toNat i)) (Int.toNat k)) (aq (0:Int) (aq ([]:List Int) b.1 (Int.toNat i)) (Int.toNat k))).2)) (List.take (fK.length+1) ((List.take fK.length fK)++([(Q4 (aq (0:Int) (aq ([]:List Int) a.1 (Int.toNat i)) (Int.toNat k)) (aq (0:Int) (aq ([]:List Int) b.1 (Int.toNat i)) (Int.toNat k))).1]))) i (List.take ka.length ka)))) (((ka.length=ka.length\/ka.length+1<=ka.length)/\ka.length+1<=ca)/\(Ba K a b (aG (i+1)) (List.take (ka.length+1) ((List.take ka.length ka)++([(List.take fK.length (List.drop 0 fK))]))) g2))))):A9 K a b k g2 fK i ka :=
 Loop.of h
theorem KG(a:QN)(b:QN)(i:Int)(g0:List (List Int))(xW:Bool) (h :
 (aI ((decide (i<((a.1).length:Int)))&&(decide (i<((b.1).length:Int)))) (A9 K a b 0 xW ([]:List Int) i (List.take g0.length g0)) (K (xV ((List.take g0.length g0),(Q4 a.2.1 b.2.1).1,(xW||((Q4 a.2.1 b.2.1).2))))))):Ba K a b i g0 xW :=
 Loop.of h
theorem QPF(a:QN)(b:QN)(hp:Zp (α:=QN) (β:=QN) a b):aK Tryz.prog 113 [(.a (aT.cells Zj a)),(.a (aT.cells Zj b))] (xV (ZZ a b)):=by
 refine bz sd QRU WX 0 0 114 KD (kc A5 kn) (λK =>
 (Ba K a b 0 ([]:List (List Int)) (a.2.2||b.2.2))) (λhb=>?_)
 unfold Zp at hp;simp only[QP,QL,Q0]at hp;have ha:=Ym a.1;refine Zf a.1 (λr k=>∀(v:List (List Int))(z:Bool),v.length=k->v++(ZE r (b.1.drop k)).1=(ZE a.1 b.1).1->(z||(ZE r (b.1.drop k)).2)=(a.2.2||b.2.2||(ZE a.1 b.1).2)->Ba (λr'=>r'=xV (ZZ a b)) a b k v z) ?_ ?_ [] _ rfl (by simp) (by simp)
 ·intro v z hv he hz;refine KG _ _ _ _ _ _ ⟨λh=>by simp at h,λ_=>au ?_⟩;unfold ZZ;rw[<- he,<- hz];simp[ZE]
 ·intro k x r hk aW hg ih v z hv he hz;by_cases iP:k<b.1.length
  ·obtain⟨y,q,hq⟩:=Ys (l:=b.1) (k:=k) iP;have hx:=xd hk;have SS:=ZH x;refine KG _ _ _ _ _ _ ⟨λ_=>?_,λh=>by simp at h;omega⟩;rw[List.take_length];refine Zf x (λr2 j=>∀(w:List Int)(z2:Bool),w.length=j->w++(vz Q4 r2 (y.drop j)).1=(vz Q4 x y).1->(z2||(vz Q4 r2 (y.drop j)).2)=(z||(vz Q4 x y).2)->A9 (λr'=>r'=xV (ZZ a b)) a b j z2 w k v) ?_ ?_ [] z rfl (by simp) (by simp)
   ·intro w z2 hw eH ji;refine W1 _ _ _ _ _ _ _ _ ?_;rw[Int.toNat_natCast,hg,ZJ hq];refine⟨⟨⟨by omega,aW⟩,λh=>by simp at h⟩,λh=>by simp at h,λ_=>⟨room (by omega),?_⟩⟩;rw[Av,dP (by omega),Q8];simp only[vz,List.append_nil,Bool.or_false]at eH ji;refine ih _ _ (Ye hv) ?_ ?_
    ·rw[<- he,hq,ZE,Zz hq,eH];simp
    ·rw[<- hz,hq,ZE,Zz hq,ji];simp[Bool.or_assoc]
   ·intro j e r2 hj lM ij l6 w z2 hw eH ji;refine W1 _ _ _ _ _ _ _ _ ?_;rw[Int.toNat_natCast,Int.toNat_natCast,hg,ZJ hq];by_cases W2:j<y.length
    ·obtain⟨f,q2,gh⟩:=Ys (l:=y) (k:=j) W2;refine⟨⟨⟨by omega,aW⟩,λ_=>⟨by omega,iP⟩⟩,λ_=>?_,λh=>by simp at h;omega⟩;rw[ij,ZJ gh,dP (by omega),Q8,List.take_length];refine⟨⟨⟨by omega,aW⟩,⟨by omega,lM⟩,⟨by omega,iP⟩,by omega,W2⟩,room (by omega),l6 _ _ (Ye hw) ?_ ?_⟩
     ·rw[<- eH,gh,vz,Zz gh];simp
     ·rw[<- ji,gh,vz,Zz gh];simp[Bool.or_assoc]
    ·refine⟨⟨⟨by omega,aW⟩,λ_=>⟨by omega,iP⟩⟩,λh=>by simp at h;omega,λ_=>⟨room (by omega),?_⟩⟩;rw[Av,dP (by omega),Q8];rw[drop_nil (l:=y) (by omega)]at eH ji;simp only[vz,List.append_nil,Bool.or_false]at eH ji;refine ih _ _ (Ye hv) ?_ ?_
     ·rw[<- he,hq,ZE,Zz hq,eH];simp
     ·rw[<- hz,hq,ZE,Zz hq,ji];simp[Bool.or_assoc]
  ·refine KG _ _ _ _ _ _ ⟨λh=>by simp at h;omega,λ_=>au ?_⟩;unfold ZZ;rw[<- he,<- hz,drop_nil (l:=b.1) (by omega)];simp[ZE]
theorem QQK:Qf Tryz.prog KD:=Qh λx h=>QPF x.1 x.2.1 h
def Bb(t:QN):aB:=f5 (.a (aT.cells Zj t))
def KH:aJ:=Qg 109 [(.a Zj),(.a Zj)] λx=>(some (Zp (α:=QN) (β:=QN) x.1 x.2.1),Bb (ZZ x.1 x.2.1))
def KI:aF:=⟨[KA,sb],false⟩
def W3:af :=
 (ag [(ag [(.ae [ab 18 6,ak 19 2 0,an 20 19 1,ba 21 20,aw 22 .lss 18 21,ab 23 22,.bw 23 true [ab 24 6,ak 25 3 0,an 26 25 1,ba 27 26,aw 28 .lss 24 27] 29 28]),(.cond 29 .skip (.exit 0))]),(.block 1 (ag [(.draw [ak 33 2 0,an 34 33 1,ab 35 6,aZ 36 34 35 [(.sl [TI])],ak 37 36 0,an 38 37 1,ak 39 3 0,an 40 39 1,ab 41 6,aZ 42 40 41 [(.sl [TI])],ak 43 42 0,an 44 43 1,aD 45 194 [38,44],ab 32 45,bF 46 32 0,bF 47 32 1,ab 7 46,ab 8 47] []),(.ae [ak 48 5 0,an 49 48 1,ab 50 7,aC 51 (.build [(.n [TI])] [(0,1,50)]),aC 52 (.bW 106 [(.sl [TI])] [51]),aC 53 (.app 49 52 106 [(.sl [TI])]),ak 54 5 0,aV 54 53 1]),(.ae [ak 55 5 2,an 56 55 1,ab 57 56,.bw 57 false [ab 58 8] 59 58,ak 60 5 2,aV 60 59 1])])),(.ae [ab 30 6,aw 31 .add 30 (ar 1),ab 6 31])])
def W4:List (Nat × Md):=[(2,.b [.d,.d,.d]),(3,.b [.d,.d,.d]),(4,.b [.d,.d,.d]),(5,.b [.o 106,.d,.d]),(6,.one .d)]
def W5:af :=
 (ag [(.ae [ak 62 2 1,an 63 62 1,ak 64 3 1,an 65 64 1,aD 66 99 [63,65],ab 61 66,bF 67 61 0,bF 68 61 1,ab 9 67,ab 10 68]),(.ae [ab 69 9,ak 70 5 1,aV 70 69 1]),(.ae [ak 71 5 2,an 72 71 1,ab 73 72,.bw 73 false [ab 74 10] 75 74,ak 76 5 2,aV 76 75 1]),(.ae [a9 77 5 3,aV 4 77 3]),.ret])
def QP1:af :=
 (ag [(.ae [aC 2 (.box 37 0 3),aC 3 (.box 37 1 3),aC 4 (.new 37 (bG Zj))]),(.ae [ak 11 2 2,an 12 11 1,ab 13 12,.bw 13 false [ak 14 3 2,an 15 14 1] 16 15,aC 17 (.build (bG Zj) [(2,1,16)]),aC 5 (.new 37 (bG Zj)),aV 5 17 3]),(ag [(.ae [ab 6 (ar 0)]),(.block 0 (.loop W4 W3))]),W5])
def W6:List (bn × Md):=[(.l 4 3 true,.b [.d,.d,.d])]
def W7:Qb:=TQ 0 0 W6 K
def QPi:Qb:=a0 (aN KI 0 W5 (W7 K)) (W7 K)
def QOU:Qb:=a7 0 (QPi K)
def Bc(a:QN)(b:QN)(i:Int)(g0:List (List Int))(g2:Bool):Prop:=Loop KI 0 W4 W3 (QOU K) ⟨[(2,(.p 0 0 0)),(3,(.p 1 0 0)),(4,(.p 2 0 0)),(5,(.p 4 0 0)),(6,(aL i))],[(0,(.box (aT.cells Zj a))),(1,(.box (aT.cells Zj b))),(2,(.box (aT.cells Zj ([],(0:Int),false)))),(3,(.sl 106 [(.sl [TI])] .ow g0)),(4,(.box [(.r [(.sl [TI])] 3 0 g0.length),(aL 0),(bE g2)]))],5⟩
theorem KJ(a:QN)(b:QN)(i:Int)(g0:List (List Int))(g2:Bool) (h :
 (aI ((decide (i<((a.1).length:Int)))&&(decide (i<((b.1).length:Int)))) (((0<=i/\Int.toNat i<(a.1).length)/\((0<=i/\Int.toNat i<(b.1).length)/\(Zp (α:=List Int) (β:=List Int) (aq ([]:List Int) a.1 (Int.toNat i)) (aq ([]:List Int) b.1 (Int.toNat i)))))/\(((g0.length=g0.length\/g0.length+1<=g0.length)/\g0.length+1<=ca)/\(Bc K a b (aG (i+1)) (List.take (g0.length+1) ((List.take g0.length g0)++([(nE (aq ([]:List Int) a.1 (Int.toNat i)) (aq ([]:List Int) b.1 (Int.toNat i))).1]))) (g2||((nE (aq ([]:List Int) a.1 (Int.toNat i)) (aq ([]:List Int) b.1 (Int.toNat i))).2))))) (K (Bb ((List.take g0.length (List.drop 0 g0)),(Q4 a.2.1 b.2.1).1,(g2||((Q4 a.2.1 b.2.1).2))))))):Bc K a b i g0 g2 :=
 Loop.of h
theorem QK3(a:QN)(b:QN)(hp:Zp (α:=QN) (β:=QN) a b):aK Tryz.prog 109 [(.a (aT.cells Zj a)),(.a (aT.cells Zj b))] (Bb (ZZ a b)):=by
 refine bz KI QP1 W6 0 0 78 KH (kc QGf (kc xM kn)) (λK =>
 (Bc K a b 0 ([]:List (List Int)) (a.2.2||b.2.2))) (λhb=>?_)
 unfold Zp at hp;simp only[QP,QL,Q0]at hp;have ha:=Ym a.1;refine Zf a.1 (λr k=>∀(v:List (List Int))(z:Bool),v.length=k->v++(ZE r (b.1.drop k)).1=(ZE a.1 b.1).1->(z||(ZE r (b.1.drop k)).2)=(a.2.2||b.2.2||(ZE a.1 b.1).2)->Bc (λr'=>r'=Bb (ZZ a b)) a b k v z) ?_ ?_ [] _ rfl (by simp) (by simp)
 ·intro v z hv he hz;refine KJ _ _ _ _ _ _ ⟨λh=>by simp at h,λ_=>au ?_⟩;unfold ZZ;rw[<- he,<- hz];simp[ZE]
 ·intro k x r hk aW hg ih v z hv he hz;by_cases iP:k<b.1.length
  ·obtain⟨y,q,hq⟩:=Ys (l:=b.1) (k:=k) iP;have hx:=xd hk;have hy:=xd hq;refine KJ _ _ _ _ _ _ ⟨λ_=>?_,λh=>by simp at h;omega⟩;rw[Int.toNat_natCast,hg,ZJ hq,dP (by omega),Q8];refine⟨⟨⟨by omega,aW⟩,⟨by omega,iP⟩,by unfold Zp;omega⟩,room (by omega),ih _ _ (Ye hv) ?_ ?_⟩
   ·rw[<- he,hq,ZE,Zz hq];simp[nE]
   ·rw[<- hz,hq,ZE,Zz hq];simp[nE,Bool.or_assoc]
  ·refine KJ _ _ _ _ _ _ ⟨λh=>by simp at h;omega,λ_=>au ?_⟩;unfold ZZ;rw[<- he,<- hz,drop_nil (l:=b.1) (by omega)];simp[ZE]
theorem QIJ:Qf Tryz.prog KH:=Qh λx h=>QK3 x.1 x.2.1 h
def KK(t:(List aH)):aB:=f5 (.a [(bf aM t)])
def ua:aJ:=Qg 74 [(.a Qe)] λx=>(none,KK (Zn x.1))
def QGQ:aF:=⟨[],false⟩
def QVi:af :=
 (ag [(.ae [aC 1 (.box 39 0 14),aC 2 (.new 77 [(.n aM)])]),(.ae [ak 3 1 2,an 4 3 1,aC 5 (.build [(.n aM)] [(0,1,4)]),aV 2 5 1]),.ret])
def QTb:List (bn × Md):=[(.l 2 1 true,.b [.d])]
theorem QV6(s:Qc):aK Tryz.prog 74 [(.a (aT.cells Qe s))] (KK (Zn s)):=by
 refine bz QGQ QVi QTb 0 0 6 ua kn (λK =>
 K (KK s.2.2.1)) (λhb=>?_)
 exact au rfl
theorem Bd:Qf Tryz.prog ua:=Qh λx _=>QV6 x.1
def ub(t:Bool):aB:=b6 (bE t)
def KL:aJ:=Qg 168 [(.a [(.sl aM)]),(.c (.sl [(.sl [TI])]))] λx=>(none,ub (YR x.1 x.2.1))
def KM:aF:=⟨[],false⟩
def W8:af :=
 (ag [(.ae [aw 17 .lss 16 15]),(.cond 17 .skip (.exit 0)),(.block 1 (ag [(.ae [ab 18 16,aZ 19 14 16 aM,a9 20 19 4,aC 6 (.new 134 (bG aM)),ab 5 18,aV 6 20 4]),(.draw [ab 21 1,ab 22 5,aZ 23 21 22 [(.sl [TI])],ak 24 23 0,an 25 24 1,ba 26 25,ak 27 6 3,an 28 27 1,ba 29 28,aw 30 .neq 26 29] []),(.cond 30 (ag [(.ae [ab 4 (a6 false)]),.ret]) .skip)])),(.ae [aw 31 .add 16 (ar 1),ab 16 31])])
def W9:List (Nat × Md):=eV [1,14,15,16]
def Xa:af :=
 (ag [(.ae [ab 4 (a6 true)]),.ret])
def QMK:af :=
 (ag [(.ae [aC 2 (.box 77 0 1),ab 4 (a6 false)]),(ag [(.ae [ab 7 1,ba 8 7,ak 9 2 0,an 10 9 1,ba 11 10,aw 12 .neq 8 11]),(.cond 12 (ag [(.ae [ab 4 (a6 false)]),.ret]) .skip)]),(ag [(.ae [ak 13 2 0,an 14 13 1,ba 15 14,ab 16 (ar 0)]),(.block 0 (.loop W9 W8))]),Xa])
def Xb:List (bn × Md):=[(.t 4,.one .d)]
def Xc:Qb:=TQ 0 0 Xb K
def QEB:Qb:=a0 (aN KM 0 Xa (Xc K)) (Xc K)
def QXA:Qb:=a7 0 (QEB K)
def Be(m:List aH)(rows:List (List Int))(x:Int):Prop:=Loop KM 0 W9 W8 (QXA K) ⟨[(1,(bf [(.sl [TI])] rows)),(14,(bf aM m)),(15,(aL (m.length:Int))),(16,(aL x))],[],0⟩
theorem Xd(m:List aH)(rows:List (List Int))(x:Int) (h :
 (aI (decide (x<(m.length:Int))) ((0<=x/\Int.toNat x<m.length)/\((0<=x/\Int.toNat x<rows.length)/\(aI (((aq ([]:List Int) rows (Int.toNat x)).length:Int) != (((aq b5 m (Int.toNat x)).2.2.2).length:Int)) (K (ub false)) (Be K m rows (aG (x+1)))))) (K (ub true)))):Be K m rows x :=
 Loop.of h
theorem QR0(m:List aH)(rows:List (List Int)):aK Tryz.prog 168 [(.a [(.c (.sl aM) m)]),(.c (.sl [(.sl [TI])]) rows)] (ub (YR m rows)):=by
 refine bz KM QMK Xb 0 0 32 KL kn (λK =>
 (aI ((rows.length:Int) != (m.length:Int)) (K (ub false)) (Be K m rows 0))) (λhb=>?_)
 have lZ:(m).length<=9223372036854775807:=hb.1.1.1;have nR:rows.length<=9223372036854775807:=hb.2.1.1;refine⟨λh=>au (by grind[YR]),λh=>?_⟩;have hl:rows.length=m.length:=by
  have:((rows.length:Int)==(m.length:Int))=true:=by simpa[bne]using h
  have:=of_decide_eq_true (by simpa using this:decide ((rows.length:Int)=m.length)=true);omega
 refine Zf m (λr k=>YV r (rows.drop k)=YV m rows->Be (λr'=>r'=ub (YR m rows)) m rows k) ?_ ?_ rfl
 ·intro he;refine Xd _ _ _ _ ⟨λh=>by simp at h,λ_=>au ?_⟩;grind[YR,YV]
 ·intro k x r hk aW hg ih he;obtain⟨y,q,hq⟩:∃ y q,rows.drop k=y::q:=by
   cases hq:rows.drop k with
   | nil=>have:=congrArg List.length hq;simp at this;omega
   | cons y q=>exact⟨y,q,rfl⟩
  refine Xd _ _ _ _ ⟨λ_=>?_,λh=>by simp at h;omega⟩;rw[Int.toNat_natCast,hg,ZJ hq,QF (x:=(k:Int)+1) (by omega) (by omega)];rw[hq,YV]at he;rw[Zz hq]at ih;refine⟨⟨by omega,aW⟩,⟨by omega,by omega⟩,λh=>au ?_,λh=>ih ?_⟩
  ·grind[YR]
  ·grind
theorem QW3:Qf Tryz.prog KL:=Qh λx _=>QR0 x.1 x.2.1
def uc(t:Bool):aB:=b6 (bE t)
def Bf:aJ:=Qg 110 [(.c (.sl aM)),(.c (.sl [(.sl [TI])])),(.c TI)] λx=>(some (xh x.1 x.2.1 x.2.2.1),uc (ZQ x.1 x.2.1 x.2.2.1))
def ud:aF:=⟨[Jr],false⟩
def Xe:af :=
 (ag [(.ae [ab 30 1,ab 31 7,aZ 32 30 31 [(.sl [TI])],ak 33 32 0,an 34 33 1,ab 35 8,aD 36 100 [34,35],bL 37 36]),(.cond 37 (ag [(.ae [ab 6 (a6 false)]),.ret]) .skip)])
def QQQ:List (Nat × Md):=eV [0,1,2,7,8]
def QRa:af:=.wk QQQ Xe
def Xf:af :=
 (.ae [ab 12 7,aw 13 .add 12 (ar 1),ab 7 13])
def KN:af :=
 (ag [(ag [(.ae [ab 9 7,ab 10 2,aw 11 .lss 9 10]),(.cond 11 .skip (.exit 0))]),(.block 1 (ag [(.ae [ab 14 0,ab 15 0,ba 16 15,aw 17 .sub 16 (ar 1),aZ 18 14 17 aM,ak 19 18 2,an 20 19 1,ab 8 20]),(ag [(.ae [ab 21 7,ab 22 0,ba 23 22,aw 24 .lss 21 23]),(.cond 24 (.ae [ab 25 0,ab 26 7,aZ 27 25 26 aM,ak 28 27 1,an 29 28 1,ab 8 29]) .skip)]),QRa])),Xf])
def Bg:List (Nat × Md):=eV [0,1,2,7]
def Xg:af :=
 (ag [(.ae [ab 6 (a6 true)]),.ret])
def QXm:af :=
 (ag [(.ae [ab 6 (a6 false)]),(ag [(.ae [ab 7 (ar 0)]),(.block 0 (.loop Bg KN))]),Xg])
def Xh:List (bn × Md):=[(.t 6,.one .d)]
def Xi:Qb:=TQ 0 0 Xh K
def QHd:Qb:=a0 (aN ud 0 Xg (Xi K)) (Xi K)
def KO:Qb:=a7 0 (QHd K)
def Xj:Qb:=a0 (λs'=>Loop ud 0 Bg KN (KO K) (gc 0 Bg s')) (KO K)
def QIf:Qb:=a0 (aN ud 0 Xf (Xj K)) (Xj K)
def QNy:Qb:=a7 1 (QIf K)
@[irreducible] def Bh(ops:List aH)(rows:List (List Int))(n:Int)(size:Int)(i:Int):Prop:=aN ud 0 Xe (QNy K) ⟨[(0,(bf aM ops)),(1,(bf [(.sl [TI])] rows)),(2,(aL n)),(7,(aL i)),(8,(aL size))],[],0⟩
def Bi(ops:List aH)(rows:List (List Int))(n:Int)(i:Int):Prop:=Loop ud 0 Bg KN (KO K) ⟨[(0,(bf aM ops)),(1,(bf [(.sl [TI])] rows)),(2,(aL n)),(7,(aL i))],[],0⟩
theorem QPP(ops:List aH)(rows:List (List Int))(n:Int)(size:Int)(i:Int) (h :
 ((0<=i/\Int.toNat i<rows.length)/\(aI (!(QH (aq ([]:List Int) rows (Int.toNat i)) size)) (K (uc false)) (Bi K ops rows n (aG (i+1)))))):dt (Bh K ops rows n size i) :=
 dt.of h
theorem Xk(ops:List aH)(rows:List (List Int))(n:Int)(i:Int) (h :
 (aI (decide (i<n)) ((0<=aG ((ops.length:Int)-1)/\Int.toNat (aG ((ops.length:Int)-1))<ops.length)/\(aI (decide (i<(ops.length:Int))) ((0<=i/\Int.toNat i<ops.length)/\(Bh K ops rows n ((aq b5 ops (Int.toNat i)).2.1) i)) (Bh K ops rows n ((aq b5 ops (Int.toNat (aG ((ops.length:Int)-1)))).2.2.1) i))) (K (uc true)))):Bi K ops rows n i :=
 Loop.of h
theorem QMm(ops:List aH)(rows:List (List Int))(n:Int)(hp:xh ops rows n):aK Tryz.prog 110 [(.c (.sl aM) ops),(.c (.sl [(.sl [TI])]) rows),(.c TI n)] (uc (ZQ ops rows n)):=by
 refine bz ud QXm Xh 0 0 38 Bf (kc JS kn) (λK =>
 (Bi K ops rows n 0)) (λhb=>?_)
 have se:ops.length<=9223372036854775807:=hb.1.1;have nR:rows.length<=9223372036854775807:=hb.2.1.1;have:=QHq rows 0 n (Int.le_refl 0) hp.2.1 hp.2.2 (λr k=>YG ops k r=(ZQ ops rows n)->Bi (λr'=>r'=uc (ZQ ops rows n)) ops rows n k) ?_ ?_ (by simp[ZQ,slice])
 ·exact this
 ·intro he;refine Xk _ _ _ _ _ ⟨λh=>by simp at h;omega,λ_=>au ?_⟩;simpa[YG]using he
 ·intro k x r h1 h2 aW hg ih he;have e:=rl hp.1 se;have key:Bh (λr'=>r'=uc (ZQ ops rows n)) ops rows n (YU ops k) k:=by
   refine(QPP _ _ _ _ _ _ ?_).h;rw[Int.toNat_natCast,hg,QF (x:=(k:Int)+1) (by omega) (by omega)];rw[YG]at he;refine⟨⟨by omega,aW⟩,λh=>au ?_,λh=>ih ?_⟩ <;> grind
  refine Xk _ _ _ _ _ ⟨λ_=>?_,λh=>by simp at h;omega⟩;rw[e.1,Int.toNat_natCast];refine⟨⟨e.2,by have:=hp.1;omega⟩,λh=>⟨⟨by omega,by simpa using h⟩,?_⟩,λh=>?_⟩
  ·rw[YU,if_pos (by simpa using h)]at key;exact key
  ·rw[YU,if_neg (by simpa using h)]at key;exact key
theorem Xl:Qf Tryz.prog Bf:=Qh λx h=>QMm x.1 x.2.1 x.2.2.1 h
def nS(t:Bool):aB:=b6 (bE t)
def ue:aJ:=Qg 72 [(.a Qe)] λx=>(none,nS (QU x.1))
def Bj:aF:=⟨[ua,t6,KL,Bf,xH,xI,IC],false⟩
def Xm:af :=
 (ag [(.ae [aw 45 .lss 44 43]),(.cond 45 .skip (.exit 0)),(.block 1 (ag [(.ae [aZ 46 42 44 QD,a9 47 46 2,aC 6 (.new 108 (bG QD)),aV 6 47 2]),(.ae [ak 48 6 1,an 49 48 1,ba 50 49,ab 51 4,aw 52 .neq 50 51,ab 53 52,.bw 53 false [ak 54 1 2,an 55 54 1,ak 56 6 1,an 57 56 1,ab 58 4,aD 59 110 [55,57,58],bL 60 59] 61 60]),(.cond 61 (ag [(.ae [ab 2 (a6 false)]),.ret]) .skip)])),(.ae [aw 62 .add 44 (ar 1),ab 44 62])])
def Xn:List (Nat × Md):=[(1,.b (dO 14)),(3,.b [.d]),(4,.one .d),(42,.one .d),(43,.one .d),(44,.one .d)]
def Xo:af :=
 (ag [(.draw [a9 63 3 1,aD 64 101 [63],a9 65 3 1,aD 66 102 [65],ab 7 64,ab 8 66] [(1,2)]),(.ae [ak 67 1 7,an 68 67 1,ab 69 7,aD 70 169 [68,69],ab 71 70,.bw 71 true [ak 72 1 10,an 73 72 1,ab 74 7,aD 75 169 [73,74]] 76 75,ab 77 76,.bw 77 true [ak 78 1 8,an 79 78 1,ab 80 8,aD 81 169 [79,80]] 82 81,ab 83 82,.bw 83 true [ak 84 1 9,an 85 84 1,ab 86 8,aD 87 169 [85,86]] 88 87,ab 2 88]),.ret])
def Xp:af :=
 (ag [(ag [(.ae [ak 41 1 5,an 42 41 1,ba 43 42,ab 44 (ar 0)]),(.block 0 (.loop Xn Xm))]),Xo])
def QSX:List (Nat × Md):=[(1,.b (dO 14)),(3,.b [.d]),(4,.one .d)]
def QLH:af:=.wk QSX Xp
def QJy:af :=
 (ag [(.ae [aC 1 (.box 39 0 14),ab 2 (a6 false)]),(.ae [a9 9 1 14,aD 10 74 [9],aC 3 (.new 77 [(.n aM)]),aV 3 10 1]),(ag [(.ae [a9 11 3 1,aD 12 167 [11],bL 13 12,ab 14 13,.bw 14 false [ak 15 1 0,an 16 15 1,aw 17 .lss 16 (ar 0)] 18 17,ab 19 18,.bw 19 false [ak 20 1 0,an 21 20 1,ak 22 1 1,an 23 22 1,ba 24 23,aw 25 .gtr 21 24] 26 25,ab 27 26,.bw 27 false [a9 28 3 1,ak 29 1 11,ak 30 29 0,an 31 30 1,aD 32 168 [28,31],bL 33 32] 34 33]),(.cond 34 (ag [(.ae [ab 2 (a6 false)]),.ret]) .skip)]),(.ae [ak 35 1 2,an 36 35 1,ba 37 36,aw 38 .add 37 (ar 1),ab 4 38]),(ag [(.ae [ak 39 1 4,an 40 39 1]),(.cond 40 (.ae [ab 4 (ar 1)]) .skip)]),QLH])
def Xq:List (bn × Md):=[(.t 2,.one .d)]
def KP:Qb:=TQ 0 0 Xq K
def QSU:Qb:=a0 (aN Bj 0 Xo (KP K)) (KP K)
def QSs:Qb:=a7 0 (QSU K)
def xX(s:Qc)(kept:Int)(x:Int):Prop:=Loop Bj 0 Xn Xm (QSs K) ⟨[(1,(.p 0 0 0)),(3,(.p 1 0 0)),(4,(aL kept)),(42,(bf QD s.2.2.2.2.2.1)),(43,(aL ((s.2.2.2.2.2.1).length:Int))),(44,(aL x))],[(0,(.box (aT.cells Qe s))),(1,(.box [(bf aM (Zn s))]))],2⟩
@[irreducible] def KQ(s:Qc)(kept:Int):Prop:=aN Bj 0 Xp (KP K) ⟨[(1,(.p 0 0 0)),(3,(.p 1 0 0)),(4,(aL kept))],[(0,(.box (aT.cells Qe s))),(1,(.box [(bf aM (Zn s))]))],2⟩
theorem Xr(s:Qc)(kept:Int)(x:Int) (h :
 (aI (decide (x<((s.2.2.2.2.2.1).length:Int))) ((0<=x/\Int.toNat x<(s.2.2.2.2.2.1).length)/\(((!((((aq QS s.2.2.2.2.2.1 (Int.toNat x)).2).length:Int) != kept))=true->(xh s.2.2.1 ((aq QS s.2.2.2.2.2.1 (Int.toNat x)).2) kept))/\(aI (((((aq QS s.2.2.2.2.2.1 (Int.toNat x)).2).length:Int) != kept)||(!(ZQ s.2.2.1 ((aq QS s.2.2.2.2.2.1 (Int.toNat x)).2) kept))) (K (nS false)) (xX K s kept (aG (x+1)))))) (K (nS ((((Yr s.2.2.2.2.2.2.2.1 (ZO (Zn s)))&&(Yr s.2.2.2.2.2.2.2.2.2.2.1 (ZO (Zn s))))&&(Yr s.2.2.2.2.2.2.2.2.1 (Zu (Zn s))))&&(Yr s.2.2.2.2.2.2.2.2.2.1 (Zu (Zn s)))))))):xX K s kept x :=
 Loop.of h
theorem Xs(s:Qc)(kept:Int) (h :
 (xX K s kept 0)):dt (KQ K s kept) :=
 dt.of h
theorem QSJ(s:Qc):aK Tryz.prog 72 [(.a (aT.cells Qe s))] (nS (QU s)):=by
 refine bz Bj QJy Xq 0 0 89 ue (kc Bd (kc AZ (kc QW3 (kc Xl (kc IX (kc IY (kc QLZ kn))))))) (λK =>
 (aI ((((!(Zc (Zn s)))||(decide (s.1<0)))||(decide (s.1>((s.2.1).length:Int))))||(!(YR (Zn s) s.2.2.2.2.2.2.2.2.2.2.2.1))) (K (nS false)) (aI s.2.2.2.2.1 (KQ K s 1) (KQ K s (aG (((s.2.2.1).length:Int)+1)))))) (λhb=>?_)
 have sf:(s.2.1).length<=9223372036854775807:=hb.1.2.1.1;have si:(s.2.2.1).length<=9223372036854775807:=hb.1.2.2.1.1;have sj:(s.2.2.2.2.2.1).length<=9223372036854775807:=hb.1.2.2.2.2.2.1.1;have sk:(s.2.2.2.2.2.2.1).length<=9223372036854775807:=hb.1.2.2.2.2.2.2.1.1;have sm:(s.2.2.2.2.2.2.2.1).length<=9223372036854775807:=hb.1.2.2.2.2.2.2.2.1.1;have sn:(s.2.2.2.2.2.2.2.2.1).length<=9223372036854775807:=hb.1.2.2.2.2.2.2.2.2.1.1;have so:(s.2.2.2.2.2.2.2.2.2.1).length<=9223372036854775807:=hb.1.2.2.2.2.2.2.2.2.2.1.1;have nT:(s.2.2.2.2.2.2.2.2.2.2.1).length<=9223372036854775807:=hb.1.2.2.2.2.2.2.2.2.2.2.1.1;have nU:(s.2.2.2.2.2.2.2.2.2.2.2.1).length<=9223372036854775807:=hb.1.2.2.2.2.2.2.2.2.2.2.2.1.1;refine⟨λh=>au (by grind[QU,bj]),λh=>?_⟩;have h0:Zc s.2.2.1=true/\bj s.1 0 s.2.1.length=true/\YR s.2.2.1 s.2.2.2.2.2.2.2.2.2.2.2.1=true:=by grind[bj]
 have hm:=Yw h0.1;have hk:1<=ZI s/\ZI s<=9:=by unfold ZI;split <;> omega
 have key:xX (λr'=>r'=nS (QU s)) s (ZI s) ((0:Nat):Int):=by
  refine Zf s.2.2.2.2.2.1 (λr k=>r.all (Yf s)=s.2.2.2.2.2.1.all (Yf s)->xX (λr'=>r'=nS (QU s)) s (ZI s) k) ?_ ?_ rfl
  ·intro he;refine Xr _ _ _ _ ⟨λh=>by simp at h,λ_=>au ?_⟩;grind[QU]
  ·intro k x r gn aW hg ih he;refine Xr _ _ _ _ ⟨λ_=>?_,λh=>by simp at h;omega⟩;rw[Int.toNat_natCast,hg,QF (x:=(k:Int)+1) (by omega) (by omega)];refine⟨⟨by omega,aW⟩,λh=>?_,λh=>au ?_,λh=>ih ?_⟩
   ·have:(x.2.length:Int)=ZI s:=by simpa using h
    exact⟨hm.1,by omega,by omega⟩
   ·grind[QU,Yf]
   ·grind[Yf]
 refine⟨λh1=>?_,λh1=>?_⟩
 ·have e:ZI s=1:=by simp[ZI,h1]
  rw[e]at key;exact(Xs (λr'=>r'=nS (QU s)) s _ key).h
 ·have e:ZI s=s.2.2.1.length+1:=by simp[ZI,h1]
  rw[QF (x:=(s.2.2.1.length:Int)+1) (by omega) (by omega)];rw[e]at key;exact(Xs (λr'=>r'=nS (QU s)) s _ key).h
theorem Bk:Qf Tryz.prog ue:=Qh λx _=>QSJ x.1
def JE(t:Bool):aB:=b6 (bE t)
def uf:aJ:=Qg 63 [(.a Qe)] λx=>(none,JE (QU x.1))
def o7:aF:=⟨[IU,Y1,Yv,IE],false⟩
def Xt:af :=
 (ag [(ag [(.ae [ab 47 5,ak 48 1 2,an 49 48 1,ba 50 49,aw 51 .lss 47 50]),(.cond 51 .skip (.exit 0))]),(.block 1 (ag [(.draw [ak 54 1 11,ak 55 54 0,an 56 55 1,ab 57 5,aZ 58 56 57 [(.sl [TI])],ak 59 58 0,an 60 59 1,ba 61 60,ak 62 1 2,an 63 62 1,ab 64 5,aZ 65 63 64 aM,ak 66 65 3,an 67 66 1,ba 68 67,aw 69 .neq 61 68] []),(.cond 69 (ag [(.ae [ab 2 (a6 false)]),.ret]) .skip)])),(.ae [ab 52 5,aw 53 .add 52 (ar 1),ab 5 53])])
def Xu:List (Nat × Md):=[(1,.b (dO 14)),(3,.one .d),(4,.one .d),(5,.one .d)]
def Xv:af :=
 (ag [(ag [(.ae [ab 126 8,ab 127 7,ba 128 127,aw 129 .lss 126 128]),(.cond 129 .skip (.exit 4))]),(.block 5 (ag [(.draw [ab 132 7,ab 133 8,aZ 134 132 133 [(.sl [TI])],ak 135 134 0,an 136 135 1,aD 137 97 [136],bL 138 137,ab 139 138,.bw 139 false [ab 140 7,ab 141 8,aZ 142 140 141 [(.sl [TI])],ak 143 142 0,an 144 143 1,ba 145 144,ak 146 1 2,an 147 146 1,ab 148 8,aw 149 .sub 148 (ar 1),aZ 150 147 149 aM,ak 151 150 2,an 152 151 1,aw 153 .neq 145 152] 154 153] []),(.cond 154 (ag [(.ae [ab 2 (a6 false)]),.ret]) .skip)])),(.ae [ab 130 8,aw 131 .add 130 (ar 1),ab 8 131])])
def Xw:List (Nat × Md):=[(1,.b (dO 14)),(3,.one .d),(4,.one .d),(6,.one .d),(7,.one .d),(8,.one .d)]
def Xx:af :=
 (.ae [ab 75 6,aw 76 .add 75 (ar 1),ab 6 76])
def KR:af :=
 (ag [(ag [(.ae [ab 70 6,ak 71 1 5,an 72 71 1,ba 73 72,aw 74 .lss 70 73]),(.cond 74 .skip (.exit 2))]),(.block 3 (ag [(.ae [ak 77 1 5,an 78 77 1,ab 79 6,aZ 80 78 79 QD,ak 81 80 1,an 82 81 1,ab 7 82]),(ag [(.ae [ab 83 7,ba 84 83,aw 85 .eql 84 (ar 0),ab 86 85,.bw 86 false [ab 87 7,aZ 88 87 (ar 0) [(.sl [TI])],ak 89 88 0,an 90 89 1,aD 91 97 [90],bL 92 91] 93 92,ab 94 93,.bw 94 false [ab 95 7,aZ 96 95 (ar 0) [(.sl [TI])],ak 97 96 0,an 98 97 1,ba 99 98,ab 100 3,aw 101 .neq 99 100] 102 101,ab 103 102,.bw 103 false [ak 104 1 4,an 105 104 1,bL 106 105,ab 107 106,.bw 107 true [ab 108 7,ba 109 108,ak 110 1 2,an 111 110 1,ba 112 111,aw 113 .add 112 (ar 1),aw 114 .neq 109 113] 115 114] 116 115,ab 117 116,.bw 117 false [ak 118 1 4,an 119 118 1,ab 120 119,.bw 120 true [ab 121 7,ba 122 121,aw 123 .neq 122 (ar 1)] 124 123] 125 124]),(.cond 125 (ag [(.ae [ab 2 (a6 false)]),.ret]) .skip)]),(.ae [ab 8 (ar 1)]),(.block 4 (.loop Xw Xv))])),Xx])
def Bl:List (Nat × Md):=[(1,.b (dO 14)),(3,.one .d),(4,.one .d),(6,.one .d)]
def Xy:af :=
 (ag [(.ae [ak 155 1 7,an 156 155 1,ab 157 3,aD 158 159 [156,157],ab 159 158,.bw 159 true [ak 160 1 8,an 161 160 1,ab 162 4,aD 163 159 [161,162]] 164 163,ab 165 164,.bw 165 true [ak 166 1 9,an 167 166 1,ab 168 4,aD 169 159 [167,168]] 170 169,ab 171 170,.bw 171 true [ak 172 1 10,an 173 172 1,ab 174 3,aD 175 159 [173,174]] 176 175,ab 2 176]),.ret])
def Xz:af :=
 (ag [(ag [(.ae [ab 6 (ar 0)]),(.block 2 (.loop Bl KR))]),Xy])
def QKq:af :=
 (ag [(.ae [aC 1 (.box 39 0 14),ab 2 (a6 false)]),(ag [(.ae [ak 9 1 2,an 10 9 1,aC 11 (.build [(.n aM)] [(0,1,10)]),aD 12 157 [11],bL 13 12,ab 14 13,.bw 14 false [ak 15 1 0,an 16 15 1,ak 17 1 1,an 18 17 1,ba 19 18,aD 20 158 [16,(ar 0),19],bL 21 20] 22 21,ab 23 22,.bw 23 false [ak 24 1 11,ak 25 24 0,an 26 25 1,ba 27 26,ak 28 1 2,an 29 28 1,ba 30 29,aw 31 .neq 27 30] 32 31]),(.cond 32 (ag [(.ae [ab 2 (a6 false)]),.ret]) .skip)]),(.ae [ak 33 1 2,an 34 33 1,aZ 35 34 (ar 0) aM,ak 36 35 1,an 37 36 1,ab 3 37]),(.ae [ak 38 1 2,an 39 38 1,ak 40 1 2,an 41 40 1,ba 42 41,aw 43 .sub 42 (ar 1),aZ 44 39 43 aM,ak 45 44 2,an 46 45 1,ab 4 46]),(ag [(.ae [ab 5 (ar 0)]),(.block 0 (.loop Xu Xt))]),Xz])
def XA:List (bn × Md):=[(.t 2,.one .d)]
def Bm:Qb:=TQ 0 0 XA K
def QQ2:Qb:=a0 (aN o7 0 Xy (Bm K)) (Bm K)
def KS:Qb:=a7 2 (QQ2 K)
def XB:Qb:=a0 (λs'=>Loop o7 0 Bl KR (KS K) (gc 0 Bl s')) (KS K)
def QQk:Qb:=a0 (aN o7 0 Xx (XB K)) (XB K)
def QUL:Qb:=a7 3 (QQk K)
def QEU:Qb:=a7 4 (QUL K)
def Bn(s:Qc)(k:Int)(i1:Int):Prop:=Loop o7 0 Xw Xv (QEU K) ⟨[(1,(.p 0 0 0)),(3,(aL ((aq b5 s.2.2.1 (Int.toNat 0)).2.1))),(4,(aL ((aq b5 s.2.2.1 (Int.toNat (aG (((s.2.2.1).length:Int)-1)))).2.2.1))),(6,(aL i1)),(7,(bf [(.sl [TI])] ((aq QS s.2.2.2.2.2.1 (Int.toNat i1)).2))),(8,(aL k))],[(0,(.box (aT.cells Qe s)))],1⟩
def xY(s:Qc)(i1:Int):Prop:=Loop o7 0 Bl KR (KS K) ⟨[(1,(.p 0 0 0)),(3,(aL ((aq b5 s.2.2.1 (Int.toNat 0)).2.1))),(4,(aL ((aq b5 s.2.2.1 (Int.toNat (aG (((s.2.2.1).length:Int)-1)))).2.2.1))),(6,(aL i1))],[(0,(.box (aT.cells Qe s)))],1⟩
def QHa:Qb:=a0 (aN o7 0 Xz (Bm K)) (Bm K)
def QKo:Qb:=a7 0 (QHa K)
def Bo(s:Qc)(i:Int):Prop:=Loop o7 0 Xu Xt (QKo K) ⟨[(1,(.p 0 0 0)),(3,(aL ((aq b5 s.2.2.1 (Int.toNat 0)).2.1))),(4,(aL ((aq b5 s.2.2.1 (Int.toNat (aG (((s.2.2.1).length:Int)-1)))).2.2.1))),(5,(aL i))],[(0,(.box (aT.cells Qe s)))],1⟩
theorem XC(s:Qc)(k:Int)(i1:Int) (h :
 (aI (decide (k<(((aq QS s.2.2.2.2.2.1 (Int.toNat i1)).2).length:Int))) (((0<=k/\Int.toNat k<((aq QS s.2.2.2.2.2.1 (Int.toNat i1)).2).length)/\((!(!(QK (aq ([]:List Int) ((aq QS s.2.2.2.2.2.1 (Int.toNat i1)).2) (Int.toNat k)))))=true->((0<=k/\Int.toNat k<((aq QS s.2.2.2.2.2.1 (Int.toNat i1)).2).length)/\(0<=aG (k-1)/\Int.toNat (aG (k-1))<(s.2.2.1).length))))/\(aI ((!(QK (aq ([]:List Int) ((aq QS s.2.2.2.2.2.1 (Int.toNat i1)).2) (Int.toNat k))))||(((aq ([]:List Int) ((aq QS s.2.2.2.2.2.1 (Int.toNat i1)).2) (Int.toNat k)).length:Int) != ((aq b5 s.2.2.1 (Int.toNat (aG (k-1)))).2.2.1))) (K (JE false)) (Bn K s (aG (k+1)) i1))) (xY K s (aG (i1+1))))):Bn K s k i1 :=
 Loop.of h
theorem XD(s:Qc)(i1:Int) (h :
 let z1:=aq QS s.2.2.2.2.2.1 (Int.toNat i1)
 let z2:=aq ([]:List Int) (z1.2) (Int.toNat 0)
 let z3:=aq b5 s.2.2.1 (Int.toNat 0)
 let z4:=aq b5 s.2.2.1 (Int.toNat (aG (((s.2.2.1).length:Int)-1)))
 (aI (decide (i1<((s.2.2.2.2.2.1).length:Int))) ((0<=i1/\Int.toNat i1<(s.2.2.2.2.2.1).length)/\((((!(((z1.2).length:Int)==0))=true->((0:Int)<=0/\Int.toNat 0<(z1.2).length))/\((!((((z1.2).length:Int)==0)||(!(QK z2))))=true->((0:Int)<=0/\Int.toNat 0<(z1.2).length)))/\(aI (((((((z1.2).length:Int)==0)||(!(QK z2)))||((z2.length:Int) != (z3.2.1)))||((!s.2.2.2.2.1)&&(((z1.2).length:Int) != (aG (((s.2.2.1).length:Int)+1)))))||(s.2.2.2.2.1&&(((z1.2).length:Int) != 1))) (K (JE false)) (Bn K s 1 i1)))) (K (JE ((((Yr s.2.2.2.2.2.2.2.1 (z3.2.1))&&(Yr s.2.2.2.2.2.2.2.2.1 (z4.2.2.1)))&&(Yr s.2.2.2.2.2.2.2.2.2.1 (z4.2.2.1)))&&(Yr s.2.2.2.2.2.2.2.2.2.2.1 (z3.2.1))))))):xY K s i1 :=
 Loop.of h
theorem XE(s:Qc)(i:Int) (h :
 (aI (decide (i<((s.2.2.1).length:Int))) (((0<=i/\Int.toNat i<(s.2.2.2.2.2.2.2.2.2.2.2.1).length)/\(0<=i/\Int.toNat i<(s.2.2.1).length))/\(aI (((aq ([]:List Int) s.2.2.2.2.2.2.2.2.2.2.2.1 (Int.toNat i)).length:Int) != (((aq b5 s.2.2.1 (Int.toNat i)).2.2.2).length:Int)) (K (JE false)) (Bo K s (aG (i+1))))) (xY K s 0))):Bo K s i :=
 Loop.of h
theorem QRS(s:Qc):aK Tryz.prog 63 [(.a (aT.cells Qe s))] (JE (QU s)):=by
 refine bz o7 QKq XA 0 0 177 uf (kc QTj (kc Jg (kc YL (kc QUQ kn)))) (λK =>
 (aI (((!(Zc s.2.2.1))||(!(bj s.1 (0:Int) ((s.2.1).length:Int))))||(((s.2.2.2.2.2.2.2.2.2.2.2.1).length:Int) != ((s.2.2.1).length:Int))) (K (JE false)) (((0:Int)<=0/\Int.toNat 0<(s.2.2.1).length)/\((0<=aG (((s.2.2.1).length:Int)-1)/\Int.toNat (aG (((s.2.2.1).length:Int)-1))<(s.2.2.1).length)/\(Bo K s 0))))) (λhb=>?_)
 have sf:(s.2.1).length<=9223372036854775807:=hb.1.2.1.1;have si:(s.2.2.1).length<=9223372036854775807:=hb.1.2.2.1.1;have sj:(s.2.2.2.2.2.1).length<=9223372036854775807:=hb.1.2.2.2.2.2.1.1;have sk:(s.2.2.2.2.2.2.1).length<=9223372036854775807:=hb.1.2.2.2.2.2.2.1.1;have sm:(s.2.2.2.2.2.2.2.1).length<=9223372036854775807:=hb.1.2.2.2.2.2.2.2.1.1;have sn:(s.2.2.2.2.2.2.2.2.1).length<=9223372036854775807:=hb.1.2.2.2.2.2.2.2.2.1.1;have so:(s.2.2.2.2.2.2.2.2.2.1).length<=9223372036854775807:=hb.1.2.2.2.2.2.2.2.2.2.1.1;have nT:(s.2.2.2.2.2.2.2.2.2.2.1).length<=9223372036854775807:=hb.1.2.2.2.2.2.2.2.2.2.2.1.1;have nU:(s.2.2.2.2.2.2.2.2.2.2.2.1).length<=9223372036854775807:=hb.1.2.2.2.2.2.2.2.2.2.2.2.1.1;refine⟨λh=>au (by grind[QU,YR]),λh=>?_⟩;have h0:Zc s.2.2.1=true/\bj s.1 0 s.2.1.length=true/\s.2.2.2.2.2.2.2.2.2.2.2.1.length=s.2.2.1.length:=by
  have:((s.2.2.2.2.2.2.2.2.2.2.2.1.length:Int) != (s.2.2.1.length:Int))=false:=by grind
  have h3:s.2.2.2.2.2.2.2.2.2.2.2.1.length=s.2.2.1.length:=by
   have h4:((s.2.2.2.2.2.2.2.2.2.2.2.1.length:Int)==(s.2.2.1.length:Int))=true:=by simpa[bne]using this
   have:=of_decide_eq_true (by simpa using h4:decide ((s.2.2.2.2.2.2.2.2.2.2.2.1.length:Int)=s.2.2.1.length)=true);omega
  grind
 have hm:=Yw h0.1;have eo:=rl (n:=s.2.2.1.length) hm.1 (by omega);have ei:ZO s.2.2.1=(aq b5 s.2.2.1 0).2.1:=by simp[ZO,h0.1]
 have eu:Zu s.2.2.1=(aq b5 s.2.2.1 (s.2.2.1.length-1)).2.2.1:=by simp[Zu,h0.1]
 have hk9:1<=ZI s/\ZI s<=s.2.2.1.length+1:=by unfold ZI;split <;> omega
 have saved:YR s.2.2.1 s.2.2.2.2.2.2.2.2.2.2.2.1=true->xY (λr'=>r'=JE (QU s)) s ((0:Nat):Int):=by
  intro hgf;refine Zf s.2.2.2.2.2.1 (λr k=>r.all (Yf s)=s.2.2.2.2.2.1.all (Yf s)->xY (λr'=>r'=JE (QU s)) s k) ?_ ?_ rfl
  ·intro he;refine XD _ _ _ ⟨λh=>by simp at h,λ_=>au ?_⟩;rw[eo.1];grind[QU]
  ·intro k x r hk aW hg ih he;have jU:x.2.length<=9223372036854775807:=by
    have dE:x∈s.2.2.2.2.2.1:=List.mem_of_mem_drop (i:=k) (by rw[hk];exact List.mem_cons_self);exact(hb.1.2.2.2.2.2.1.2 x dE).2.1.1
   have rows:(x.2.length:Int)=ZI s->∀(q:List (List Int))(j:Nat),1<=j->x.2.drop j=q->j<=x.2.length->YG s.2.2.1 j q=Yf s x->Bn (λr'=>r'=JE (QU s)) s j k:=by
    intro hlen q
    induction q with
    | nil =>
     intro j h1 hj hle iY;have:x.2.length<=j:=by simpa using hj
     refine XC _ _ _ _ ⟨λh=>?_,λ_=>?_⟩
     ·rw[Int.toNat_natCast,hg]at h;simp at h;omega
     ·rw[QF (x:=(k:Int)+1) (by omega) (by omega)];refine ih ?_;simp only[YG]at iY;rw[<- he,List.all_cons,<- iY,Bool.true_and]
    | cons z q ihq =>
     intro j h1 hj hle iY;have mj:=Ae hj;have e2:=rl h1 (by omega:j<=9223372036854775807);have bV:=QSi h0.1 h1 (by omega:j<=s.2.2.1.length);refine XC _ _ _ _ ⟨λ_=>?_,λh=>?_⟩
     ·rw[Int.toNat_natCast,Int.toNat_natCast,hg,ZJ hj,e2.1,QF (x:=(j:Int)+1) (by omega) (by omega)];rw[YG,bV]at iY;refine⟨⟨⟨by omega,mj⟩,λ_=>⟨⟨by omega,mj⟩,e2.2,by omega⟩⟩,λh=>au ?_,λh=>ihq (j+1) (by omega) (Zz hj) mj ?_⟩
      ·have hf:Yf s x=false:=by rw[<- iY];grind[QH]
       have:s.2.2.2.2.2.1.all (Yf s)=false:=by rw[<- he,List.all_cons,hf];rfl
       simp[QU,this]
      ·rw[<- iY];grind[QH]
     ·rw[Int.toNat_natCast,hg]at h;simp at h;omega
   refine XD _ _ _ ⟨λ_=>?_,λh=>by simp at h;omega⟩;rw[Int.toNat_natCast,hg];have bad:Yf s x=false->false=QU s:=by
    intro hf;have:s.2.2.2.2.2.1.all (Yf s)=false:=by rw[<- he,List.all_cons,hf];rfl
    simp[QU,this]
   have ek:aG ((s.2.2.1.length:Int)+1)=s.2.2.1.length+1:=QF (by omega) (by omega);rw[ek]
   cases hx:x.2 with
   | nil =>
    refine⟨⟨by omega,aW⟩,⟨by simp,by simp⟩,λ_=>au (bad ?_),λh=>by simp at h⟩;simp[Yf,hx];omega
   | cons z q =>
    have z0:aq ([]:List Int) (z::q) (Int.toNat 0)=z:=Aj _ _ _;rw[z0];have bV:YU s.2.2.1 0=(aq b5 s.2.2.1 (Int.toNat 0)).2.1:=QFt h0.1;rw[<- bV];have main:(((q.length+1:Nat):Int)==ZI s)=true->Yf s x=(QH z (YU s.2.2.1 0)&&YG s.2.2.1 1 q):=by
     intro h;have h:((q.length+1:Nat):Int)=ZI s:=by simpa using h
     have e:(z::q).take (ZI s).toNat=z::q:=by rw[List.take_of_length_le];simp;omega
     simp only[Yf,hx,ZQ,e,YG];simp;omega
    refine⟨⟨by omega,aW⟩,⟨λ_=>by simp,λ_=>by simp⟩,λh=>au (bad ?_),λh=>?_⟩
    ·by_cases hl:(((q.length+1:Nat):Int)==ZI s)=true
     ·rw[main hl];have hl:((q.length+1:Nat):Int)=ZI s:=by simpa using hl
      unfold ZI at hl;by_cases hr:s.2.2.2.2.1=true
      ·rw[if_pos hr]at hl;simp[hr]at h;grind[QH]
      ·rw[if_neg hr]at hl;simp[hr]at h;grind[QH]
     ·have:(((x.2.length:Nat):Int)==ZI s)=false:=by rw[hx];simpa using hl
      simp[Yf,this]
    ·have hl:((q.length+1:Nat):Int)=ZI s:=by
      unfold ZI;by_cases hr:s.2.2.2.2.1=true
      ·rw[if_pos hr];simp[hr]at h;omega
      ·rw[if_neg hr];simp[hr]at h;omega
     have hv:QH z (YU s.2.2.1 0)=true:=by simp at h;simp[QH,h]
     refine rows (by rw[hx];simpa using hl) q 1 (Nat.le_refl _) (by rw[hx];rfl) (by rw[hx];simp) ?_;rw[main (by simpa using hl),hv,Bool.true_and]
 refine⟨⟨by omega,by simp;omega⟩,⟨eo.2,by rw[eo.1];omega⟩,?_⟩;refine Zf s.2.2.1 (λr k=>YV r (s.2.2.2.2.2.2.2.2.2.2.2.1.drop k)=YV s.2.2.1 s.2.2.2.2.2.2.2.2.2.2.2.1->Bo (λr'=>r'=JE (QU s)) s k) ?_ ?_ rfl
 ·intro he;refine XE _ _ _ ⟨λh=>by simp at h,λ_=>saved ?_⟩;grind[YR,YV]
 ·intro k x r hk aW hg ih he;obtain⟨y,q,hq⟩:∃ y q,s.2.2.2.2.2.2.2.2.2.2.2.1.drop k=y::q:=by
   cases hq:s.2.2.2.2.2.2.2.2.2.2.2.1.drop k with
   | nil=>have:=congrArg List.length hq;simp at this;omega
   | cons y q=>exact⟨y,q,rfl⟩
  refine XE _ _ _ ⟨λ_=>?_,λh=>by simp at h;omega⟩;rw[Int.toNat_natCast,hg,ZJ hq,QF (x:=(k:Int)+1) (by omega) (by omega)];rw[hq,YV]at he;rw[Zz hq]at ih;refine⟨⟨⟨by omega,by omega⟩,by omega,aW⟩,λh=>au ?_,λh=>ih ?_⟩
  ·grind[QU,YR]
  ·grind
theorem Bp:Qf Tryz.prog uf:=Qh λx _=>QRS x.1
def xZ(t:Int):aB:=b6 (aL t)
def x4:aJ:=Qg 62 [(.c (.sl QD)),(.c TI)] λx=>(none,xZ (QJ x.1 x.2.1))
def KT:aF:=⟨[],false⟩
def XF:af :=
 (ag [(ag [(.ae [ab 6 5,ab 7 0,ba 8 7,aw 9 .lss 6 8]),(.cond 9 .skip (.exit 0))]),(.block 1 (ag [(.ae [ab 12 0,ab 13 5,aZ 14 12 13 QD,ak 15 14 0,an 16 15 1,ab 17 1,aw 18 .eql 16 17]),(.cond 18 (ag [(.ae [ab 19 5,ab 4 19]),.ret]) .skip)])),(.ae [ab 10 5,aw 11 .add 10 (ar 1),ab 5 11])])
def XG:List (Nat × Md):=eV [0,1,5]
def XH:af :=
 (ag [(.ae [ab 4 (ar (-1))]),.ret])
def QRP:af :=
 (ag [(.ae [ab 4 (ar 0)]),(ag [(.ae [ab 5 (ar 0)]),(.block 0 (.loop XG XF))]),XH])
def XI:List (bn × Md):=[(.t 4,.one .d)]
def XJ:Qb:=TQ 0 0 XI K
def QXe:Qb:=a0 (aN KT 0 XH (XJ K)) (XJ K)
def QR2:Qb:=a7 0 (QXe K)
def Bq(l:List QC)(m:Int)(i:Int):Prop:=Loop KT 0 XG XF (QR2 K) ⟨[(0,(bf QD l)),(1,(aL m)),(5,(aL i))],[],0⟩
theorem XK(l:List QC)(m:Int)(i:Int) (h :
 (aI (decide (i<(l.length:Int))) ((0<=i/\Int.toNat i<l.length)/\(aI (((aq QS l (Int.toNat i)).1)==m) (K (xZ i)) (Bq K l m (aG (i+1))))) (K (xZ (-1:Int))))):Bq K l m i :=
 Loop.of h
theorem QOk(l:List QC)(m:Int):aK Tryz.prog 62 [(.c (.sl QD) l),(.c TI m)] (xZ (QJ l m)):=by
 refine bz KT QRP XI 0 0 20 x4 kn (λK =>
 (Bq K l m 0)) (λhb=>?_)
 have KU:l.length<=9223372036854775807:=hb.1.1;refine Zf l (λr k=>Jt r m k=QJ l m->Bq (λr'=>r'=xZ (QJ l m)) l m k) ?_ ?_ rfl
 ·intro he;refine XK _ _ _ _ ⟨λh=>by simp at h,λ_=>?_⟩;grind[Jt]
 ·intro k x r hk aW hg ih he;refine XK _ _ _ _ ⟨λ_=>?_,λh=>by simp at h;omega⟩;rw[Int.toNat_natCast,hg,QF (by omega) (by omega)];grind[Jt]
theorem KV:Qf Tryz.prog x4:=Qh λx _=>QOk x.1 x.2.1
def x6(t:Int):aB:=b6 (aL t)
def x7:aJ:=Qg 71 [(.c (.sl QD)),(.c TI)] λx=>(none,x6 (QJ x.1 x.2.1))
def KW:aF:=⟨[],false⟩
def XL:af :=
 (ag [(.ae [aw 10 .lss 9 8]),(.cond 10 .skip (.exit 0)),(.block 1 (ag [(.ae [ab 11 9,aZ 12 7 9 QD,a9 13 12 2,aC 6 (.new 108 (bG QD)),ab 5 11,aV 6 13 2]),(.ae [ak 14 6 0,an 15 14 1,ab 16 1,aw 17 .eql 15 16]),(.cond 17 (ag [(.ae [ab 18 5,ab 4 18]),.ret]) .skip)])),(.ae [aw 19 .add 9 (ar 1),ab 9 19])])
def XM:List (Nat × Md):=eV [1,7,8,9]
def XN:af :=
 (ag [(.ae [ab 4 (ar (-1))]),.ret])
def QGc:af :=
 (ag [(.ae [ab 4 (ar 0)]),(ag [(.ae [ab 7 0,ba 8 7,ab 9 (ar 0)]),(.block 0 (.loop XM XL))]),XN])
def XO:List (bn × Md):=[(.t 4,.one .d)]
def XP:Qb:=TQ 0 0 XO K
def QJO:Qb:=a0 (aN KW 0 XN (XP K)) (XP K)
def QLW:Qb:=a7 0 (QJO K)
def Br(l:List QC)(m:Int)(x:Int):Prop:=Loop KW 0 XM XL (QLW K) ⟨[(1,(aL m)),(7,(bf QD l)),(8,(aL (l.length:Int))),(9,(aL x))],[],0⟩
theorem XQ(l:List QC)(m:Int)(x:Int) (h :
 (aI (decide (x<(l.length:Int))) ((0<=x/\Int.toNat x<l.length)/\(aI (((aq QS l (Int.toNat x)).1)==m) (K (x6 x)) (Br K l m (aG (x+1))))) (K (x6 (-1:Int))))):Br K l m x :=
 Loop.of h
theorem QQZ(l:List QC)(m:Int):aK Tryz.prog 71 [(.c (.sl QD) l),(.c TI m)] (x6 (QJ l m)):=by
 refine bz KW QGc XO 0 0 20 x7 kn (λK =>
 (Br K l m 0)) (λhb=>?_)
 have KU:l.length<=9223372036854775807:=hb.1.1;refine Zf l (λr k=>Jt r m k=QJ l m->Br (λr'=>r'=x6 (QJ l m)) l m k) ?_ ?_ rfl
 ·intro he;refine XQ _ _ _ _ ⟨λh=>by simp at h,λ_=>?_⟩;grind[Jt]
 ·intro k x r hk aW hg ih he;refine XQ _ _ _ _ ⟨λ_=>?_,λh=>by simp at h;omega⟩;rw[Int.toNat_natCast,hg,QF (by omega) (by omega)];grind[Jt]
theorem KX:Qf Tryz.prog x7:=Qh λx _=>QQZ x.1 x.2.1
def KY(t:Bool):aB:=b6 (bE t)
def ug:aJ:=Qg 195 [(.c (.sl [TI])),(.c (.sl [TI]))] λx=>(none,KY (ZB x.1 x.2.1))
def QKt:aF:=⟨[J4,Jr],false⟩
def QWg:af :=
 (ag [(.ae [ab 4 (a6 false)]),(.ae [ab 5 0,aD 6 187 [5],ab 7 6,.bw 7 true [ab 8 1,ab 9 0,ba 10 9,aD 11 100 [8,10]] 12 11,ab 4 12]),.ret])
def QHH:List (bn × Md):=[(.t 4,.one .d)]
theorem QUt(a:List Int)(b:List Int):aK Tryz.prog 195 [(.c (.sl [TI]) a),(.c (.sl [TI]) b)] (KY (ZB a b)):=by
 refine bz QKt QWg QHH 0 0 13 ug (kc r8 (kc JS kn)) (λK =>
 K (KY ((QK a)&&(QH b (a.length:Int))))) (λhb=>?_)
 exact au rfl
theorem Bs:Qf Tryz.prog ug:=Qh λx _=>QUt x.1 x.2.1
def KZ(t:Bool):aB:=b6 (bE t)
def uh:aJ:=Qg 191 [(.c (.sl [TI])),(.c (.sl [TI]))] λx=>(none,KZ (ZB x.1 x.2.1))
def QG5:aF:=⟨[Yv],false⟩
def QT2:af :=
 (ag [(.ae [ab 4 (a6 false)]),(.ae [ab 5 0,aD 6 97 [5],ab 7 6,.bw 7 true [ab 8 1,aD 9 97 [8]] 10 9,ab 11 10,.bw 11 true [ab 12 0,ba 13 12,ab 14 1,ba 15 14,aw 16 .eql 13 15] 17 16,ab 4 17]),.ret])
def QNP:List (bn × Md):=[(.t 4,.one .d)]
theorem QPJ(a:List Int)(b:List Int):aK Tryz.prog 191 [(.c (.sl [TI]) a),(.c (.sl [TI]) b)] (KZ (ZB a b)):=by
 refine bz QG5 QT2 QNP 0 0 18 uh (kc YL kn) (λK =>
 K (KZ (((QK a)&&(QK b))&&((a.length:Int)==(b.length:Int))))) (λhb=>?_)
 refine au ?_;rw[Bool.eq_iff_iff];unfold ZB QH;simp only[Bool.and_eq_true,beq_iff_eq];constructor
 ·rintro⟨⟨h1,h2⟩,h3⟩;exact⟨h1,h2,by omega⟩
 ·rintro⟨h1,h2,h3⟩;exact⟨⟨h1,h2⟩,by omega⟩
theorem Bt:Qf Tryz.prog uh:=Qh λx _=>QPJ x.1 x.2.1
def x8(t:(List Int) × Bool):aB:=⟨(.tp [(.r [TI] 0 0 ((t.1).length)),(bE t.2)]),[(.sl 3 [TI] (.dp 0 true []) t.1)],[],false,[]⟩
def Bu:aJ:=Qg 231 [(.c (.sl [TI])),(.c (.sl [TI]))] λx=>(none,x8 (Zb x.1 x.2.1))
def K0:aF:=⟨[ug,t9],true⟩
def XR:af :=
 (ag [(.ae [aw 19 .lss 18 17]),(.cond 19 .skip (.exit 0)),(.block 1 (ag [(.ae [ab 20 18,ab 8 20]),(.draw [ab 22 0,ab 23 8,aZ 24 22 23 [TI],an 25 24 1,ab 26 1,ab 27 8,aZ 28 26 27 [TI],an 29 28 1,aD 30 106 [25,29],ab 21 30,bF 31 21 0,bF 32 21 1,ab 9 31,ab 10 32] []),(.ae [ab 33 6,ab 34 9,aC 35 (.bW 3 [TI] [34]),aC 36 (.app 33 35 3 [TI]),ab 6 36]),(.ae [ab 37 7,ab 38 37,.bw 38 false [ab 39 10] 40 39,ab 7 40])])),(.ae [aw 41 .add 18 (ar 1),ab 18 41])])
def XS:List (Nat × Md):=[(0,.one .d),(1,.one .d),(6,.one .f),(7,.one .d),(17,.one .d),(18,.one .d)]
def XT:af :=
 (ag [(.ae [ab 42 6,ab 43 7,ab 4 42,ab 5 43]),.ret])
def QO8:af :=
 (ag [(.ae [ab 4 (.k (.n [TI])),ab 5 (a6 false)]),(ag [(.ae [ab 11 0,ab 12 1,aD 13 195 [11,12],bL 14 13]),(.cond 14 (ag [(.ae [ab 4 (.k (.n [TI])),ab 5 (a6 false)]),.ret]) .skip)]),(.ae [aC 15 (.bW 3 [TI] []),ab 6 15]),(.ae [ab 7 (a6 false)]),(ag [(.ae [ab 16 0,ba 17 16,ab 18 (ar 0)]),(.block 0 (.loop XS XR))]),XT])
def XU:List (bn × Md):=[(.t 4,.one (.p 3)),(.t 5,.one .d)]
def XV:Qb:=TQ 0 0 XU K
def QPR:Qb:=a0 (aN K0 0 XT (XV K)) (XV K)
def QIX:Qb:=a7 0 (QPR K)
def Bv(a:List Int)(b:List Int)(out:Bool)(x:Int)(v:List Int):Prop:=Loop K0 0 XS XR (QIX K) ⟨[(0,(bf [TI] a)),(1,(bf [TI] b)),(6,(.r [TI] 0 0 v.length)),(7,(bE out)),(17,(aL (a.length:Int))),(18,(aL x))],[(0,(.sl 3 [TI] (.dp 0 true []) v))],1⟩
theorem XW(a:List Int)(b:List Int)(out:Bool)(x:Int)(v:List Int) (h :
 (aI (decide (x<(a.length:Int))) (((0<=x/\Int.toNat x<a.length)/\(0<=x/\Int.toNat x<b.length))/\(((v.length=v.length\/v.length+1<=v.length)/\v.length+1<=ca)/\(Bv K a b (out||((Q4 (aq (0:Int) a (Int.toNat x)) (aq (0:Int) b (Int.toNat x))).2)) (aG (x+1)) (List.take (v.length+1) ((List.take v.length v)++([(Q4 (aq (0:Int) a (Int.toNat x)) (aq (0:Int) b (Int.toNat x))).1])))))) (K (x8 ((List.take v.length v),out))))):Bv K a b out x v :=
 Loop.of h
theorem QPV(a:List Int)(b:List Int):aK Tryz.prog 231 [(.c (.sl [TI]) a),(.c (.sl [TI]) b)] (x8 (Zb a b)):=by
 refine bz K0 QO8 XU 0 0 44 Bu (kc Bs (kc A5 kn)) (λK =>
 (aI (!(ZB a b)) (K (x8 (([]:List Int),false))) (Bv K a b false 0 ([]:List Int)))) (λhb=>?_)
 refine⟨λh=>au (by unfold Zb;rw[if_neg (by simpa using h)]),λh=>?_⟩;have hp:ZB a b=true:=by simpa using h
 have hl:=oX.1 hp;have h6:=(Yg.1 hl.1).1;refine Zf a (λr k=>∀(v:List Int)(s:Bool),v.length=k->(v++(vz Q4 r (b.drop k)).1,s||(vz Q4 r (b.drop k)).2)=(Zb a b)->Bv (λr'=>r'=x8 (Zb a b)) a b s k v) ?_ ?_ [] false rfl (by unfold Zb;rw[if_pos hp];simp)
 ·intro v s hv he;refine XW _ _ _ _ _ _ ⟨λh=>by simp at h,λ_=>au ?_⟩;rw[<- he];simp[vz]
 ·intro k x r hk aW hg ih v s hv he;obtain⟨y,q,hq⟩:=Ys (l:=b) (k:=k) (by omega);refine XW _ _ _ _ _ _ ⟨λ_=>?_,λh=>by simp at h;omega⟩;rw[Int.toNat_natCast,hg,ZJ hq,dP (by omega),Q8];refine⟨⟨⟨by omega,aW⟩,by omega,by omega⟩,room (by omega),ih _ _ (Ye hv) ?_⟩;rw[<- he,hq,vz,Zz hq];simp[Bool.or_assoc]
theorem XX:Qf Tryz.prog Bu:=Qh λx _=>QPV x.1 x.2.1
def Bw(t:(List Int) × Bool):aB:=f5 (.tp [(bf [TI] t.1),(bE t.2)])
def Bx:aJ:=Qg 225 [(.c (.sl [TI])),(.c (.sl [TI]))] λx=>(none,Bw (Zb x.1 x.2.1))
def K2:aF:=⟨[uh,sb],false⟩
def XY:af :=
 (ag [(ag [(.ae [ab 12 8,ab 13 0,ba 14 13,aw 15 .lss 12 14,ab 16 15,.bw 16 true [ab 17 0,ab 18 1,aD 19 191 [17,18]] 20 19]),(.cond 20 .skip (.exit 0))]),(.block 1 (ag [(.draw [ab 24 0,ab 25 8,aZ 26 24 25 [TI],an 27 26 1,ab 28 1,ab 29 8,aZ 30 28 29 [TI],an 31 30 1,aD 32 99 [27,31],ab 23 32,bF 33 23 0,bF 34 23 1,ab 9 33,ab 10 34] []),(.ae [ab 35 6,ab 36 9,aC 37 (.bW 3 [TI] [36]),aC 38 (.app 35 37 3 [TI]),ab 6 38]),(.ae [ab 39 7,ab 40 39,.bw 40 false [ab 41 10] 42 41,ab 7 42])])),(.ae [ab 21 8,aw 22 .add 21 (ar 1),ab 8 22])])
def XZ:List (Nat × Md):=[(0,.one .d),(1,.one .d),(6,.one .f),(7,.one .d),(8,.one .d)]
def X0:af :=
 (ag [(.ae [ab 43 6,ab 44 7,ab 4 43,ab 5 44]),.ret])
def QKd:af :=
 (ag [(.ae [ab 4 (.k (.n [TI])),ab 5 (a6 false)]),(.ae [aC 11 (.bW 3 [TI] []),ab 6 11]),(.ae [ab 7 (a6 false)]),(ag [(.ae [ab 8 (ar 0)]),(.block 0 (.loop XZ XY))]),X0])
def X1:List (bn × Md):=[(.t 4,.one .d),(.t 5,.one .d)]
def X2:Qb:=TQ 0 0 X1 K
def QTl:Qb:=a0 (aN K2 0 X0 (X2 K)) (X2 K)
def QW7:Qb:=a7 0 (QTl K)
def Bz(a:List Int)(b:List Int)(sat:Bool)(i:Int)(out:List Int):Prop:=Loop K2 0 XZ XY (QW7 K) ⟨[(0,(bf [TI] a)),(1,(bf [TI] b)),(6,(.r [TI] 0 0 out.length)),(7,(bE sat)),(8,(aL i))],[(0,(.sl 3 [TI] .ow out))],1⟩
theorem K3(a:List Int)(b:List Int)(sat:Bool)(i:Int)(out:List Int) (h :
 (aI ((decide (i<(a.length:Int)))&&(ZB a b)) (((0<=i/\Int.toNat i<a.length)/\(0<=i/\Int.toNat i<b.length))/\(((out.length=out.length\/out.length+1<=out.length)/\out.length+1<=ca)/\(Bz K a b (sat||((Q4 (aq (0:Int) a (Int.toNat i)) (aq (0:Int) b (Int.toNat i))).2)) (aG (i+1)) (List.take (out.length+1) ((List.take out.length out)++([(Q4 (aq (0:Int) a (Int.toNat i)) (aq (0:Int) b (Int.toNat i))).1])))))) (K (Bw ((List.take out.length (List.drop 0 out)),sat))))):Bz K a b sat i out :=
 Loop.of h
theorem QXW(a:List Int)(b:List Int):aK Tryz.prog 225 [(.c (.sl [TI]) a),(.c (.sl [TI]) b)] (Bw (Zb a b)):=by
 refine bz K2 QKd X1 0 0 45 Bx (kc Bt (kc xM kn)) (λK =>
 (Bz K a b false 0 ([]:List Int))) (λhb=>?_)
 by_cases hp:ZB a b=true;rotate_left
 ·refine K3 _ _ _ _ _ _ ⟨λh=>by simp[hp]at h,λ_=>au (by unfold Zb;rw[if_neg hp];rfl)⟩
 have hl:=oX.1 hp;have h6:=(Yg.1 hl.1).1;refine Zf a (λr k=>∀(v:List Int)(s:Bool),v.length=k->(v++(vz Q4 r (b.drop k)).1,s||(vz Q4 r (b.drop k)).2)=(Zb a b)->Bz (λr'=>r'=Bw (Zb a b)) a b s k v) ?_ ?_ [] false rfl (by unfold Zb;rw[if_pos hp];simp)
 ·intro v s hv he;refine K3 _ _ _ _ _ _ ⟨λh=>by simp at h,λ_=>au ?_⟩;rw[<- he];simp[vz]
 ·intro k x r hk aW hg ih v s hv he;obtain⟨y,q,hq⟩:=Ys (l:=b) (k:=k) (by omega);refine K3 _ _ _ _ _ _ ⟨λ_=>?_,λh=>by simp[hp]at h;omega⟩;rw[Int.toNat_natCast,hg,ZJ hq,dP (by omega),Q8];refine⟨⟨⟨by omega,aW⟩,by omega,by omega⟩,room (by omega),ih _ _ (Ye hv) ?_⟩;rw[<- he,hq,vz,Zz hq];simp[Bool.or_assoc]
theorem X3:Qf Tryz.prog Bx:=Qh λx _=>QXW x.1 x.2.1
def x9(t:(List Int) × Bool):aB:=⟨(.tp [(.r [TI] 0 0 ((t.1).length)),(bE t.2)]),[(.sl 3 [TI] (.dp 0 true []) t.1)],[],false,[]⟩
def BA:aJ:=Qg 111 [(.c (.sl [TI])),(.c (.sl [TI]))] λx=>(none,x9 (QY x.1 x.2.1))
def K4:aF:=⟨[ug,I7],true⟩
def X4:af :=
 (ag [(.ae [aw 19 .lss 18 17]),(.cond 19 .skip (.exit 0)),(.block 1 (ag [(.ae [ab 20 18,ab 8 20]),(.draw [ab 22 0,ab 23 8,aZ 24 22 23 [TI],an 25 24 1,ab 26 1,ab 27 8,aZ 28 26 27 [TI],an 29 28 1,aD 30 196 [25,29],ab 21 30,bF 31 21 0,bF 32 21 1,ab 9 31,ab 10 32] []),(.ae [ab 33 6,ab 34 9,aC 35 (.bW 3 [TI] [34]),aC 36 (.app 33 35 3 [TI]),ab 6 36]),(.ae [ab 37 7,ab 38 37,.bw 38 false [ab 39 10] 40 39,ab 7 40])])),(.ae [aw 41 .add 18 (ar 1),ab 18 41])])
def X5:List (Nat × Md):=[(0,.one .d),(1,.one .d),(6,.one .f),(7,.one .d),(17,.one .d),(18,.one .d)]
def X6:af :=
 (ag [(.ae [ab 42 6,ab 43 7,ab 4 42,ab 5 43]),.ret])
def QT7:af :=
 (ag [(.ae [ab 4 (.k (.n [TI])),ab 5 (a6 false)]),(ag [(.ae [ab 11 0,ab 12 1,aD 13 195 [11,12],bL 14 13]),(.cond 14 (ag [(.ae [ab 4 (.k (.n [TI])),ab 5 (a6 false)]),.ret]) .skip)]),(.ae [aC 15 (.bW 3 [TI] []),ab 6 15]),(.ae [ab 7 (a6 false)]),(ag [(.ae [ab 16 0,ba 17 16,ab 18 (ar 0)]),(.block 0 (.loop X5 X4))]),X6])
def X7:List (bn × Md):=[(.t 4,.one (.p 3)),(.t 5,.one .d)]
def X8:Qb:=TQ 0 0 X7 K
def QM7:Qb:=a0 (aN K4 0 X6 (X8 K)) (X8 K)
def QRk:Qb:=a7 0 (QM7 K)
def BB(a:List Int)(b:List Int)(out:Bool)(x:Int)(v:List Int):Prop:=Loop K4 0 X5 X4 (QRk K) ⟨[(0,(bf [TI] a)),(1,(bf [TI] b)),(6,(.r [TI] 0 0 v.length)),(7,(bE out)),(17,(aL (a.length:Int))),(18,(aL x))],[(0,(.sl 3 [TI] (.dp 0 true []) v))],1⟩
theorem X9(a:List Int)(b:List Int)(out:Bool)(x:Int)(v:List Int) (h :
 (aI (decide (x<(a.length:Int))) (((0<=x/\Int.toNat x<a.length)/\(0<=x/\Int.toNat x<b.length))/\(((v.length=v.length\/v.length+1<=v.length)/\v.length+1<=ca)/\(BB K a b (out||((Jc (aq (0:Int) a (Int.toNat x)) (aq (0:Int) b (Int.toNat x))).2)) (aG (x+1)) (List.take (v.length+1) ((List.take v.length v)++([(Jc (aq (0:Int) a (Int.toNat x)) (aq (0:Int) b (Int.toNat x))).1])))))) (K (x9 ((List.take v.length v),out))))):BB K a b out x v :=
 Loop.of h
theorem QRd(a:List Int)(b:List Int):aK Tryz.prog 111 [(.c (.sl [TI]) a),(.c (.sl [TI]) b)] (x9 (QY a b)):=by
 refine bz K4 QT7 X7 0 0 44 BA (kc Bs (kc QGt kn)) (λK =>
 (aI (!(ZB a b)) (K (x9 (([]:List Int),false))) (BB K a b false 0 ([]:List Int)))) (λhb=>?_)
 refine⟨λh=>au (by unfold QY;rw[if_neg (by simpa using h)]),λh=>?_⟩;have hp:ZB a b=true:=by simpa using h
 have hl:=oX.1 hp;have h6:=(Yg.1 hl.1).1;refine Zf a (λr k=>∀(v:List Int)(s:Bool),v.length=k->(v++(vz Jc r (b.drop k)).1,s||(vz Jc r (b.drop k)).2)=(QY a b)->BB (λr'=>r'=x9 (QY a b)) a b s k v) ?_ ?_ [] false rfl (by unfold QY;rw[if_pos hp];simp)
 ·intro v s hv he;refine X9 _ _ _ _ _ _ ⟨λh=>by simp at h,λ_=>au ?_⟩;rw[<- he];simp[vz]
 ·intro k x r hk aW hg ih v s hv he;obtain⟨y,q,hq⟩:=Ys (l:=b) (k:=k) (by omega);refine X9 _ _ _ _ _ _ ⟨λ_=>?_,λh=>by simp at h;omega⟩;rw[Int.toNat_natCast,hg,ZJ hq,dP (by omega),Q8];refine⟨⟨⟨by omega,aW⟩,by omega,by omega⟩,room (by omega),ih _ _ (Ye hv) ?_⟩;rw[<- he,hq,vz,Zz hq];simp[Bool.or_assoc]
theorem Qy5:Qf Tryz.prog BA:=Qh λx _=>QRd x.1 x.2.1
def BC(t:(List Int) × Bool):aB:=f5 (.tp [(bf [TI] t.1),(bE t.2)])
def BD:aJ:=Qg 107 [(.c (.sl [TI])),(.c (.sl [TI]))] λx=>(none,BC (QY x.1 x.2.1))
def K5:aF:=⟨[uh,I9],false⟩
def Qqy:af :=
 (ag [(ag [(.ae [ab 12 8,ab 13 0,ba 14 13,aw 15 .lss 12 14,ab 16 15,.bw 16 true [ab 17 0,ab 18 1,aD 19 191 [17,18]] 20 19]),(.cond 20 .skip (.exit 0))]),(.block 1 (ag [(.draw [ab 24 0,ab 25 8,aZ 26 24 25 [TI],an 27 26 1,ab 28 1,ab 29 8,aZ 30 28 29 [TI],an 31 30 1,aD 32 192 [27,31],ab 23 32,bF 33 23 0,bF 34 23 1,ab 9 33,ab 10 34] []),(.ae [ab 35 6,ab 36 9,aC 37 (.bW 3 [TI] [36]),aC 38 (.app 35 37 3 [TI]),ab 6 38]),(.ae [ab 39 7,ab 40 39,.bw 40 false [ab 41 10] 42 41,ab 7 42])])),(.ae [ab 21 8,aw 22 .add 21 (ar 1),ab 8 22])])
def Qvf:List (Nat × Md):=[(0,.one .d),(1,.one .d),(6,.one .f),(7,.one .d),(8,.one .d)]
def QtU:af :=
 (ag [(.ae [ab 43 6,ab 44 7,ab 4 43,ab 5 44]),.ret])
def QT0:af :=
 (ag [(.ae [ab 4 (.k (.n [TI])),ab 5 (a6 false)]),(.ae [aC 11 (.bW 3 [TI] []),ab 6 11]),(.ae [ab 7 (a6 false)]),(ag [(.ae [ab 8 (ar 0)]),(.block 0 (.loop Qvf Qqy))]),QtU])
def QAO:List (bn × Md):=[(.t 4,.one .d),(.t 5,.one .d)]
def QqY:Qb:=TQ 0 0 QAO K
def QWk:Qb:=a0 (aN K5 0 QtU (QqY K)) (QqY K)
def QQ3:Qb:=a7 0 (QWk K)
def BE(a:List Int)(b:List Int)(sat:Bool)(i:Int)(out:List Int):Prop:=Loop K5 0 Qvf Qqy (QQ3 K) ⟨[(0,(bf [TI] a)),(1,(bf [TI] b)),(6,(.r [TI] 0 0 out.length)),(7,(bE sat)),(8,(aL i))],[(0,(.sl 3 [TI] .ow out))],1⟩
theorem K6(a:List Int)(b:List Int)(sat:Bool)(i:Int)(out:List Int) (h :
 (aI ((decide (i<(a.length:Int)))&&(ZB a b)) (((0<=i/\Int.toNat i<a.length)/\(0<=i/\Int.toNat i<b.length))/\(((out.length=out.length\/out.length+1<=out.length)/\out.length+1<=ca)/\(BE K a b (sat||((Jc (aq (0:Int) a (Int.toNat i)) (aq (0:Int) b (Int.toNat i))).2)) (aG (i+1)) (List.take (out.length+1) ((List.take out.length out)++([(Jc (aq (0:Int) a (Int.toNat i)) (aq (0:Int) b (Int.toNat i))).1])))))) (K (BC ((List.take out.length (List.drop 0 out)),sat))))):BE K a b sat i out :=
 Loop.of h
theorem QXf(a:List Int)(b:List Int):aK Tryz.prog 107 [(.c (.sl [TI]) a),(.c (.sl [TI]) b)] (BC (QY a b)):=by
 refine bz K5 QT0 QAO 0 0 45 BD (kc Bt (kc QLb kn)) (λK =>
 (BE K a b false 0 ([]:List Int))) (λhb=>?_)
 by_cases hp:ZB a b=true;rotate_left
 ·refine K6 _ _ _ _ _ _ ⟨λh=>by simp[hp]at h,λ_=>au (by unfold QY;rw[if_neg hp];rfl)⟩
 have hl:=oX.1 hp;have h6:=(Yg.1 hl.1).1;refine Zf a (λr k=>∀(v:List Int)(s:Bool),v.length=k->(v++(vz Jc r (b.drop k)).1,s||(vz Jc r (b.drop k)).2)=(QY a b)->BE (λr'=>r'=BC (QY a b)) a b s k v) ?_ ?_ [] false rfl (by unfold QY;rw[if_pos hp];simp)
 ·intro v s hv he;refine K6 _ _ _ _ _ _ ⟨λh=>by simp at h,λ_=>au ?_⟩;rw[<- he];simp[vz]
 ·intro k x r hk aW hg ih v s hv he;obtain⟨y,q,hq⟩:=Ys (l:=b) (k:=k) (by omega);refine K6 _ _ _ _ _ _ ⟨λ_=>?_,λh=>by simp[hp]at h;omega⟩;rw[Int.toNat_natCast,hg,ZJ hq,dP (by omega),Q8];refine⟨⟨⟨by omega,aW⟩,by omega,by omega⟩,room (by omega),ih _ _ (Ye hv) ?_⟩;rw[<- he,hq,vz,Zz hq];simp[Bool.or_assoc]
theorem QqQ:Qf Tryz.prog BD:=Qh λx _=>QXf x.1 x.2.1
def ya(t:(List Int) × Bool):aB:=⟨(.tp [(.r [TI] 0 0 ((t.1).length)),(bE t.2)]),[(.sl 3 [TI] (.dp 0 true []) t.1)],[],false,[]⟩
def BF:aJ:=Qg 232 [(.c TI),(.c (.sl [TI]))] λx=>(none,ya (Zy x.1 x.2.1))
def K7:aF:=⟨[xB,J4,xN],true⟩
def Qqo:af :=
 (ag [(.ae [aw 23 .lss 22 21]),(.cond 23 .skip (.exit 0)),(.block 1 (ag [(.ae [ab 24 22,ab 8 24]),(.ae [ab 26 0,ab 27 1,ab 28 8,aZ 29 27 28 [TI],an 30 29 1,aD 31 239 [26,30],ab 25 31,bF 32 25 0,bF 33 25 1,ab 9 32,ab 10 33]),(.ae [ab 34 6,ab 35 9,aC 36 (.bW 3 [TI] [35]),aC 37 (.app 34 36 3 [TI]),ab 6 37]),(.ae [ab 38 7,ab 39 38,.bw 39 false [ab 40 10] 41 40,ab 7 41])])),(.ae [aw 42 .add 22 (ar 1),ab 22 42])])
def Qx7:List (Nat × Md):=[(0,.one .d),(1,.one .d),(6,.one .f),(7,.one .d),(21,.one .d),(22,.one .d)]
def QuZ:af :=
 (ag [(.ae [ab 43 6,ab 44 7,ab 4 43,ab 5 44]),.ret])
def QKO:af :=
 (ag [(.ae [ab 4 (.k (.n [TI])),ab 5 (a6 false)]),(ag [(.ae [ab 11 0,aD 12 240 [11],bL 13 12,ab 14 13,.bw 14 false [ab 15 1,aD 16 187 [15],bL 17 16] 18 17]),(.cond 18 (ag [(.ae [ab 4 (.k (.n [TI])),ab 5 (a6 false)]),.ret]) .skip)]),(.ae [aC 19 (.bW 3 [TI] []),ab 6 19]),(.ae [ab 7 (a6 false)]),(ag [(.ae [ab 20 1,ba 21 20,ab 22 (ar 0)]),(.block 0 (.loop Qx7 Qqo))]),QuZ])
def QAd:List (bn × Md):=[(.t 4,.one (.p 3)),(.t 5,.one .d)]
def QsC:Qb:=TQ 0 0 QAd K
def QRB:Qb:=a0 (aN K7 0 QuZ (QsC K)) (QsC K)
def QQC:Qb:=a7 0 (QRB K)
def BG(c:Int)(a:List Int)(out:Bool)(x:Int)(v:List Int):Prop:=Loop K7 0 Qx7 Qqo (QQC K) ⟨[(0,(aL c)),(1,(bf [TI] a)),(6,(.r [TI] 0 0 v.length)),(7,(bE out)),(21,(aL (a.length:Int))),(22,(aL x))],[(0,(.sl 3 [TI] (.dp 0 true []) v))],1⟩
theorem Qwz(c:Int)(a:List Int)(out:Bool)(x:Int)(v:List Int) (h :
 (aI (decide (x<(a.length:Int))) ((0<=x/\Int.toNat x<a.length)/\(((v.length=v.length\/v.length+1<=v.length)/\v.length+1<=ca)/\(BG K c a (out||((Q9 c (aq (0:Int) a (Int.toNat x))).2)) (aG (x+1)) (List.take (v.length+1) ((List.take v.length v)++([(Q9 c (aq (0:Int) a (Int.toNat x))).1])))))) (K (ya ((List.take v.length v),out))))):BG K c a out x v :=
 Loop.of h
theorem QWE(c:Int)(a:List Int):aK Tryz.prog 232 [(.c TI c),(.c (.sl [TI]) a)] (ya (Zy c a)):=by
 refine bz K7 QKO QAd 0 0 45 BF (kc It (kc r8 (kc Kb kn))) (λK =>
 (aI ((!(Zv c))||(!(QK a))) (K (ya (([]:List Int),false))) (BG K c a false 0 ([]:List Int)))) (λhb=>?_)
 refine⟨λh=>au (by unfold Zy;rw[if_neg (by intro h2;simp at h2;simp[h2]at h)]),λh=>?_⟩;have hp:Zv c=true/\QK a=true:=by simpa using h
 have h6:=(Yg.1 hp.2).1;refine Zf a (λr k=>∀(v:List Int)(s:Bool),v.length=k->(v++(v1 (Q9 c) r).1,s||(v1 (Q9 c) r).2)=(Zy c a)->BG (λr'=>r'=ya (Zy c a)) c a s k v) ?_ ?_ [] false rfl (by unfold Zy;rw[if_pos (by simp[hp])];simp)
 ·intro v s hv he;refine Qwz _ _ _ _ _ _ ⟨λh=>by simp at h,λ_=>au ?_⟩;rw[<- he];simp[v1]
 ·intro k x r hk aW hg ih v s hv he;refine Qwz _ _ _ _ _ _ ⟨λ_=>?_,λh=>by simp at h;omega⟩;rw[Int.toNat_natCast,hg,dP (by omega),Q8];refine⟨⟨by omega,aW⟩,room (by omega),ih _ _ (Ye hv) ?_⟩;rw[<- he,v1];simp[Bool.or_assoc]
theorem QDB:Qf Tryz.prog BF:=Qh λx _=>QWE x.1 x.2.1
def BH(t:(List Int) × Bool):aB:=f5 (.tp [(bf [TI] t.1),(bE t.2)])
def BI:aJ:=Qg 227 [(.c TI),(.c (.sl [TI]))] λx=>(none,BH (Zy x.1 x.2.1))
def K8:aF:=⟨[Yv,tX,xO],false⟩
def QyC:af :=
 (ag [(ag [(.ae [ab 12 8,ab 13 1,ba 14 13,aw 15 .lss 12 14,ab 16 15,.bw 16 true [ab 17 1,aD 18 97 [17]] 19 18,ab 20 19,.bw 20 true [ab 21 0,aD 22 183 [21]] 23 22]),(.cond 23 .skip (.exit 0))]),(.block 1 (ag [(.ae [ab 27 0,ab 28 1,ab 29 8,aZ 30 28 29 [TI],an 31 30 1,aD 32 237 [27,31],ab 26 32,bF 33 26 0,bF 34 26 1,ab 9 33,ab 10 34]),(.ae [ab 35 6,ab 36 9,aC 37 (.bW 3 [TI] [36]),aC 38 (.app 35 37 3 [TI]),ab 6 38]),(.ae [ab 39 7,ab 40 39,.bw 40 false [ab 41 10] 42 41,ab 7 42])])),(.ae [ab 24 8,aw 25 .add 24 (ar 1),ab 8 25])])
def Qyz:List (Nat × Md):=[(0,.one .d),(1,.one .d),(6,.one .f),(7,.one .d),(8,.one .d)]
def Qwe:af :=
 (ag [(.ae [ab 43 6,ab 44 7,ab 4 43,ab 5 44]),.ret])
def QLq:af :=
 (ag [(.ae [ab 4 (.k (.n [TI])),ab 5 (a6 false)]),(.ae [aC 11 (.bW 3 [TI] []),ab 6 11]),(.ae [ab 7 (a6 false)]),(ag [(.ae [ab 8 (ar 0)]),(.block 0 (.loop Qyz QyC))]),Qwe])
def Qqv:List (bn × Md):=[(.t 4,.one .d),(.t 5,.one .d)]
def Qwi:Qb:=TQ 0 0 Qqv K
def QXb:Qb:=a0 (aN K8 0 Qwe (Qwi K)) (Qwi K)
def QTP:Qb:=a7 0 (QXb K)
def BJ(c:Int)(a:List Int)(sat:Bool)(i:Int)(out:List Int):Prop:=Loop K8 0 Qyz QyC (QTP K) ⟨[(0,(aL c)),(1,(bf [TI] a)),(6,(.r [TI] 0 0 out.length)),(7,(bE sat)),(8,(aL i))],[(0,(.sl 3 [TI] .ow out))],1⟩
theorem K9(c:Int)(a:List Int)(sat:Bool)(i:Int)(out:List Int) (h :
 (aI (((decide (i<(a.length:Int)))&&(QK a))&&(Zv c)) ((0<=i/\Int.toNat i<a.length)/\(((out.length=out.length\/out.length+1<=out.length)/\out.length+1<=ca)/\(BJ K c a (sat||((Q9 c (aq (0:Int) a (Int.toNat i))).2)) (aG (i+1)) (List.take (out.length+1) ((List.take out.length out)++([(Q9 c (aq (0:Int) a (Int.toNat i))).1])))))) (K (BH ((List.take out.length (List.drop 0 out)),sat))))):BJ K c a sat i out :=
 Loop.of h
theorem QOG(c:Int)(a:List Int):aK Tryz.prog 227 [(.c TI c),(.c (.sl [TI]) a)] (BH (Zy c a)):=by
 refine bz K8 QLq Qqv 0 0 45 BI (kc YL (kc AW (kc Kd kn))) (λK =>
 (BJ K c a false 0 ([]:List Int))) (λhb=>?_)
 by_cases hp:Zv c=true/\QK a=true;rotate_left
 ·refine K9 _ _ _ _ _ _ ⟨λh=>absurd (by simp at h;exact⟨h.2,h.1.2⟩) hp,λ_=>au (by unfold Zy;rw[if_neg (by simpa using hp)];rfl)⟩
 have h6:=(Yg.1 hp.2).1;refine Zf a (λr k=>∀(v:List Int)(s:Bool),v.length=k->(v++(v1 (Q9 c) r).1,s||(v1 (Q9 c) r).2)=(Zy c a)->BJ (λr'=>r'=BH (Zy c a)) c a s k v) ?_ ?_ [] false rfl (by unfold Zy;rw[if_pos (by simp[hp])];simp)
 ·intro v s hv he;refine K9 _ _ _ _ _ _ ⟨λh=>by simp at h,λ_=>au ?_⟩;rw[<- he];simp[v1]
 ·intro k x r hk aW hg ih v s hv he;refine K9 _ _ _ _ _ _ ⟨λ_=>?_,λh=>by simp[hp]at h;omega⟩;rw[Int.toNat_natCast,hg,dP (by omega),Q8];refine⟨⟨by omega,aW⟩,room (by omega),ih _ _ (Ye hv) ?_⟩;rw[<- he,v1];simp[Bool.or_assoc]
theorem Qxj:Qf Tryz.prog BI:=Qh λx _=>QOG x.1 x.2.1
def yc(t:Int × Bool):aB:=b6 (.tp [(aL t.1),(bE t.2)])
def yd:aJ:=Qg 188 [(.c (.sl [TI])),(.c (.sl [TI]))] λx=>(none,yc (Q1 x.1 x.2.1))
def La:aF:=⟨[ug,xN,t9],false⟩
def QvG:af :=
 (ag [(.ae [aw 20 .lss 19 18]),(.cond 20 .skip (.exit 0)),(.block 1 (ag [(.ae [ab 21 19,ab 8 21]),(.draw [ab 23 0,ab 24 8,aZ 25 23 24 [TI],an 26 25 1,ab 27 1,ab 28 8,aZ 29 27 28 [TI],an 30 29 1,aD 31 239 [26,30],ab 22 31,bF 32 22 0,bF 33 22 1,ab 9 32,ab 10 33] []),(.ae [ab 35 6,ab 36 9,aD 37 106 [35,36],ab 34 37,bF 38 34 0,bF 39 34 1,ab 11 38,ab 12 39]),(.ae [ab 40 11,ab 6 40]),(.ae [ab 41 7,ab 42 41,.bw 42 false [ab 43 10] 44 43,ab 45 44,.bw 45 false [ab 46 12] 47 46,ab 7 47])])),(.ae [aw 48 .add 19 (ar 1),ab 19 48])])
def Qzy:List (Nat × Md):=eV [0,1,6,7,18,19]
def Qz7:af :=
 (ag [(.ae [ab 49 6,ab 50 7,ab 4 49,ab 5 50]),.ret])
def QMG:af :=
 (ag [(.ae [ab 4 (ar 0),ab 5 (a6 false)]),(ag [(.ae [ab 13 0,ab 14 1,aD 15 195 [13,14],bL 16 15]),(.cond 16 (ag [(.ae [ab 4 (ar 0),ab 5 (a6 false)]),.ret]) .skip)]),(.ae [ab 6 (ar 0)]),(.ae [ab 7 (a6 false)]),(ag [(.ae [ab 17 0,ba 18 17,ab 19 (ar 0)]),(.block 0 (.loop Qzy QvG))]),Qz7])
def QyF:List (bn × Md):=[(.t 4,.one .d),(.t 5,.one .d)]
def QrV:Qb:=TQ 0 0 QyF K
def QQW:Qb:=a0 (aN La 0 Qz7 (QrV K)) (QrV K)
def QTB:Qb:=a7 0 (QQW K)
def BK(a:List Int)(b:List Int)(sum:Int)(out:Bool)(x:Int):Prop:=Loop La 0 Qzy QvG (QTB K) ⟨[(0,(bf [TI] a)),(1,(bf [TI] b)),(6,(aL sum)),(7,(bE out)),(18,(aL (a.length:Int))),(19,(aL x))],[],0⟩
theorem QA8(a:List Int)(b:List Int)(sum:Int)(out:Bool)(x:Int) (h :
 (aI (decide (x<(a.length:Int))) (((0<=x/\Int.toNat x<a.length)/\(0<=x/\Int.toNat x<b.length))/\(BK K a b ((Q4 sum ((Q9 (aq (0:Int) a (Int.toNat x)) (aq (0:Int) b (Int.toNat x))).1)).1) ((out||((Q9 (aq (0:Int) a (Int.toNat x)) (aq (0:Int) b (Int.toNat x))).2))||((Q4 sum ((Q9 (aq (0:Int) a (Int.toNat x)) (aq (0:Int) b (Int.toNat x))).1)).2)) (aG (x+1)))) (K (yc (sum,out))))):BK K a b sum out x :=
 Loop.of h
theorem QOn(a:List Int)(b:List Int):aK Tryz.prog 188 [(.c (.sl [TI]) a),(.c (.sl [TI]) b)] (yc (Q1 a b)):=by
 refine bz La QMG QyF 0 0 51 yd (kc Bs (kc Kb (kc A5 kn))) (λK =>
 (aI (!(ZB a b)) (K (yc ((0:Int),false))) (BK K a b 0 false 0))) (λhb=>?_)
 refine⟨λh=>au (by unfold Q1;rw[if_neg (by simpa using h)]),λh=>?_⟩;have hp:ZB a b=true:=by simpa using h
 have hl:=oX.1 hp;have h6:=(Yg.1 hl.1).1;refine Zf a (λr k=>∀(z:Int)(s:Bool),((Yl r (b.drop k) z).1,s||(Yl r (b.drop k) z).2)=(Q1 a b)->BK (λr'=>r'=yc (Q1 a b)) a b z s k) ?_ ?_ 0 false (by unfold Q1;rw[if_pos hp];simp)
 ·intro z s he;refine QA8 _ _ _ _ _ _ ⟨λh=>by simp at h,λ_=>au ?_⟩;rw[<- he];simp[Yl]
 ·intro k x r hk aW hg ih z s he;obtain⟨y,q,hq⟩:=Ys (l:=b) (k:=k) (by omega);refine QA8 _ _ _ _ _ _ ⟨λ_=>?_,λh=>by simp at h;omega⟩;rw[Int.toNat_natCast,hg,ZJ hq,dP (by omega)];refine⟨⟨⟨by omega,aW⟩,by omega,by omega⟩,ih _ _ ?_⟩;rw[<- he,hq,Yl,Zz hq];simp[Bool.or_assoc]
theorem Lb:Qf Tryz.prog yd:=Qh λx _=>QOn x.1 x.2.1
def BL(t:Int × Bool):aB:=b6 (.tp [(aL t.1),(bE t.2)])
def ui:aJ:=Qg 184 [(.c (.sl [TI])),(.c (.sl [TI]))] λx=>(none,BL (Q1 x.1 x.2.1))
def Lc:aF:=⟨[uh,xO,sb],false⟩
def Qzv:af :=
 (ag [(ag [(.ae [ab 13 8,ab 14 0,ba 15 14,aw 16 .lss 13 15,ab 17 16,.bw 17 true [ab 18 0,ab 19 1,aD 20 191 [18,19]] 21 20]),(.cond 21 .skip (.exit 0))]),(.block 1 (ag [(.draw [ab 25 0,ab 26 8,aZ 27 25 26 [TI],an 28 27 1,ab 29 1,ab 30 8,aZ 31 29 30 [TI],an 32 31 1,aD 33 237 [28,32],ab 24 33,bF 34 24 0,bF 35 24 1,ab 9 34,ab 10 35] []),(.ae [ab 37 6,ab 38 9,aD 39 99 [37,38],ab 36 39,bF 40 36 0,bF 41 36 1,ab 11 40,ab 12 41]),(.ae [ab 42 11,ab 6 42]),(.ae [ab 43 7,ab 44 43,.bw 44 false [ab 45 10] 46 45,ab 47 46,.bw 47 false [ab 48 12] 49 48,ab 7 49])])),(.ae [ab 22 8,aw 23 .add 22 (ar 1),ab 8 23])])
def QEq:List (Nat × Md):=eV [0,1,6,7,8]
def Qs8:af :=
 (ag [(.ae [ab 50 6,ab 51 7,ab 4 50,ab 5 51]),.ret])
def QL2:af :=
 (ag [(.ae [ab 4 (ar 0),ab 5 (a6 false)]),(.ae [ab 6 (ar 0)]),(.ae [ab 7 (a6 false)]),(ag [(.ae [ab 8 (ar 0)]),(.block 0 (.loop QEq Qzv))]),Qs8])
def Qwk:List (bn × Md):=[(.t 4,.one .d),(.t 5,.one .d)]
def QrC:Qb:=TQ 0 0 Qwk K
def QKW:Qb:=a0 (aN Lc 0 Qs8 (QrC K)) (QrC K)
def QJk:Qb:=a7 0 (QKW K)
def BM(a:List Int)(b:List Int)(sum:Int)(sat:Bool)(i:Int):Prop:=Loop Lc 0 QEq Qzv (QJk K) ⟨[(0,(bf [TI] a)),(1,(bf [TI] b)),(6,(aL sum)),(7,(bE sat)),(8,(aL i))],[],0⟩
theorem Ld(a:List Int)(b:List Int)(sum:Int)(sat:Bool)(i:Int) (h :
 (aI ((decide (i<(a.length:Int)))&&(ZB a b)) (((0<=i/\Int.toNat i<a.length)/\(0<=i/\Int.toNat i<b.length))/\(BM K a b ((Q4 sum ((Q9 (aq (0:Int) a (Int.toNat i)) (aq (0:Int) b (Int.toNat i))).1)).1) ((sat||((Q9 (aq (0:Int) a (Int.toNat i)) (aq (0:Int) b (Int.toNat i))).2))||((Q4 sum ((Q9 (aq (0:Int) a (Int.toNat i)) (aq (0:Int) b (Int.toNat i))).1)).2)) (aG (i+1)))) (K (BL (sum,sat))))):BM K a b sum sat i :=
 Loop.of h
theorem QUl(a:List Int)(b:List Int):aK Tryz.prog 184 [(.c (.sl [TI]) a),(.c (.sl [TI]) b)] (BL (Q1 a b)):=by
 refine bz Lc QL2 Qwk 0 0 52 ui (kc Bt (kc Kd (kc xM kn))) (λK =>
 (BM K a b 0 false 0)) (λhb=>?_)
 by_cases hp:ZB a b=true;rotate_left
 ·refine Ld _ _ _ _ _ _ ⟨λh=>by simp[hp]at h,λ_=>au (by unfold Q1;rw[if_neg hp])⟩
 have hl:=oX.1 hp;have h6:=(Yg.1 hl.1).1;refine Zf a (λr k=>∀(z:Int)(s:Bool),((Yl r (b.drop k) z).1,s||(Yl r (b.drop k) z).2)=(Q1 a b)->BM (λr'=>r'=BL (Q1 a b)) a b z s k) ?_ ?_ 0 false (by unfold Q1;rw[if_pos hp];simp)
 ·intro z s he;refine Ld _ _ _ _ _ _ ⟨λh=>by simp at h,λ_=>au ?_⟩;rw[<- he];simp[Yl]
 ·intro k x r hk aW hg ih z s he;obtain⟨y,q,hq⟩:=Ys (l:=b) (k:=k) (by omega);refine Ld _ _ _ _ _ _ ⟨λ_=>?_,λh=>by simp[hp]at h;omega⟩;rw[Int.toNat_natCast,hg,ZJ hq,dP (by omega)];refine⟨⟨⟨by omega,aW⟩,by omega,by omega⟩,ih _ _ ?_⟩;rw[<- he,hq,Yl,Zz hq];simp[Bool.or_assoc]
theorem BN:Qf Tryz.prog ui:=Qh λx _=>QUl x.1 x.2.1
def ye(t:(List Int)):aB:=⟨(.r [TI] 0 0 t.length),[(.sl 3 [TI] (.dp 0 true []) t)],[],false,[]⟩
def Le:aJ:=Qg 233 [(.c (.sl [TI]))] λx=>(none,ye (Yd x.1))
def Lf:aF:=⟨[J4,Kf],true⟩
def Qrz:af :=
 (ag [(.ae [aw 13 .lss 12 11]),(.cond 13 .skip (.exit 0)),(.block 1 (ag [(.ae [aZ 14 10 12 [TI],an 15 14 1,ab 5 15]),(.ae [ab 16 3,ab 17 5,aD 18 259 [17],aC 19 (.bW 3 [TI] [18]),aC 20 (.app 16 19 3 [TI]),ab 3 20])])),(.ae [aw 21 .add 12 (ar 1),ab 12 21])])
def QBZ:List (Nat × Md):=[(3,.one .f),(10,.one .d),(11,.one .d),(12,.one .d)]
def QvI:af :=
 (ag [(.ae [ab 22 3,ab 2 22]),.ret])
def QSv:af :=
 (ag [(.ae [ab 2 (.k (.n [TI]))]),(ag [(.ae [ab 6 0,aD 7 187 [6],bL 8 7]),(.cond 8 (ag [(.ae [ab 2 (.k (.n [TI]))]),.ret]) .skip)]),(.ae [aC 9 (.bW 3 [TI] []),ab 3 9]),(ag [(.ae [ab 10 0,ba 11 10,ab 12 (ar 0)]),(.block 0 (.loop QBZ Qrz))]),QvI])
def Qtl:List (bn × Md):=[(.t 2,.one (.p 3))]
def Qz8:Qb:=TQ 0 0 Qtl K
def QVD:Qb:=a0 (aN Lf 0 QvI (Qz8 K)) (Qz8 K)
def QPx:Qb:=a7 0 (QVD K)
def BO(a:List Int)(x:Int)(v:List Int):Prop:=Loop Lf 0 QBZ Qrz (QPx K) ⟨[(3,(.r [TI] 0 0 v.length)),(10,(bf [TI] a)),(11,(aL (a.length:Int))),(12,(aL x))],[(0,(.sl 3 [TI] (.dp 0 true []) v))],1⟩
theorem QwM(a:List Int)(x:Int)(v:List Int) (h :
 (aI (decide (x<(a.length:Int))) ((0<=x/\Int.toNat x<a.length)/\(((v.length=v.length\/v.length+1<=v.length)/\v.length+1<=ca)/\(BO K a (aG (x+1)) (List.take (v.length+1) ((List.take v.length v)++([(J2 (aq (0:Int) a (Int.toNat x)))])))))) (K (ye (List.take v.length v))))):BO K a x v :=
 Loop.of h
theorem QRh(a:List Int):aK Tryz.prog 233 [(.c (.sl [TI]) a)] (ye (Yd a)):=by
 refine bz Lf QSv Qtl 0 0 23 Le (kc r8 (kc QNI kn)) (λK =>
 (aI (!(QK a)) (K (ye ([]:List Int))) (BO K a 0 ([]:List Int)))) (λhb=>?_)
 refine⟨λh=>au (by unfold Yd;rw[if_neg (by simpa using h)]),λh=>?_⟩;have hp:QK a=true:=by simpa using h
 have h6:=(Yg.1 hp).1;refine Zf a (λr k=>∀(v:List Int),v.length=k->v++r.map J2=(Yd a)->BO (λr'=>r'=ye (Yd a)) a k v) ?_ ?_ [] rfl (by unfold Yd;rw[if_pos hp];simp)
 ·intro v hv he;refine QwM _ _ _ _ ⟨λh=>by simp at h,λ_=>au ?_⟩;rw[<- he];simp
 ·intro k x r hk aW hg ih v hv he;refine QwM _ _ _ _ ⟨λ_=>?_,λh=>by simp at h;omega⟩;rw[Int.toNat_natCast,hg,dP (by omega),Q8];refine⟨⟨by omega,aW⟩,room (by omega),ih _ (Ye hv) ?_⟩;rw[<- he];simp
theorem QJz:Qf Tryz.prog Le:=Qh λx _=>QRh x.1
def BP(t:(List Int)):aB:=f5 (bf [TI] t)
def Lg:aJ:=Qg 226 [(.c (.sl [TI]))] λx=>(none,BP (Yd x.1))
def Lh:aF:=⟨[Yv,Kh],false⟩
def Qso:af :=
 (ag [(ag [(.ae [ab 6 4,ab 7 0,ba 8 7,aw 9 .lss 6 8,ab 10 9,.bw 10 true [ab 11 0,aD 12 97 [11]] 13 12]),(.cond 13 .skip (.exit 0))]),(.block 1 (.ae [ab 16 3,ab 17 0,ab 18 4,aZ 19 17 18 [TI],an 20 19 1,aD 21 256 [20],aC 22 (.bW 3 [TI] [21]),aC 23 (.app 16 22 3 [TI]),ab 3 23])),(.ae [ab 14 4,aw 15 .add 14 (ar 1),ab 4 15])])
def QuJ:List (Nat × Md):=[(0,.one .d),(3,.one .f),(4,.one .d)]
def QB6:af :=
 (ag [(.ae [ab 24 3,ab 2 24]),.ret])
def QLv:af :=
 (ag [(.ae [ab 2 (.k (.n [TI]))]),(.ae [aC 5 (.bW 3 [TI] []),ab 3 5]),(ag [(.ae [ab 4 (ar 0)]),(.block 0 (.loop QuJ Qso))]),QB6])
def Qx4:List (bn × Md):=[(.t 2,.one .d)]
def Qst:Qb:=TQ 0 0 Qx4 K
def QLA:Qb:=a0 (aN Lh 0 QB6 (Qst K)) (Qst K)
def QFS:Qb:=a7 0 (QLA K)
def BQ(a:List Int)(i:Int)(out:List Int):Prop:=Loop Lh 0 QuJ Qso (QFS K) ⟨[(0,(bf [TI] a)),(3,(.r [TI] 0 0 out.length)),(4,(aL i))],[(0,(.sl 3 [TI] .ow out))],1⟩
theorem Li(a:List Int)(i:Int)(out:List Int) (h :
 (aI ((decide (i<(a.length:Int)))&&(QK a)) (((0<=i/\Int.toNat i<a.length)/\((out.length=out.length\/out.length+1<=out.length)/\out.length+1<=ca))/\(BQ K a (aG (i+1)) (List.take (out.length+1) ((List.take out.length out)++([(J2 (aq (0:Int) a (Int.toNat i)))]))))) (K (BP (List.take out.length (List.drop 0 out)))))):BQ K a i out :=
 Loop.of h
theorem QIW(a:List Int):aK Tryz.prog 226 [(.c (.sl [TI]) a)] (BP (Yd a)):=by
 refine bz Lh QLv Qx4 0 0 25 Lg (kc YL (kc QWo kn)) (λK =>
 (BQ K a 0 ([]:List Int))) (λhb=>?_)
 by_cases hp:QK a=true;rotate_left
 ·refine Li _ _ _ _ ⟨λh=>by simp[hp]at h,λ_=>au (by unfold Yd;rw[if_neg hp];rfl)⟩
 have h6:=(Yg.1 hp).1;refine Zf a (λr k=>∀(v:List Int),v.length=k->v++r.map J2=(Yd a)->BQ (λr'=>r'=BP (Yd a)) a k v) ?_ ?_ [] rfl (by unfold Yd;rw[if_pos hp];simp)
 ·intro v hv he;refine Li _ _ _ _ ⟨λh=>by simp at h,λ_=>au ?_⟩;rw[<- he];simp
 ·intro k x r hk aW hg ih v hv he;refine Li _ _ _ _ ⟨λ_=>?_,λh=>by simp[hp]at h;omega⟩;rw[Int.toNat_natCast,hg,dP (by omega),Q8];refine⟨⟨⟨by omega,aW⟩,room (by omega)⟩,ih _ (Ye hv) ?_⟩;rw[<- he];simp
theorem QE4:Qf Tryz.prog Lg:=Qh λx _=>QIW x.1
def yf(t:(List Int)):aB:=⟨(.r [TI] 0 0 t.length),[(.sl 3 [TI] (.dp 0 true []) t)],[],false,[]⟩
def Lj:aJ:=Qg 246 [(.c (.sl [TI])),(.c (.sl [TI]))] λx=>(none,yf (Z9 x.1 x.2.1))
def Lk:aF:=⟨[ug],true⟩
def Qx1:af :=
 (ag [(.ae [aw 15 .lss 14 13]),(.cond 15 .skip (.exit 0)),(.block 1 (ag [(.ae [ab 16 14,ab 6 16]),(.ae [ab 17 0,ab 18 6,aZ 19 17 18 [TI],an 20 19 1,aw 21 .gtr 20 (ar 0)]),(.cond 21 (.ae [ab 22 5,ab 23 1,ab 24 6,aZ 25 23 24 [TI],an 26 25 1,aC 27 (.bW 3 [TI] [26]),aC 28 (.app 22 27 3 [TI]),ab 5 28]) (.ae [ab 29 5,aC 30 (.bW 3 [TI] [(ar 0)]),aC 31 (.app 29 30 3 [TI]),ab 5 31]))])),(.ae [aw 32 .add 14 (ar 1),ab 14 32])])
def Qyb:List (Nat × Md):=[(0,.one .d),(1,.one .d),(5,.one .f),(13,.one .d),(14,.one .d)]
def QDZ:af :=
 (ag [(.ae [ab 33 5,ab 4 33]),.ret])
def QFZ:af :=
 (ag [(.ae [ab 4 (.k (.n [TI]))]),(ag [(.ae [ab 7 0,ab 8 1,aD 9 195 [7,8],bL 10 9]),(.cond 10 (ag [(.ae [ab 4 (.k (.n [TI]))]),.ret]) .skip)]),(.ae [aC 11 (.bW 3 [TI] []),ab 5 11]),(ag [(.ae [ab 12 0,ba 13 12,ab 14 (ar 0)]),(.block 0 (.loop Qyb Qx1))]),QDZ])
def QAt:List (bn × Md):=[(.t 4,.one (.p 3))]
def Qzz:Qb:=TQ 0 0 QAt K
def QWQ:Qb:=a0 (aN Lk 0 QDZ (Qzz K)) (Qzz K)
def QXI:Qb:=a7 0 (QWQ K)
def yg(x:List Int)(d:List Int)(x1:Int)(v:List Int):Prop:=Loop Lk 0 Qyb Qx1 (QXI K) ⟨[(0,(bf [TI] x)),(1,(bf [TI] d)),(5,(.r [TI] 0 0 v.length)),(13,(aL (x.length:Int))),(14,(aL x1))],[(0,(.sl 3 [TI] (.dp 0 true []) v))],1⟩
theorem QsH(x:List Int)(d:List Int)(x1:Int)(v:List Int) (h :
 (aI (decide (x1<(x.length:Int))) ((0<=x1/\Int.toNat x1<x.length)/\(aI (decide ((aq (0:Int) x (Int.toNat x1))>0)) (((0<=x1/\Int.toNat x1<d.length)/\((v.length=v.length\/v.length+1<=v.length)/\v.length+1<=ca))/\(yg K x d (aG (x1+1)) (List.take (v.length+1) ((List.take v.length v)++([(aq (0:Int) d (Int.toNat x1))]))))) (((v.length=v.length\/v.length+1<=v.length)/\v.length+1<=ca)/\(yg K x d (aG (x1+1)) (List.take (v.length+1) ((List.take v.length v)++([(0:Int)]))))))) (K (yf (List.take v.length v))))):yg K x d x1 v :=
 Loop.of h
theorem QMJ(x:List Int)(d:List Int):aK Tryz.prog 246 [(.c (.sl [TI]) x),(.c (.sl [TI]) d)] (yf (Z9 x d)):=by
 refine bz Lk QFZ QAt 0 0 34 Lj (kc Bs kn) (λK =>
 (aI (!(ZB x d)) (K (yf ([]:List Int))) (yg K x d 0 ([]:List Int)))) (λhb=>?_)
 refine⟨λh=>au (by unfold Z9;rw[if_neg (by simpa using h)]),λh=>?_⟩;have hp:ZB x d=true:=by simpa using h
 have hl:=oX.1 hp;have h6:=(Yg.1 hl.1).1;refine Zf x (λr k=>∀(v:List Int),v.length=k->v++List.zipWith (λa b=>if 0<a then b else 0) r (d.drop k)=(Z9 x d)->yg (λr'=>r'=yf (Z9 x d)) x d k v) ?_ ?_ [] rfl (by unfold Z9;rw[if_pos hp];simp)
 ·intro v hv he;refine QsH _ _ _ _ _ ⟨λh=>by simp at h,λ_=>au ?_⟩;rw[<- he];simp
 ·intro k y r hk aW hg ih v hv he;obtain⟨z,q,hq⟩:=Ys (l:=d) (k:=k) (by omega);refine QsH _ _ _ _ _ ⟨λ_=>?_,λh=>by simp at h;omega⟩;rw[Int.toNat_natCast,hg,ZJ hq,dP (by omega),Q8,Q8];rw[hq,List.zipWith_cons_cons,<- Zz hq]at he;refine⟨⟨by omega,aW⟩,λh=>⟨⟨⟨by omega,by omega⟩,room (by omega)⟩,ih _ (Ye hv) ?_⟩,λh=>⟨room (by omega),ih _ (Ye hv) ?_⟩⟩
  ·rw[<- he,if_pos (by simpa using h)];simp
  ·rw[<- he,if_neg (by simpa using h)];simp
theorem QVr:Qf Tryz.prog Lj:=Qh λx _=>QMJ x.1 x.2.1
def BS(t:(List Int)):aB:=f5 (bf [TI] t)
def Ll:aJ:=Qg 241 [(.c (.sl [TI])),(.c (.sl [TI]))] λx=>(none,BS (Z9 x.1 x.2.1))
def Lm:aF:=⟨[uh],false⟩
def Qqr:af :=
 (ag [(ag [(.ae [ab 8 6,ab 9 0,ba 10 9,aw 11 .lss 8 10,ab 12 11,.bw 12 true [ab 13 0,ab 14 1,aD 15 191 [13,14]] 16 15]),(.cond 16 .skip (.exit 0))]),(.block 1 (ag [(.ae [ab 19 0,ab 20 6,aZ 21 19 20 [TI],an 22 21 1,aw 23 .gtr 22 (ar 0)]),(.cond 23 (.ae [ab 24 5,ab 25 1,ab 26 6,aZ 27 25 26 [TI],an 28 27 1,aC 29 (.bW 3 [TI] [28]),aC 30 (.app 24 29 3 [TI]),ab 5 30]) (.ae [ab 31 5,aC 32 (.bW 3 [TI] [(ar 0)]),aC 33 (.app 31 32 3 [TI]),ab 5 33]))])),(.ae [ab 17 6,aw 18 .add 17 (ar 1),ab 6 18])])
def QrN:List (Nat × Md):=[(0,.one .d),(1,.one .d),(5,.one .f),(6,.one .d)]
def Qyd:af :=
 (ag [(.ae [ab 34 5,ab 4 34]),.ret])
def QPH:af :=
 (ag [(.ae [ab 4 (.k (.n [TI]))]),(.ae [aC 7 (.bW 3 [TI] []),ab 5 7]),(ag [(.ae [ab 6 (ar 0)]),(.block 0 (.loop QrN Qqr))]),Qyd])
def Qv1:List (bn × Md):=[(.t 4,.one .d)]
def QBI:Qb:=TQ 0 0 Qv1 K
def QHl:Qb:=a0 (aN Lm 0 Qyd (QBI K)) (QBI K)
def QNs:Qb:=a7 0 (QHl K)
def yh(x:List Int)(d:List Int)(i:Int)(out:List Int):Prop:=Loop Lm 0 QrN Qqr (QNs K) ⟨[(0,(bf [TI] x)),(1,(bf [TI] d)),(5,(.r [TI] 0 0 out.length)),(6,(aL i))],[(0,(.sl 3 [TI] .ow out))],1⟩
theorem Ln(x:List Int)(d:List Int)(i:Int)(out:List Int) (h :
 (aI ((decide (i<(x.length:Int)))&&(ZB x d)) ((0<=i/\Int.toNat i<x.length)/\(aI (decide ((aq (0:Int) x (Int.toNat i))>0)) (((0<=i/\Int.toNat i<d.length)/\((out.length=out.length\/out.length+1<=out.length)/\out.length+1<=ca))/\(yh K x d (aG (i+1)) (List.take (out.length+1) ((List.take out.length out)++([(aq (0:Int) d (Int.toNat i))]))))) (((out.length=out.length\/out.length+1<=out.length)/\out.length+1<=ca)/\(yh K x d (aG (i+1)) (List.take (out.length+1) ((List.take out.length out)++([(0:Int)]))))))) (K (BS (List.take out.length (List.drop 0 out)))))):yh K x d i out :=
 Loop.of h
theorem QVX(x:List Int)(d:List Int):aK Tryz.prog 241 [(.c (.sl [TI]) x),(.c (.sl [TI]) d)] (BS (Z9 x d)):=by
 refine bz Lm QPH Qv1 0 0 35 Ll (kc Bt kn) (λK =>
 (yh K x d 0 ([]:List Int))) (λhb=>?_)
 by_cases hp:ZB x d=true;rotate_left
 ·refine Ln _ _ _ _ _ ⟨λh=>by simp[hp]at h,λ_=>au (by unfold Z9;rw[if_neg hp];rfl)⟩
 have hl:=oX.1 hp;have h6:=(Yg.1 hl.1).1;refine Zf x (λr k=>∀(v:List Int),v.length=k->v++List.zipWith (λa b=>if 0<a then b else 0) r (d.drop k)=(Z9 x d)->yh (λr'=>r'=BS (Z9 x d)) x d k v) ?_ ?_ [] rfl (by unfold Z9;rw[if_pos hp];simp)
 ·intro v hv he;refine Ln _ _ _ _ _ ⟨λh=>by simp at h,λ_=>au ?_⟩;rw[<- he];simp
 ·intro k y r hk aW hg ih v hv he;obtain⟨z,q,hq⟩:=Ys (l:=d) (k:=k) (by omega);refine Ln _ _ _ _ _ ⟨λ_=>?_,λh=>by simp[hp]at h;omega⟩;rw[Int.toNat_natCast,hg,ZJ hq,dP (by omega),Q8,Q8];rw[hq,List.zipWith_cons_cons,<- Zz hq]at he;refine⟨⟨by omega,aW⟩,λh=>⟨⟨⟨by omega,by omega⟩,room (by omega)⟩,ih _ (Ye hv) ?_⟩,λh=>⟨room (by omega),ih _ (Ye hv) ?_⟩⟩
  ·rw[<- he,if_pos (by simpa using h)];simp
  ·rw[<- he,if_neg (by simpa using h)];simp
theorem QMz:Qf Tryz.prog Ll:=Qh λx _=>QVX x.1 x.2.1
end
end Go.Proofs.YtdplaepmjogjjaaGreat.Am

