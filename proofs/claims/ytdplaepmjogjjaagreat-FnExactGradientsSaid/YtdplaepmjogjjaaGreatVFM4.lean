/- -/
import Derived.Test.YtdplaepmjogjjaaGreatVFM3
namespace Go.Proofs.YtdplaepmjogjjaaGreat.Am
open Go Go.RowKit Go.Proofs.YtdplaepmjogjjaaGreat
set_option linter.all false
noncomputable section
variable (K:aJ->Prop)
def v8(t:Int):aJ:=cd (aO t)
def zZ:aP:=Qg 59 [(.c (.sl [TI])),(.c TI)] λx=>(some (cS (α:=List Int) x.1 x.2.1),v8 (bS (α:=List Int) x.1 x.2.1))
def QN3:aN:=⟨[],false⟩
def QPu:af :=
 (ag [(.ae [ab 4 (aw 0)]),(.ae [ab 5 1,ab 6 0,bh 7 6,az 8 .sub 5 7,ab 1 8]),(ag [(.ae [ab 9 1,az 10 .lss 9 (aw 0)]),(.cond 10 (ag [(.ae [ab 4 (aw (-1))]),.ret]) .skip)]),(.ae [ab 11 1,ab 4 11]),.ret])
def Q0Q:List (bw × Md):=[(.t 4,.one .d)]
theorem QZJ(a:List Int)(left:Int)(hp:cS (α:=List Int) a left):aR Tryz.prog 59 [(.c (.sl [TI]) a),(.c TI left)] (v8 (bS (α:=List Int) a left)):=by
 refine bD QN3 QPu Q0Q 0 0 12 zZ kn (λK =>
 (aS (decide ((aI (left-(a.length:Int)))<0)) (K (v8 (-1:Int))) (K (v8 (aI (left-(a.length:Int))))))) (λhb=>?_)
 exact WX (Q:=λx=>v8 x=v8 (bS (α:=List Int) a left)) (λ_=>rfl) hp hb.1.1 rfl
theorem LH:Qf Tryz.prog zZ:=Qh λx h=>QZJ x.1 x.2.1 h
def v9(t:Int):aJ:=cd (aO t)
def LI:aP:=Qg 115 [(.c (.sl [.bool])),(.c TI)] λx=>(some (cS (α:=List Bool) x.1 x.2.1),v9 (bS (α:=List Bool) x.1 x.2.1))
def QWh:aN:=⟨[],false⟩
def QPt:af :=
 (ag [(.ae [ab 4 (aw 0)]),(.ae [ab 5 1,ab 6 0,bh 7 6,az 8 .sub 5 7,ab 1 8]),(ag [(.ae [ab 9 1,az 10 .lss 9 (aw 0)]),(.cond 10 (ag [(.ae [ab 4 (aw (-1))]),.ret]) .skip)]),(.ae [ab 11 1,ab 4 11]),.ret])
def QWQ:List (bw × Md):=[(.t 4,.one .d)]
theorem QLA(a:List Bool)(left:Int)(hp:cS (α:=List Bool) a left):aR Tryz.prog 115 [(.c (.sl [.bool]) a),(.c TI left)] (v9 (bS (α:=List Bool) a left)):=by
 refine bD QWh QPt QWQ 0 0 12 LI kn (λK =>
 (aS (decide ((aI (left-(a.length:Int)))<0)) (K (v9 (-1:Int))) (K (v9 (aI (left-(a.length:Int))))))) (λhb=>?_)
 exact WX (Q:=λx=>v9 x=v9 (bS (α:=List Bool) a left)) (λ_=>rfl) hp hb.1.1 rfl
theorem QXe:Qf Tryz.prog LI:=Qh λx h=>QLA x.1 x.2.1 h
def Aa(t:Int):aJ:=cd (aO t)
def LJ:aP:=Qg 116 [(.a Qp),(.c TI)] λx=>(some (cS (α:=Qi) x.1 x.2.1),Aa (bS (α:=Qi) x.1 x.2.1))
def QT0:aN:=⟨[zZ],false⟩
def Q2o:af :=
 (ag [(.ae [aD 2 (.box 151 0 2),ab 4 (aw 0)]),(.ae [an 5 2 0,ar 6 5 1,ab 7 1,aL 8 59 [6,7],ab 1 8]),(ag [(.ae [ab 9 1,az 10 .lss 9 (aw 0)]),(.cond 10 (ag [(.ae [ab 4 (aw (-1))]),.ret]) .skip)]),(.ae [an 11 2 1,ar 12 11 1,ab 13 1,aL 14 59 [12,13],ab 1 14]),(ag [(.ae [ab 15 1,az 16 .lss 15 (aw 0)]),(.cond 16 (ag [(.ae [ab 4 (aw (-1))]),.ret]) .skip)]),(.ae [ab 17 1,ab 4 17]),.ret])
def QZy:List (bw × Md):=[(.t 4,.one .d)]
theorem QKK(a:Qi)(left:Int)(hp:cS (α:=Qi) a left):aR Tryz.prog 116 [(.a [(.c (.sl [TI]) a.1),(.c (.sl [TI]) a.2)]),(.c TI left)] (Aa (bS (α:=Qi) a left)):=by
 refine bD QT0 Q2o QZy 0 0 18 LJ (kc LH kn) (λK =>
 ((cS (α:=List Int) a.1 left)/\(aS (decide ((bS (α:=List Int) a.1 left)<0)) (K (Aa (-1:Int))) ((cS (α:=List Int) a.2 (bS (α:=List Int) a.1 left))/\(aS (decide ((bS (α:=List Int) a.2 (bS (α:=List Int) a.1 left))<0)) (K (Aa (-1:Int))) (K (Aa (bS (α:=List Int) a.2 (bS (α:=List Int) a.1 left))))))))) (λhb=>?_)
 refine⟨hp,λh=>au (pZ (of_decide_eq_true h) (by first | omega | (simp only[Q9,Q1,ZJ];omega)) hp.1),λh=>?_⟩;rw[zG (Int.not_lt.1 (of_decide_eq_false h))];refine⟨vV hp,λh=>au (pZ (of_decide_eq_true h) (by first | omega | (simp only[Q9,Q1,ZJ];omega)) hp.1),λh=>?_⟩;exact au (congrArg (Jj · _) (by first | rfl | omega | (simp only[Q9,Q1,ZJ];omega)))
theorem QMO:Qf Tryz.prog LJ:=Qh λx h=>QKK x.1 x.2.1 h
def ug(t:Int):aJ:=cd (aO t)
def LK:aP:=Qg 34 [(.c (.sl Qp)),(.c TI)] λx=>(some (cS (α:=List Qi) x.1 x.2.1),ug (bS (α:=List Qi) x.1 x.2.1))
def LL:aN:=⟨[LJ],false⟩
def XT:af :=
 (ag [(ag [(.ae [ab 12 5,ab 13 0,bh 14 13,az 15 .lss 12 14]),(.cond 15 .skip (.exit 0))]),(.block 1 (ag [(.ae [ab 18 0,ab 19 5,bn 20 18 19 Qp,aZ 21 20 2,ab 22 1,aL 23 116 [21,22],ab 1 23]),(.ae [ab 24 1,az 25 .lss 24 (aw 0)]),(.cond 25 (ag [(.ae [ab 4 (aw (-1))]),.ret]) .skip)])),(.ae [ab 16 5,az 17 .add 16 (aw 1),ab 5 17])])
def XU:List (Nat × Md):=ij [0,1,5]
def XV:af :=
 (ag [(.ae [ab 26 1,ab 4 26]),.ret])
def QST:af :=
 (ag [(.ae [ab 4 (aw 0)]),(.ae [ab 6 1,ab 7 0,bh 8 7,az 9 .sub 6 8,ab 1 9]),(ag [(.ae [ab 10 1,az 11 .lss 10 (aw 0)]),(.cond 11 (ag [(.ae [ab 4 (aw (-1))]),.ret]) .skip)]),(ag [(.ae [ab 5 (aw 0)]),(.block 0 (.loop XU XT))]),XV])
def XW:List (bw × Md):=[(.t 4,.one .d)]
def XX:Qb:=TQ 0 0 XW K
def QLK:Qb:=ba (aU LL 0 XV (XX K)) (XX K)
def QKM:Qb:=bf 0 (QLK K)
def LM(a:List Qi)(eA:Int)(i:Int):Prop:=Loop LL 0 XU XT (QKM K) ⟨[(0,(bu Qp a)),(1,(aO eA)),(5,(aO i))],[],0⟩
theorem QWx(a:List Qi)(eA:Int)(i:Int) (h :
 (aS (decide (i<(a.length:Int))) (((0<=i/\Int.toNat i<a.length)/\(cS (α:=Qi) (aq QP a (Int.toNat i)) eA))/\(aS (decide ((bS (α:=Qi) (aq QP a (Int.toNat i)) eA)<0)) (K (ug (-1:Int))) (LM K a (bS (α:=Qi) (aq QP a (Int.toNat i)) eA) (aI (i+1))))) (K (ug eA)))):LM K a eA i :=
 Loop.of h
theorem QZi(a:List Qi)(left:Int)(hp:cS (α:=List Qi) a left):aR Tryz.prog 34 [(.c (.sl Qp) a),(.c TI left)] (ug (bS (α:=List Qi) a left)):=by
 refine bD LL QST XW 0 0 27 LK (kc QMO kn) (λK =>
 (aS (decide ((aI (left-(a.length:Int)))<0)) (K (ug (-1:Int))) (LM K a (aI (left-(a.length:Int))) 0))) (λhb=>?_)
 exact WY (Q:=λx=>ug x=ug (bS (α:=List Qi) a left)) QP hp hb.1.1 (λl i h=>QWx _ a l i h) rfl
theorem QKZ:Qf Tryz.prog LK:=Qh λx h=>QZi x.1 x.2.1 h
def wa(t:(List Int)):aJ:=⟨(.r [TI] 0 0 t.length),[(.sl 3 [TI] (.dp 0 true []) t)],[],false,[]⟩
def Ab:aP:=Qg 29 [(.c (.sl [TI]))] λx=>(some (cP (α:=List Int) x.1),wa (id (α:=List Int) x.1))
def LN:aN:=⟨[],true⟩
def XY:af :=
 (ag [(ag [(.ae [ab 8 4,ab 9 0,bh 10 9,az 11 .lss 8 10]),(.cond 11 .skip (.exit 0))]),(.block 1 (.ae [ab 14 3,ab 15 4,ab 16 0,ab 17 4,bn 18 16 17 [TI],ar 19 18 1,bn 20 14 15 [TI],a8 20 19 1])),(.ae [ab 12 4,az 13 .add 12 (aw 1),ab 4 13])])
def XZ:List (Nat × Md):=[(0,.one .d),(3,.one .f),(4,.one .d)]
def X0:af :=
 (ag [(.ae [ab 21 3,ab 2 21]),.ret])
def QOh:af :=
 (ag [(.ae [ab 2 (.k (.n [TI]))]),(.ae [ab 5 0,bh 6 5,aD 7 (.mk 3 [TI] [(aO 0)] 6),ab 3 7]),(ag [(.ae [ab 4 (aw 0)]),(.block 0 (.loop XZ XY))]),X0])
def X1:List (bw × Md):=[(.t 2,.one (.p 3))]
def X2:Qb:=TQ 0 0 X1 K
def QQ8:Qb:=ba (aU LN 0 X0 (X2 K)) (X2 K)
def QPa:Qb:=bf 0 (QQ8 K)
def Dx(a:List Int)(i:Int)(out:List Int):Prop:=Loop LN 0 XZ XY (QPa K) ⟨[(0,(bu [TI] a)),(3,(.r [TI] 0 0 out.length)),(4,(aO i))],[(0,(.sl 3 [TI] (.dp 0 true []) out))],1⟩
theorem X3(a:List Int)(i:Int)(out:List Int) (h :
 (aS (decide (i<(a.length:Int))) (((0<=i/\Int.toNat i<a.length)/\((0<=i/\Int.toNat i<out.length)/\((0+(Int.toNat i))<out.length)))/\(Dx K a (aI (i+1)) (List.take out.length ((out).set (0+(Int.toNat i)) (aq (0:Int) a (Int.toNat i)))))) (K (wa (List.take out.length out))))):Dx K a i out :=
 Loop.of h
theorem QML(a:List Int)(hp:cP (α:=List Int) a):aR Tryz.prog 29 [(.c (.sl [TI]) a)] (wa (id (α:=List Int) a)):=by
 refine bD LN QOh X1 0 0 22 Ab kn (λK =>
 ((0<=(a.length:Int)/\(a.length:Int)<=bP)/\(Dx K a 0 (List.take (Int.toNat (a.length:Int)) (List.replicate (Int.toNat (a.length:Int)) (0:Int)))))) (λhb=>?_)
 refine⟨⟨by omega,by rw[jV];have:=ry hp;omega⟩,?_⟩;refine Du a (A:=λii ll=>Dx (λr'=>r'=wa (id (α:=List Int) a)) a ii ll) (Q:=λz=>wa z=wa (id (α:=List Int) a)) hp ?_ ?_ rfl
 ·intro k x out aY hg ho hx hA;have hw:aI (((k:Nat):Int)+1)=((k+1:Nat):Int):=by have:=ry hp;rw[Qy (by omega) (by omega)];omega
  have my:k<out.length:=by omega
  refine X3 _ _ _ _ ?_;refine⟨λ_=>?_,λh=>absurd h (by simp;omega)⟩;simp only[Int.toNat_natCast,Nat.zero_add,hg,hw,aY,my,Dt,List.drop_zero,List.take_length,id_eq,and_true,true_and,Int.natCast_nonneg]
  first | exact hA | exact⟨hx,hA⟩
 ·intro out ho hq;refine X3 _ _ _ _ ?_;refine⟨λh=>absurd h (by simp),λ_=>?_⟩;simp only[List.drop_zero,List.take_length];exact hq
theorem LO:Qf Tryz.prog Ab:=Qh λx h=>QML x.1 h
def wb(t:(List Bool)):aJ:=⟨(.r [.bool] 0 0 t.length),[(.sl 4 [.bool] (.dp 0 true []) t)],[],false,[]⟩
def LP:aP:=Qg 123 [(.c (.sl [.bool]))] λx=>(some (cP (α:=List Bool) x.1),wb (id (α:=List Bool) x.1))
def LQ:aN:=⟨[],true⟩
def X4:af :=
 (ag [(ag [(.ae [ab 8 4,ab 9 0,bh 10 9,az 11 .lss 8 10]),(.cond 11 .skip (.exit 0))]),(.block 1 (.ae [ab 14 3,ab 15 4,ab 16 0,ab 17 4,bn 18 16 17 [.bool],ar 19 18 1,bn 20 14 15 [.bool],a8 20 19 1])),(.ae [ab 12 4,az 13 .add 12 (aw 1),ab 4 13])])
def X5:List (Nat × Md):=[(0,.one .d),(3,.one .f),(4,.one .d)]
def X6:af :=
 (ag [(.ae [ab 21 3,ab 2 21]),.ret])
def QLQ:af :=
 (ag [(.ae [ab 2 (.k (.n [.bool]))]),(.ae [ab 5 0,bh 6 5,aD 7 (.mk 4 [.bool] [(bH false)] 6),ab 3 7]),(ag [(.ae [ab 4 (aw 0)]),(.block 0 (.loop X5 X4))]),X6])
def X7:List (bw × Md):=[(.t 2,.one (.p 4))]
def X8:Qb:=TQ 0 0 X7 K
def QMt:Qb:=ba (aU LQ 0 X6 (X8 K)) (X8 K)
def QXM:Qb:=bf 0 (QMt K)
def Dy(a:List Bool)(i:Int)(out:List Bool):Prop:=Loop LQ 0 X5 X4 (QXM K) ⟨[(0,(bu [.bool] a)),(3,(.r [.bool] 0 0 out.length)),(4,(aO i))],[(0,(.sl 4 [.bool] (.dp 0 true []) out))],1⟩
theorem X9(a:List Bool)(i:Int)(out:List Bool) (h :
 (aS (decide (i<(a.length:Int))) (((0<=i/\Int.toNat i<a.length)/\((0<=i/\Int.toNat i<out.length)/\((0+(Int.toNat i))<out.length)))/\(Dy K a (aI (i+1)) (List.take out.length ((out).set (0+(Int.toNat i)) (aq (false:Bool) a (Int.toNat i)))))) (K (wb (List.take out.length out))))):Dy K a i out :=
 Loop.of h
theorem QTi(a:List Bool)(hp:cP (α:=List Bool) a):aR Tryz.prog 123 [(.c (.sl [.bool]) a)] (wb (id (α:=List Bool) a)):=by
 refine bD LQ QLQ X7 0 0 22 LP kn (λK =>
 ((0<=(a.length:Int)/\(a.length:Int)<=bP)/\(Dy K a 0 (List.take (Int.toNat (a.length:Int)) (List.replicate (Int.toNat (a.length:Int)) false))))) (λhb=>?_)
 refine⟨⟨by omega,by rw[jV];have:=ry hp;omega⟩,?_⟩;refine Du a (A:=λii ll=>Dy (λr'=>r'=wb (id (α:=List Bool) a)) a ii ll) (Q:=λz=>wb z=wb (id (α:=List Bool) a)) hp ?_ ?_ rfl
 ·intro k x out aY hg ho hx hA;have hw:aI (((k:Nat):Int)+1)=((k+1:Nat):Int):=by have:=ry hp;rw[Qy (by omega) (by omega)];omega
  have my:k<out.length:=by omega
  refine X9 _ _ _ _ ?_;refine⟨λ_=>?_,λh=>absurd h (by simp;omega)⟩;simp only[Int.toNat_natCast,Nat.zero_add,hg,hw,aY,my,Dt,List.drop_zero,List.take_length,id_eq,and_true,true_and,Int.natCast_nonneg]
  first | exact hA | exact⟨hx,hA⟩
 ·intro out ho hq;refine X9 _ _ _ _ ?_;refine⟨λh=>absurd h (by simp),λ_=>?_⟩;simp only[List.drop_zero,List.take_length];exact hq
theorem Q29:Qf Tryz.prog LP:=Qh λx h=>QTi x.1 h
def LR(t:Qi):aJ:=⟨(.a [(.r [TI] 0 0 ((t.1).length)),(.r [TI] 1 0 ((t.2).length))]),[(.sl 3 [TI] (.dp 0 true []) t.1),(.sl 3 [TI] (.dp 0 true []) t.2)],[],false,[]⟩
def LS:aP:=Qg 124 [(.a Qp)] λx=>(some (cP (α:=Qi) x.1),LR (id (α:=Qi) x.1))
def QX7:aN:=⟨[Ab],true⟩
def QUV:af :=
 (ag [(.ae [aD 1 (.box 151 0 2),aD 2 (.new 154 (bC Qp))]),(.ae [aD 3 (.new 154 (bC Qp))]),(.ae [an 4 1 0,ar 5 4 1,aL 6 29 [5],an 7 3 0,a8 7 6 1]),(.ae [an 8 1 1,ar 9 8 1,aL 10 29 [9],an 11 3 1,a8 11 10 1]),(.ae [aZ 12 3 2,a8 2 12 2]),.ret])
def QTy:List (bw × Md):=[(.l 2 2 true,.b [.p 3,.p 3])]
theorem QWK(a:Qi)(hp:cP (α:=Qi) a):aR Tryz.prog 124 [(.a [(.c (.sl [TI]) a.1),(.c (.sl [TI]) a.2)])] (LR (id (α:=Qi) a)):=by
 refine bD QX7 QUV QTy 0 0 13 LS (kc LO kn) (λK =>
 ((cP (α:=List Int) a.1)/\((cP (α:=List Int) a.2)/\K (LR ((List.take ((id (α:=List Int) a.1).length) (id (α:=List Int) a.1)),(List.take ((id (α:=List Int) a.2).length) (id (α:=List Int) a.2))))))) (λhb=>?_)
 repeat' (first | refine And.intro ?_ ?_ | exact au (by simp))
 all_goals (simp only[cP,Q9,Q1,ZJ,List.drop_zero,List.take_length,id_eq]at hp ⊢;omega)
theorem QUr:Qf Tryz.prog LS:=Qh λx h=>QWK x.1 h
def wc(t:(List Qi)):aJ:=⟨(.r Qp 0 0 t.length),[(.sl 154 Qp (.dp 0 true []) t)],[],false,[]⟩
def LU:aP:=Qg 37 [(.c (.sl Qp))] λx=>(some (cP (α:=List Qi) x.1),wc (id (α:=List Qi) x.1))
def LV:aN:=⟨[LS],true⟩
def QFh:af :=
 (ag [(ag [(.ae [ab 8 4,ab 9 0,bh 10 9,az 11 .lss 8 10]),(.cond 11 .skip (.exit 0))]),(.block 1 (.ae [ab 14 3,ab 15 4,ab 16 0,ab 17 4,bn 18 16 17 Qp,aZ 19 18 2,aL 20 124 [19],bn 21 14 15 Qp,a8 21 20 2])),(.ae [ab 12 4,az 13 .add 12 (aw 1),ab 4 13])])
def QtN:List (Nat × Md):=[(0,.one .d),(3,.one .f),(4,.one .d)]
def QD3:af :=
 (ag [(.ae [ab 22 3,ab 2 22]),.ret])
def Q0d:af :=
 (ag [(.ae [ab 2 (.k (.n Qp))]),(.ae [ab 5 0,bh 6 5,aD 7 (.mk 154 Qp (bC Qp) 6),ab 3 7]),(ag [(.ae [ab 4 (aw 0)]),(.block 0 (.loop QtN QFh))]),QD3])
def QtO:List (bw × Md):=[(.t 2,.one (.p 154))]
def QDm:Qb:=TQ 0 0 QtO K
def QZB:Qb:=ba (aU LV 0 QD3 (QDm K)) (QDm K)
def Q3x:Qb:=bf 0 (QZB K)
def Dz(a:List Qi)(i:Int)(out:List Qi):Prop:=Loop LV 0 QtN QFh (Q3x K) ⟨[(0,(bu Qp a)),(3,(.r Qp 0 0 out.length)),(4,(aO i))],[(0,(.sl 154 Qp (.dp 0 true []) out))],1⟩
theorem QHV(a:List Qi)(i:Int)(out:List Qi) (h :
 (aS (decide (i<(a.length:Int))) (((0<=i/\Int.toNat i<a.length)/\((cP (α:=Qi) (aq QP a (Int.toNat i)))/\((0<=i/\Int.toNat i<out.length)/\((0+(Int.toNat i))<out.length))))/\(Dz K a (aI (i+1)) (List.take out.length ((out).set (0+(Int.toNat i)) ((List.take (((id (α:=Qi) (aq QP a (Int.toNat i))).1).length) (List.drop 0 ((id (α:=Qi) (aq QP a (Int.toNat i))).1))),(List.take (((id (α:=Qi) (aq QP a (Int.toNat i))).2).length) (List.drop 0 ((id (α:=Qi) (aq QP a (Int.toNat i))).2)))))))) (K (wc (List.take out.length out))))):Dz K a i out :=
 Loop.of h
theorem QPj(a:List Qi)(hp:cP (α:=List Qi) a):aR Tryz.prog 37 [(.c (.sl Qp) a)] (wc (id (α:=List Qi) a)):=by
 refine bD LV Q0d QtO 0 0 23 LU (kc QUr kn) (λK =>
 ((0<=(a.length:Int)/\(a.length:Int)<=bP)/\(Dz K a 0 (List.take (Int.toNat (a.length:Int)) (List.replicate (Int.toNat (a.length:Int)) ([],[])))))) (λhb=>?_)
 refine⟨⟨by omega,by rw[jV];have:=ry hp;omega⟩,?_⟩;refine Du a (A:=λii ll=>Dz (λr'=>r'=wc (id (α:=List Qi) a)) a ii ll) (Q:=λz=>wc z=wc (id (α:=List Qi) a)) hp ?_ ?_ rfl
 ·intro k x out aY hg ho hx hA;have hw:aI (((k:Nat):Int)+1)=((k+1:Nat):Int):=by have:=ry hp;rw[Qy (by omega) (by omega)];omega
  have my:k<out.length:=by omega
  refine QHV _ _ _ _ ?_;refine⟨λ_=>?_,λh=>absurd h (by simp;omega)⟩;simp only[Int.toNat_natCast,Nat.zero_add,hg,hw,aY,my,Dt,List.drop_zero,List.take_length,id_eq,and_true,true_and,Int.natCast_nonneg]
  first | exact hA | exact⟨hx,hA⟩
 ·intro out ho hq;refine QHV _ _ _ _ ?_;refine⟨λh=>absurd h (by simp),λ_=>?_⟩;simp only[List.drop_zero,List.take_length];exact hq
theorem Q2F:Qf Tryz.prog LU:=Qh λx h=>QPj x.1 h
def uh(t:Bool):aJ:=cd (bH t)
def we:aP:=Qg 23 [(.c (.sl [TI])),(.c (.sl [TI]))] λx=>(none,uh (bK (α:=List Int) x.1 x.2.1))
def LW:aN:=⟨[],false⟩
def QB3:af :=
 (ag [(ag [(.ae [ab 11 5,ab 12 0,bh 13 12,az 14 .lss 11 13]),(.cond 14 .skip (.exit 0))]),(.block 1 (ag [(.draw [ab 17 0,ab 18 5,bn 19 17 18 [TI],ar 20 19 1,ab 21 1,ab 22 5,bn 23 21 22 [TI],ar 24 23 1,az 25 .neq 20 24] []),(.cond 25 (ag [(.ae [ab 4 (bm false)]),.ret]) .skip)])),(.ae [ab 15 5,az 16 .add 15 (aw 1),ab 5 16])])
def QwB:List (Nat × Md):=ij [0,1,5]
def Quz:af :=
 (ag [(.ae [ab 4 (bm true)]),.ret])
def Q2R:af :=
 (ag [(.ae [ab 4 (bm false)]),(ag [(.ae [ab 6 0,bh 7 6,ab 8 1,bh 9 8,az 10 .neq 7 9]),(.cond 10 (ag [(.ae [ab 4 (bm false)]),.ret]) .skip)]),(ag [(.ae [ab 5 (aw 0)]),(.block 0 (.loop QwB QB3))]),Quz])
def QyA:List (bw × Md):=[(.t 4,.one .d)]
def QDx:Qb:=TQ 0 0 QyA K
def QLh:Qb:=ba (aU LW 0 Quz (QDx K)) (QDx K)
def QVW:Qb:=bf 0 (QLh K)
def LX(a:List Int)(b:List Int)(i:Int):Prop:=Loop LW 0 QwB QB3 (QVW K) ⟨[(0,(bu [TI] a)),(1,(bu [TI] b)),(5,(aO i))],[],0⟩
theorem Q0g(a:List Int)(b:List Int)(i:Int) (h :
 (aS (decide (i<(a.length:Int))) (((0<=i/\Int.toNat i<a.length)/\(0<=i/\Int.toNat i<b.length))/\(aS ((aq (0:Int) a (Int.toNat i)) != (aq (0:Int) b (Int.toNat i))) (K (uh false)) (LX K a b (aI (i+1))))) (K (uh true)))):LX K a b i :=
 Loop.of h
theorem QTI(a:List Int)(b:List Int):aR Tryz.prog 23 [(.c (.sl [TI]) a),(.c (.sl [TI]) b)] (uh (bK (α:=List Int) a b)):=by
 refine bD LW Q2R QyA 0 0 26 we kn (λK =>
 (aS ((a.length:Int) != (b.length:Int)) (K (uh false)) (LX K a b 0))) (λhb=>?_)
 exact QMe hb.1.1 (λi h=>Q0g _ a b i h) (Q:=λx=>uh x=uh (bK (α:=List Int) a b)) rfl
theorem DA:Qf Tryz.prog we:=Qh λx _=>QTI x.1 x.2.1
def ui(t:Bool):aJ:=cd (bH t)
def LY:aP:=Qg 132 [(.c (.sl [.bool])),(.c (.sl [.bool]))] λx=>(none,ui (bK (α:=List Bool) x.1 x.2.1))
def LZ:aN:=⟨[],false⟩
def Qxj:af :=
 (ag [(ag [(.ae [ab 11 5,ab 12 0,bh 13 12,az 14 .lss 11 13]),(.cond 14 .skip (.exit 0))]),(.block 1 (ag [(.draw [ab 17 0,ab 18 5,bn 19 17 18 [.bool],ar 20 19 1,ab 21 1,ab 22 5,bn 23 21 22 [.bool],ar 24 23 1,aD 25 (.j1 true 20 24)] []),(.cond 25 (ag [(.ae [ab 4 (bm false)]),.ret]) .skip)])),(.ae [ab 15 5,az 16 .add 15 (aw 1),ab 5 16])])
def Qy0:List (Nat × Md):=ij [0,1,5]
def QvZ:af :=
 (ag [(.ae [ab 4 (bm true)]),.ret])
def QWw:af :=
 (ag [(.ae [ab 4 (bm false)]),(ag [(.ae [ab 6 0,bh 7 6,ab 8 1,bh 9 8,az 10 .neq 7 9]),(.cond 10 (ag [(.ae [ab 4 (bm false)]),.ret]) .skip)]),(ag [(.ae [ab 5 (aw 0)]),(.block 0 (.loop Qy0 Qxj))]),QvZ])
def QzK:List (bw × Md):=[(.t 4,.one .d)]
def QGE:Qb:=TQ 0 0 QzK K
def QMR:Qb:=ba (aU LZ 0 QvZ (QGE K)) (QGE K)
def QM0:Qb:=bf 0 (QMR K)
def L0(a:List Bool)(b:List Bool)(i:Int):Prop:=Loop LZ 0 Qy0 Qxj (QM0 K) ⟨[(0,(bu [.bool] a)),(1,(bu [.bool] b)),(5,(aO i))],[],0⟩
theorem QTk(a:List Bool)(b:List Bool)(i:Int) (h :
 (aS (decide (i<(a.length:Int))) (((0<=i/\Int.toNat i<a.length)/\(0<=i/\Int.toNat i<b.length))/\(aS (!((aq (false:Bool) a (Int.toNat i))==(aq (false:Bool) b (Int.toNat i)))) (K (ui false)) (L0 K a b (aI (i+1))))) (K (ui true)))):L0 K a b i :=
 Loop.of h
theorem QVK(a:List Bool)(b:List Bool):aR Tryz.prog 132 [(.c (.sl [.bool]) a),(.c (.sl [.bool]) b)] (ui (bK (α:=List Bool) a b)):=by
 refine bD LZ QWw QzK 0 0 26 LY kn (λK =>
 (aS ((a.length:Int) != (b.length:Int)) (K (ui false)) (L0 K a b 0))) (λhb=>?_)
 exact Q3o hb.1.1 (λi h=>QTk _ a b i h) (Q:=λx=>ui x=ui (bK (α:=List Bool) a b)) rfl
theorem QTP:Qf Tryz.prog LY:=Qh λx _=>QVK x.1 x.2.1
def DB(t:Bool):aJ:=cd (bH t)
def L1:aP:=Qg 174 [(.a [(.sl [TI])]),(.a [(.sl [TI])])] λx=>(none,DB (bK (α:=List Int) x.1 x.2.1))
def QZD:aN:=⟨[we],false⟩
def QX2:af :=
 (ag [(.ae [aD 2 (.box 106 0 1),aD 3 (.box 106 1 1),ab 4 (bm false)]),(ag [(.ae [an 5 2 0,ar 6 5 1,an 7 3 0,ar 8 7 1,aL 9 23 [6,8],bL 10 9]),(.cond 10 (ag [(.ae [ab 4 (bm false)]),.ret]) .skip)]),(.ae [ab 4 (bm true)]),.ret])
def Q0X:List (bw × Md):=[(.t 4,.one .d)]
theorem QZY(a:List Int)(b:List Int):aR Tryz.prog 174 [(.a [(.c (.sl [TI]) a)]),(.a [(.c (.sl [TI]) b)])] (DB (bK (α:=List Int) a b)):=by
 refine bD QZD QX2 Q0X 0 0 11 L1 (kc DA kn) (λK =>
 (aS (!(bK (α:=List Int) a b)) (K (DB false)) (K (DB true)))) (λhb=>?_)
 refine⟨λh=>au (Eq.symm (decide_eq_false (by rintro rfl;simp[bK]at h))),λh0=>?_⟩;refine au (Eq.symm (decide_eq_true ?_));simp[bK]at h0;simp[Prod.ext_iff, *]
theorem QOQ:Qf Tryz.prog L1:=Qh λx _=>QZY x.1 x.2.1
def uj(t:Bool):aJ:=cd (bH t)
def L2:aP:=Qg 78 [(.c (.sl [(.sl [TI])])),(.c (.sl [(.sl [TI])]))] λx=>(none,uj (bK (α:=List (List Int)) x.1 x.2.1))
def L3:aN:=⟨[L1],false⟩
def QvS:af :=
 (ag [(ag [(.ae [ab 11 5,ab 12 0,bh 13 12,az 14 .lss 11 13]),(.cond 14 .skip (.exit 0))]),(.block 1 (ag [(.draw [ab 17 0,ab 18 5,bn 19 17 18 [(.sl [TI])],aZ 20 19 1,ab 21 1,ab 22 5,bn 23 21 22 [(.sl [TI])],aZ 24 23 1,aL 25 174 [20,24],bL 26 25] []),(.cond 26 (ag [(.ae [ab 4 (bm false)]),.ret]) .skip)])),(.ae [ab 15 5,az 16 .add 15 (aw 1),ab 5 16])])
def Qwt:List (Nat × Md):=ij [0,1,5]
def QIr:af :=
 (ag [(.ae [ab 4 (bm true)]),.ret])
def QNg:af :=
 (ag [(.ae [ab 4 (bm false)]),(ag [(.ae [ab 6 0,bh 7 6,ab 8 1,bh 9 8,az 10 .neq 7 9]),(.cond 10 (ag [(.ae [ab 4 (bm false)]),.ret]) .skip)]),(ag [(.ae [ab 5 (aw 0)]),(.block 0 (.loop Qwt QvS))]),QIr])
def Qxw:List (bw × Md):=[(.t 4,.one .d)]
def QHl:Qb:=TQ 0 0 Qxw K
def QYu:Qb:=ba (aU L3 0 QIr (QHl K)) (QHl K)
def QWy:Qb:=bf 0 (QYu K)
def L4(a:List (List Int))(b:List (List Int))(i:Int):Prop:=Loop L3 0 Qwt QvS (QWy K) ⟨[(0,(bu [(.sl [TI])] a)),(1,(bu [(.sl [TI])] b)),(5,(aO i))],[],0⟩
theorem QVN(a:List (List Int))(b:List (List Int))(i:Int) (h :
 (aS (decide (i<(a.length:Int))) (((0<=i/\Int.toNat i<a.length)/\(0<=i/\Int.toNat i<b.length))/\(aS (!(bK (α:=List Int) (aq ([]:List Int) a (Int.toNat i)) (aq ([]:List Int) b (Int.toNat i)))) (K (uj false)) (L4 K a b (aI (i+1))))) (K (uj true)))):L4 K a b i :=
 Loop.of h
theorem QRf(a:List (List Int))(b:List (List Int)):aR Tryz.prog 78 [(.c (.sl [(.sl [TI])]) a),(.c (.sl [(.sl [TI])]) b)] (uj (bK (α:=List (List Int)) a b)):=by
 refine bD L3 QNg Qxw 0 0 27 L2 (kc QOQ kn) (λK =>
 (aS ((a.length:Int) != (b.length:Int)) (K (uj false)) (L4 K a b 0))) (λhb=>?_)
 exact zH ([]:List Int) (E:=bK) (λ_ _=>rfl) hb.1.1 (λi h=>QVN _ a b i h) (Q:=λx=>uj x=uj (bK (α:=List (List Int)) a b)) rfl
theorem Q10:Qf Tryz.prog L2:=Qh λx _=>QRf x.1 x.2.1
def wh(t:Bool):aJ:=cd (bH t)
def L5:aP:=Qg 46 [(.a Q2),(.a Q2)] λx=>(none,wh (bK (α:=QL) x.1 x.2.1))
def Q0J:aN:=⟨[L2],false⟩
def Q3a:af :=
 (ag [(.ae [aD 2 (.box 37 0 3),aD 3 (.box 37 1 3),ab 4 (bm false)]),(ag [(.ae [an 5 2 0,ar 6 5 1,an 7 3 0,ar 8 7 1,aL 9 78 [6,8],bL 10 9]),(.cond 10 (ag [(.ae [ab 4 (bm false)]),.ret]) .skip)]),(ag [(.ae [an 11 2 1,ar 12 11 1,an 13 3 1,ar 14 13 1,az 15 .neq 12 14]),(.cond 15 (ag [(.ae [ab 4 (bm false)]),.ret]) .skip)]),(ag [(.ae [an 16 2 2,ar 17 16 1,an 18 3 2,ar 19 18 1,aD 20 (.j1 true 17 19)]),(.cond 20 (ag [(.ae [ab 4 (bm false)]),.ret]) .skip)]),(.ae [ab 4 (bm true)]),.ret])
def QJ8:List (bw × Md):=[(.t 4,.one .d)]
theorem QLw(a:QL)(b:QL):aR Tryz.prog 46 [(.a (aV.cells Q2 a)),(.a (aV.cells Q2 b))] (wh (bK (α:=QL) a b)):=by
 refine bD Q0J Q3a QJ8 0 0 21 L5 (kc Q10 kn) (λK =>
 (aS (!(bK (α:=List (List Int)) a.1 b.1)) (K (wh false)) (aS (a.2.1 != b.2.1) (K (wh false)) (aS (!(a.2.2==b.2.2)) (K (wh false)) (K (wh true)))))) (λhb=>?_)
 refine⟨λh=>au (Eq.symm (decide_eq_false (by rintro rfl;simp[bK]at h))),λh0=>?_⟩;refine⟨λh=>au (Eq.symm (decide_eq_false (by rintro rfl;simp[bK]at h))),λh1=>?_⟩;refine⟨λh=>au (Eq.symm (decide_eq_false (by rintro rfl;simp[bK]at h))),λh2=>?_⟩;refine au (Eq.symm (decide_eq_true ?_));simp[bK]at h0 h1 h2;simp[Prod.ext_iff, *]
theorem QZw:Qf Tryz.prog L5:=Qh λx _=>QLw x.1 x.2.1
def Ac(t:Bool):aJ:=cd (bH t)
def L6:aP:=Qg 133 [(.a Qp),(.a Qp)] λx=>(none,Ac (bK (α:=Qi) x.1 x.2.1))
def QSP:aN:=⟨[we],false⟩
def QOJ:af :=
 (ag [(.ae [aD 2 (.box 154 0 2),aD 3 (.box 154 1 2),ab 4 (bm false)]),(ag [(.ae [an 5 2 0,ar 6 5 1,an 7 3 0,ar 8 7 1,aL 9 23 [6,8],bL 10 9]),(.cond 10 (ag [(.ae [ab 4 (bm false)]),.ret]) .skip)]),(ag [(.ae [an 11 2 1,ar 12 11 1,an 13 3 1,ar 14 13 1,aL 15 23 [12,14],bL 16 15]),(.cond 16 (ag [(.ae [ab 4 (bm false)]),.ret]) .skip)]),(.ae [ab 4 (bm true)]),.ret])
def QUJ:List (bw × Md):=[(.t 4,.one .d)]
theorem QW1(a:Qi)(b:Qi):aR Tryz.prog 133 [(.a [(.c (.sl [TI]) a.1),(.c (.sl [TI]) a.2)]),(.a [(.c (.sl [TI]) b.1),(.c (.sl [TI]) b.2)])] (Ac (bK (α:=Qi) a b)):=by
 refine bD QSP QOJ QUJ 0 0 17 L6 (kc DA kn) (λK =>
 (aS (!(bK (α:=List Int) a.1 b.1)) (K (Ac false)) (aS (!(bK (α:=List Int) a.2 b.2)) (K (Ac false)) (K (Ac true))))) (λhb=>?_)
 refine⟨λh=>au (Eq.symm (decide_eq_false (by rintro rfl;simp[bK]at h))),λh0=>?_⟩;refine⟨λh=>au (Eq.symm (decide_eq_false (by rintro rfl;simp[bK]at h))),λh1=>?_⟩;refine au (Eq.symm (decide_eq_true ?_));simp[bK]at h0 h1;simp[Prod.ext_iff, *]
theorem QXH:Qf Tryz.prog L6:=Qh λx _=>QW1 x.1 x.2.1
def uk(t:Bool):aJ:=cd (bH t)
def L7:aP:=Qg 40 [(.c (.sl Qp)),(.c (.sl Qp))] λx=>(none,uk (bK (α:=List Qi) x.1 x.2.1))
def L8:aN:=⟨[L6],false⟩
def QtR:af :=
 (ag [(ag [(.ae [ab 11 5,ab 12 0,bh 13 12,az 14 .lss 11 13]),(.cond 14 .skip (.exit 0))]),(.block 1 (ag [(.draw [ab 17 0,ab 18 5,bn 19 17 18 Qp,aZ 20 19 2,ab 21 1,ab 22 5,bn 23 21 22 Qp,aZ 24 23 2,aL 25 133 [20,24],bL 26 25] []),(.cond 26 (ag [(.ae [ab 4 (bm false)]),.ret]) .skip)])),(.ae [ab 15 5,az 16 .add 15 (aw 1),ab 5 16])])
def Qu8:List (Nat × Md):=ij [0,1,5]
def Qvo:af :=
 (ag [(.ae [ab 4 (bm true)]),.ret])
def QYr:af :=
 (ag [(.ae [ab 4 (bm false)]),(ag [(.ae [ab 6 0,bh 7 6,ab 8 1,bh 9 8,az 10 .neq 7 9]),(.cond 10 (ag [(.ae [ab 4 (bm false)]),.ret]) .skip)]),(ag [(.ae [ab 5 (aw 0)]),(.block 0 (.loop Qu8 QtR))]),Qvo])
def Qwp:List (bw × Md):=[(.t 4,.one .d)]
def QGp:Qb:=TQ 0 0 Qwp K
def QKw:Qb:=ba (aU L8 0 Qvo (QGp K)) (QGp K)
def QKY:Qb:=bf 0 (QKw K)
def L9(a:List Qi)(b:List Qi)(i:Int):Prop:=Loop L8 0 Qu8 QtR (QKY K) ⟨[(0,(bu Qp a)),(1,(bu Qp b)),(5,(aO i))],[],0⟩
theorem QQl(a:List Qi)(b:List Qi)(i:Int) (h :
 (aS (decide (i<(a.length:Int))) (((0<=i/\Int.toNat i<a.length)/\(0<=i/\Int.toNat i<b.length))/\(aS (!(bK (α:=Qi) (aq QP a (Int.toNat i)) (aq QP b (Int.toNat i)))) (K (uk false)) (L9 K a b (aI (i+1))))) (K (uk true)))):L9 K a b i :=
 Loop.of h
theorem QO8(a:List Qi)(b:List Qi):aR Tryz.prog 40 [(.c (.sl Qp) a),(.c (.sl Qp) b)] (uk (bK (α:=List Qi) a b)):=by
 refine bD L8 QYr Qwp 0 0 27 L7 (kc QXH kn) (λK =>
 (aS ((a.length:Int) != (b.length:Int)) (K (uk false)) (L9 K a b 0))) (λhb=>?_)
 exact zH QP (E:=bK) (λ_ _=>rfl) hb.1.1 (λi h=>QQl _ a b i h) (Q:=λx=>uk x=uk (bK (α:=List Qi) a b)) rfl
theorem Q1e:Qf Tryz.prog L7:=Qh λx _=>QO8 x.1 x.2.1
def DC(t:Int):aJ:=cd (aO t)
def Ma:aP:=Qg 152 [(.a aK),(.c TI)] λx=>(some (cS (α:=aE) x.1 x.2.1),DC (bS (α:=aE) x.1 x.2.1))
def QMj:aN:=⟨[zZ],false⟩
def Q4f:af :=
 (ag [(.ae [aD 2 (.box 184 0 4),ab 4 (aw 0)]),(.ae [an 5 2 3,ar 6 5 1,ab 7 1,aL 8 59 [6,7],ab 1 8]),(ag [(.ae [ab 9 1,az 10 .lss 9 (aw 0)]),(.cond 10 (ag [(.ae [ab 4 (aw (-1))]),.ret]) .skip)]),(.ae [ab 11 1,ab 4 11]),.ret])
def QPn:List (bw × Md):=[(.t 4,.one .d)]
theorem Q1x(a:aE)(left:Int)(hp:cS (α:=aE) a left):aR Tryz.prog 152 [(.a (aV.cells aK a)),(.c TI left)] (DC (bS (α:=aE) a left)):=by
 refine bD QMj Q4f QPn 0 0 12 Ma (kc LH kn) (λK =>
 ((cS (α:=List Int) a.2.2.2 left)/\(aS (decide ((bS (α:=List Int) a.2.2.2 left)<0)) (K (DC (-1:Int))) (K (DC (bS (α:=List Int) a.2.2.2 left)))))) (λhb=>?_)
 refine⟨hp,λh=>au (pZ (of_decide_eq_true h) (by first | omega | (simp only[Q9,Q1,ZJ];omega)) hp.1),λh=>?_⟩;exact au (congrArg (Jj · _) (by first | rfl | omega | (simp only[Q9,Q1,ZJ];omega)))
theorem QXK:Qf Tryz.prog Ma:=Qh λx h=>Q1x x.1 x.2.1 h
def um(t:Int):aJ:=cd (aO t)
def Mb:aP:=Qg 56 [(.c (.sl aK)),(.c TI)] λx=>(some (cS (α:=List aE) x.1 x.2.1),um (bS (α:=List aE) x.1 x.2.1))
def Mc:aN:=⟨[Ma],false⟩
def QG1:af :=
 (ag [(ag [(.ae [ab 12 5,ab 13 0,bh 14 13,az 15 .lss 12 14]),(.cond 15 .skip (.exit 0))]),(.block 1 (ag [(.ae [ab 18 0,ab 19 5,bn 20 18 19 aK,aZ 21 20 4,ab 22 1,aL 23 152 [21,22],ab 1 23]),(.ae [ab 24 1,az 25 .lss 24 (aw 0)]),(.cond 25 (ag [(.ae [ab 4 (aw (-1))]),.ret]) .skip)])),(.ae [ab 16 5,az 17 .add 16 (aw 1),ab 5 17])])
def QHr:List (Nat × Md):=ij [0,1,5]
def QwD:af :=
 (ag [(.ae [ab 26 1,ab 4 26]),.ret])
def QKI:af :=
 (ag [(.ae [ab 4 (aw 0)]),(.ae [ab 6 1,ab 7 0,bh 8 7,az 9 .sub 6 8,ab 1 9]),(ag [(.ae [ab 10 1,az 11 .lss 10 (aw 0)]),(.cond 11 (ag [(.ae [ab 4 (aw (-1))]),.ret]) .skip)]),(ag [(.ae [ab 5 (aw 0)]),(.block 0 (.loop QHr QG1))]),QwD])
def Qz7:List (bw × Md):=[(.t 4,.one .d)]
def QIP:Qb:=TQ 0 0 Qz7 K
def QON:Qb:=ba (aU Mc 0 QwD (QIP K)) (QIP K)
def QKA:Qb:=bf 0 (QON K)
def Me(a:List aE)(eA:Int)(i:Int):Prop:=Loop Mc 0 QHr QG1 (QKA K) ⟨[(0,(bu aK a)),(1,(aO eA)),(5,(aO i))],[],0⟩
theorem QUt(a:List aE)(eA:Int)(i:Int) (h :
 (aS (decide (i<(a.length:Int))) (((0<=i/\Int.toNat i<a.length)/\(cS (α:=aE) (aq bY a (Int.toNat i)) eA))/\(aS (decide ((bS (α:=aE) (aq bY a (Int.toNat i)) eA)<0)) (K (um (-1:Int))) (Me K a (bS (α:=aE) (aq bY a (Int.toNat i)) eA) (aI (i+1))))) (K (um eA)))):Me K a eA i :=
 Loop.of h
theorem QMd(a:List aE)(left:Int)(hp:cS (α:=List aE) a left):aR Tryz.prog 56 [(.c (.sl aK) a),(.c TI left)] (um (bS (α:=List aE) a left)):=by
 refine bD Mc QKI Qz7 0 0 27 Mb (kc QXK kn) (λK =>
 (aS (decide ((aI (left-(a.length:Int)))<0)) (K (um (-1:Int))) (Me K a (aI (left-(a.length:Int))) 0))) (λhb=>?_)
 exact WY (Q:=λx=>um x=um (bS (α:=List aE) a left)) bY hp hb.1.1 (λl i h=>QUt _ a l i h) rfl
theorem QNw:Qf Tryz.prog Mb:=Qh λx h=>QMd x.1 x.2.1 h
def DE(t:Int):aJ:=cd (aO t)
def Mf:aP:=Qg 114 [(.a [(.sl aK)]),(.c TI)] λx=>(some (cS (α:=List aE) x.1 x.2.1),DE (bS (α:=List aE) x.1 x.2.1))
def QPP:aN:=⟨[Mb],false⟩
def QLN:af :=
 (ag [(.ae [aD 2 (.box 69 0 1),ab 4 (aw 0)]),(.ae [an 5 2 0,ar 6 5 1,ab 7 1,aL 8 56 [6,7],ab 1 8]),(ag [(.ae [ab 9 1,az 10 .lss 9 (aw 0)]),(.cond 10 (ag [(.ae [ab 4 (aw (-1))]),.ret]) .skip)]),(.ae [ab 11 1,ab 4 11]),.ret])
def Q2V:List (bw × Md):=[(.t 4,.one .d)]
theorem QOz(a:List aE)(left:Int)(hp:cS (α:=List aE) a left):aR Tryz.prog 114 [(.a [(.c (.sl aK) a)]),(.c TI left)] (DE (bS (α:=List aE) a left)):=by
 refine bD QPP QLN Q2V 0 0 12 Mf (kc QNw kn) (λK =>
 ((cS (α:=List aE) a left)/\(aS (decide ((bS (α:=List aE) a left)<0)) (K (DE (-1:Int))) (K (DE (bS (α:=List aE) a left)))))) (λhb=>?_)
 refine⟨hp,λh=>au (pZ (of_decide_eq_true h) (by first | omega | (simp only[Q9,Q1,ZJ];omega)) hp.1),λh=>?_⟩;exact au (congrArg (Jj · _) (by first | rfl | omega | (simp only[Q9,Q1,ZJ];omega)))
theorem QWD:Qf Tryz.prog Mf:=Qh λx h=>QOz x.1 x.2.1 h
def Mg(t:aE):aJ:=⟨(.a [(aO t.1),(aO t.2.1),(aO t.2.2.1),(.r [TI] 0 0 ((t.2.2.2).length))]),[(.sl 3 [TI] (.dp 0 true []) t.2.2.2)],[],false,[]⟩
def Mh:aP:=Qg 162 [(.a aK)] λx=>(some (cP (α:=aE) x.1),Mg (id (α:=aE) x.1))
def QWX:aN:=⟨[Ab],true⟩
def Q0u:af :=
 (ag [(.ae [aD 1 (.box 184 0 4),aD 2 (.new 134 (bC aK))]),(.ae [aD 3 (.new 134 (bC aK))]),(.ae [an 4 1 0,ar 5 4 1,an 6 3 0,a8 6 5 1]),(.ae [an 7 1 1,ar 8 7 1,an 9 3 1,a8 9 8 1]),(.ae [an 10 1 2,ar 11 10 1,an 12 3 2,a8 12 11 1]),(.ae [an 13 1 3,ar 14 13 1,aL 15 29 [14],an 16 3 3,a8 16 15 1]),(.ae [aZ 17 3 4,a8 2 17 4]),.ret])
def Q0S:List (bw × Md):=[(.l 2 4 true,.b [.d,.d,.d,.p 3])]
theorem QS7(a:aE)(hp:cP (α:=aE) a):aR Tryz.prog 162 [(.a (aV.cells aK a))] (Mg (id (α:=aE) a)):=by
 refine bD QWX Q0u Q0S 0 0 18 Mh (kc LO kn) (λK =>
 ((cP (α:=List Int) a.2.2.2)/\K (Mg (a.1,a.2.1,a.2.2.1,(List.take ((id (α:=List Int) a.2.2.2).length) (id (α:=List Int) a.2.2.2)))))) (λhb=>?_)
 repeat' (first | refine And.intro ?_ ?_ | exact au (by simp))
 all_goals (simp only[cP,Q9,Q1,ZJ,List.drop_zero,List.take_length,id_eq]at hp ⊢;omega)
theorem QUi:Qf Tryz.prog Mh:=Qh λx h=>QS7 x.1 h
def wi(t:(List aE)):aJ:=⟨(.r aK 0 0 t.length),[(.sl 134 aK (.dp 0 true []) t)],[],false,[]⟩
def Mi:aP:=Qg 66 [(.c (.sl aK))] λx=>(some (cP (α:=List aE) x.1),wi (id (α:=List aE) x.1))
def Mj:aN:=⟨[Mh],true⟩
def QwG:af :=
 (ag [(ag [(.ae [ab 8 4,ab 9 0,bh 10 9,az 11 .lss 8 10]),(.cond 11 .skip (.exit 0))]),(.block 1 (.ae [ab 14 3,ab 15 4,ab 16 0,ab 17 4,bn 18 16 17 aK,aZ 19 18 4,aL 20 162 [19],bn 21 14 15 aK,a8 21 20 4])),(.ae [ab 12 4,az 13 .add 12 (aw 1),ab 4 13])])
def QFY:List (Nat × Md):=[(0,.one .d),(3,.one .f),(4,.one .d)]
def QGa:af :=
 (ag [(.ae [ab 22 3,ab 2 22]),.ret])
def QO2:af :=
 (ag [(.ae [ab 2 (.k (.n aK))]),(.ae [ab 5 0,bh 6 5,aD 7 (.mk 134 aK (bC aK) 6),ab 3 7]),(ag [(.ae [ab 4 (aw 0)]),(.block 0 (.loop QFY QwG))]),QGa])
def QGn:List (bw × Md):=[(.t 2,.one (.p 134))]
def Qyj:Qb:=TQ 0 0 QGn K
def QQp:Qb:=ba (aU Mj 0 QGa (Qyj K)) (Qyj K)
def Q3U:Qb:=bf 0 (QQp K)
def DF(a:List aE)(i:Int)(out:List aE):Prop:=Loop Mj 0 QFY QwG (Q3U K) ⟨[(0,(bu aK a)),(3,(.r aK 0 0 out.length)),(4,(aO i))],[(0,(.sl 134 aK (.dp 0 true []) out))],1⟩
theorem Qzu(a:List aE)(i:Int)(out:List aE) (h :
 (aS (decide (i<(a.length:Int))) (((0<=i/\Int.toNat i<a.length)/\((cP (α:=aE) (aq bY a (Int.toNat i)))/\((0<=i/\Int.toNat i<out.length)/\((0+(Int.toNat i))<out.length))))/\(DF K a (aI (i+1)) (List.take out.length ((out).set (0+(Int.toNat i)) ((id (α:=aE) (aq bY a (Int.toNat i))).1,(id (α:=aE) (aq bY a (Int.toNat i))).2.1,(id (α:=aE) (aq bY a (Int.toNat i))).2.2.1,(List.take (((id (α:=aE) (aq bY a (Int.toNat i))).2.2.2).length) (List.drop 0 ((id (α:=aE) (aq bY a (Int.toNat i))).2.2.2)))))))) (K (wi (List.take out.length out))))):DF K a i out :=
 Loop.of h
theorem QOX(a:List aE)(hp:cP (α:=List aE) a):aR Tryz.prog 66 [(.c (.sl aK) a)] (wi (id (α:=List aE) a)):=by
 refine bD Mj QO2 QGn 0 0 23 Mi (kc QUi kn) (λK =>
 ((0<=(a.length:Int)/\(a.length:Int)<=bP)/\(DF K a 0 (List.take (Int.toNat (a.length:Int)) (List.replicate (Int.toNat (a.length:Int)) ((0:Int),(0:Int),(0:Int),[])))))) (λhb=>?_)
 refine⟨⟨by omega,by rw[jV];have:=ry hp;omega⟩,?_⟩;refine Du a (A:=λii ll=>DF (λr'=>r'=wi (id (α:=List aE) a)) a ii ll) (Q:=λz=>wi z=wi (id (α:=List aE) a)) hp ?_ ?_ rfl
 ·intro k x out aY hg ho hx hA;have hw:aI (((k:Nat):Int)+1)=((k+1:Nat):Int):=by have:=ry hp;rw[Qy (by omega) (by omega)];omega
  have my:k<out.length:=by omega
  refine Qzu _ _ _ _ ?_;refine⟨λ_=>?_,λh=>absurd h (by simp;omega)⟩;simp only[Int.toNat_natCast,Nat.zero_add,hg,hw,aY,my,Dt,List.drop_zero,List.take_length,id_eq,and_true,true_and,Int.natCast_nonneg]
  first | exact hA | exact⟨hx,hA⟩
 ·intro out ho hq;refine Qzu _ _ _ _ ?_;refine⟨λh=>absurd h (by simp),λ_=>?_⟩;simp only[List.drop_zero,List.take_length];exact hq
theorem QP7:Qf Tryz.prog Mi:=Qh λx h=>QOX x.1 h
def Ml(t:(List aE)):aJ:=⟨(.a [(.r aK 0 0 t.length)]),[(.sl 134 aK (.dp 0 true []) t)],[],false,[]⟩
def Mm:aP:=Qg 122 [(.a [(.sl aK)])] λx=>(some (cP (α:=List aE) x.1),Ml (id (α:=List aE) x.1))
def QYE:aN:=⟨[Mi],true⟩
def QJs:af :=
 (ag [(.ae [aD 1 (.box 69 0 1),aD 2 (.new 77 [(.n aK)])]),(.ae [aD 3 (.new 77 [(.n aK)])]),(.ae [an 4 1 0,ar 5 4 1,aL 6 66 [5],an 7 3 0,a8 7 6 1]),(.ae [aZ 8 3 1,a8 2 8 1]),.ret])
def QNe:List (bw × Md):=[(.l 2 1 true,.b [.p 134])]
theorem Q1p(a:List aE)(hp:cP (α:=List aE) a):aR Tryz.prog 122 [(.a [(.c (.sl aK) a)])] (Ml (id (α:=List aE) a)):=by
 refine bD QYE QJs QNe 0 0 9 Mm (kc QP7 kn) (λK =>
 ((cP (α:=List aE) a)/\K (Ml (List.take ((id (α:=List aE) a).length) (id (α:=List aE) a))))) (λhb=>?_)
 repeat' (first | refine And.intro ?_ ?_ | exact au (by simp))
 all_goals (simp only[cP,Q9,Q1,ZJ,List.drop_zero,List.take_length,id_eq]at hp ⊢;omega)
theorem QUX:Qf Tryz.prog Mm:=Qh λx h=>Q1p x.1 h
def uo(t:Bool):aJ:=cd (bH t)
def Mn:aP:=Qg 172 [(.a aK),(.a aK)] λx=>(none,uo (bK (α:=aE) x.1 x.2.1))
def Q3B:aN:=⟨[we],false⟩
def Q3V:af :=
 (ag [(.ae [aD 2 (.box 134 0 4),aD 3 (.box 134 1 4),ab 4 (bm false)]),(ag [(.ae [an 5 2 0,ar 6 5 1,an 7 3 0,ar 8 7 1,az 9 .neq 6 8]),(.cond 9 (ag [(.ae [ab 4 (bm false)]),.ret]) .skip)]),(ag [(.ae [an 10 2 1,ar 11 10 1,an 12 3 1,ar 13 12 1,az 14 .neq 11 13]),(.cond 14 (ag [(.ae [ab 4 (bm false)]),.ret]) .skip)]),(ag [(.ae [an 15 2 2,ar 16 15 1,an 17 3 2,ar 18 17 1,az 19 .neq 16 18]),(.cond 19 (ag [(.ae [ab 4 (bm false)]),.ret]) .skip)]),(ag [(.ae [an 20 2 3,ar 21 20 1,an 22 3 3,ar 23 22 1,aL 24 23 [21,23],bL 25 24]),(.cond 25 (ag [(.ae [ab 4 (bm false)]),.ret]) .skip)]),(.ae [ab 4 (bm true)]),.ret])
def QXu:List (bw × Md):=[(.t 4,.one .d)]
theorem QLk(a:aE)(b:aE):aR Tryz.prog 172 [(.a (aV.cells aK a)),(.a (aV.cells aK b))] (uo (bK (α:=aE) a b)):=by
 refine bD Q3B Q3V QXu 0 0 26 Mn (kc DA kn) (λK =>
 (aS (a.1 != b.1) (K (uo false)) (aS (a.2.1 != b.2.1) (K (uo false)) (aS (a.2.2.1 != b.2.2.1) (K (uo false)) (aS (!(bK (α:=List Int) a.2.2.2 b.2.2.2)) (K (uo false)) (K (uo true))))))) (λhb=>?_)
 refine⟨λh=>au (Eq.symm (decide_eq_false (by rintro rfl;simp[bK]at h))),λh0=>?_⟩;refine⟨λh=>au (Eq.symm (decide_eq_false (by rintro rfl;simp[bK]at h))),λh1=>?_⟩;refine⟨λh=>au (Eq.symm (decide_eq_false (by rintro rfl;simp[bK]at h))),λh2=>?_⟩;refine⟨λh=>au (Eq.symm (decide_eq_false (by rintro rfl;simp[bK]at h))),λh3=>?_⟩;refine au (Eq.symm (decide_eq_true ?_));simp[bK]at h0 h1 h2 h3;simp[Prod.ext_iff, *]
theorem QSn:Qf Tryz.prog Mn:=Qh λx _=>QLk x.1 x.2.1
def uq(t:Bool):aJ:=cd (bH t)
def Mp:aP:=Qg 76 [(.c (.sl aK)),(.c (.sl aK))] λx=>(none,uq (bK (α:=List aE) x.1 x.2.1))
def Mq:aN:=⟨[Mn],false⟩
def Qxy:af :=
 (ag [(ag [(.ae [ab 11 5,ab 12 0,bh 13 12,az 14 .lss 11 13]),(.cond 14 .skip (.exit 0))]),(.block 1 (ag [(.draw [ab 17 0,ab 18 5,bn 19 17 18 aK,aZ 20 19 4,ab 21 1,ab 22 5,bn 23 21 22 aK,aZ 24 23 4,aL 25 172 [20,24],bL 26 25] []),(.cond 26 (ag [(.ae [ab 4 (bm false)]),.ret]) .skip)])),(.ae [ab 15 5,az 16 .add 15 (aw 1),ab 5 16])])
def QDz:List (Nat × Md):=ij [0,1,5]
def Qt6:af :=
 (ag [(.ae [ab 4 (bm true)]),.ret])
def Q1y:af :=
 (ag [(.ae [ab 4 (bm false)]),(ag [(.ae [ab 6 0,bh 7 6,ab 8 1,bh 9 8,az 10 .neq 7 9]),(.cond 10 (ag [(.ae [ab 4 (bm false)]),.ret]) .skip)]),(ag [(.ae [ab 5 (aw 0)]),(.block 0 (.loop QDz Qxy))]),Qt6])
def QFF:List (bw × Md):=[(.t 4,.one .d)]
def QtY:Qb:=TQ 0 0 QFF K
def QT5:Qb:=ba (aU Mq 0 Qt6 (QtY K)) (QtY K)
def QOy:Qb:=bf 0 (QT5 K)
def Mr(a:List aE)(b:List aE)(i:Int):Prop:=Loop Mq 0 QDz Qxy (QOy K) ⟨[(0,(bu aK a)),(1,(bu aK b)),(5,(aO i))],[],0⟩
theorem Q01(a:List aE)(b:List aE)(i:Int) (h :
 (aS (decide (i<(a.length:Int))) (((0<=i/\Int.toNat i<a.length)/\(0<=i/\Int.toNat i<b.length))/\(aS (!(bK (α:=aE) (aq bY a (Int.toNat i)) (aq bY b (Int.toNat i)))) (K (uq false)) (Mr K a b (aI (i+1))))) (K (uq true)))):Mr K a b i :=
 Loop.of h
theorem QV0(a:List aE)(b:List aE):aR Tryz.prog 76 [(.c (.sl aK) a),(.c (.sl aK) b)] (uq (bK (α:=List aE) a b)):=by
 refine bD Mq Q1y QFF 0 0 27 Mp (kc QSn kn) (λK =>
 (aS ((a.length:Int) != (b.length:Int)) (K (uq false)) (Mr K a b 0))) (λhb=>?_)
 exact zH bY (E:=bK) (λ_ _=>rfl) hb.1.1 (λi h=>Q01 _ a b i h) (Q:=λx=>uq x=uq (bK (α:=List aE) a b)) rfl
theorem QZr:Qf Tryz.prog Mp:=Qh λx _=>QV0 x.1 x.2.1
def DG(t:Bool):aJ:=cd (bH t)
def Ms:aP:=Qg 131 [(.a [(.sl aK)]),(.a [(.sl aK)])] λx=>(none,DG (bK (α:=List aE) x.1 x.2.1))
def QMh:aN:=⟨[Mp],false⟩
def Q2H:af :=
 (ag [(.ae [aD 2 (.box 77 0 1),aD 3 (.box 77 1 1),ab 4 (bm false)]),(ag [(.ae [an 5 2 0,ar 6 5 1,an 7 3 0,ar 8 7 1,aL 9 76 [6,8],bL 10 9]),(.cond 10 (ag [(.ae [ab 4 (bm false)]),.ret]) .skip)]),(.ae [ab 4 (bm true)]),.ret])
def QL6:List (bw × Md):=[(.t 4,.one .d)]
theorem Q2E(a:List aE)(b:List aE):aR Tryz.prog 131 [(.a [(.c (.sl aK) a)]),(.a [(.c (.sl aK) b)])] (DG (bK (α:=List aE) a b)):=by
 refine bD QMh Q2H QL6 0 0 11 Ms (kc QZr kn) (λK =>
 (aS (!(bK (α:=List aE) a b)) (K (DG false)) (K (DG true)))) (λhb=>?_)
 refine⟨λh=>au (Eq.symm (decide_eq_false (by rintro rfl;simp[bK]at h))),λh0=>?_⟩;refine au (Eq.symm (decide_eq_true ?_));simp[bK]at h0;simp[Prod.ext_iff, *]
theorem QM6:Qf Tryz.prog Ms:=Qh λx _=>Q2E x.1 x.2.1
def rz(t:Int):aJ:=cd (aO t)
def Mt:aP:=Qg 33 [(.a Q5),(.c TI)] λx=>(some (cS (α:=QC) x.1 x.2.1),rz (bS (α:=QC) x.1 x.2.1))
def QT8:aN:=⟨[Mf,zZ,LI],false⟩
def Q1D:af :=
 (ag [(.ae [aD 2 (.box 72 0 6),ab 4 (aw 0)]),(.ae [an 5 2 0,aZ 6 5 1,ab 7 1,aL 8 114 [6,7],ab 1 8]),(ag [(.ae [ab 9 1,az 10 .lss 9 (aw 0)]),(.cond 10 (ag [(.ae [ab 4 (aw (-1))]),.ret]) .skip)]),(.ae [an 11 2 1,ar 12 11 1,ab 13 1,aL 14 59 [12,13],ab 1 14]),(ag [(.ae [ab 15 1,az 16 .lss 15 (aw 0)]),(.cond 16 (ag [(.ae [ab 4 (aw (-1))]),.ret]) .skip)]),(.ae [an 17 2 3,ar 18 17 1,ab 19 1,aL 20 115 [18,19],ab 1 20]),(ag [(.ae [ab 21 1,az 22 .lss 21 (aw 0)]),(.cond 22 (ag [(.ae [ab 4 (aw (-1))]),.ret]) .skip)]),(.ae [an 23 2 4,ar 24 23 1,ab 25 1,aL 26 59 [24,25],ab 1 26]),(ag [(.ae [ab 27 1,az 28 .lss 27 (aw 0)]),(.cond 28 (ag [(.ae [ab 4 (aw (-1))]),.ret]) .skip)]),(.ae [an 29 2 5,ar 30 29 1,ab 31 1,aL 32 59 [30,31],ab 1 32]),(ag [(.ae [ab 33 1,az 34 .lss 33 (aw 0)]),(.cond 34 (ag [(.ae [ab 4 (aw (-1))]),.ret]) .skip)]),(.ae [ab 35 1,ab 4 35]),.ret])
def QXP:List (bw × Md):=[(.t 4,.one .d)]
theorem QWR(a:QC)(left:Int)(hp:cS (α:=QC) a left):aR Tryz.prog 33 [(.a (aV.cells Q5 a)),(.c TI left)] (rz (bS (α:=QC) a left)):=by
 refine bD QT8 Q1D QXP 0 0 36 Mt (kc QWD (kc LH (kc QXe kn))) (λK =>
 let z2:=bS (α:=List aE) a.1 left
 let z4:=bS (α:=List Int) a.2.1 z2
 let z1:=bS (α:=List Bool) a.2.2.2.1 z4
 let z3:=bS (α:=List Int) a.2.2.2.2.1 z1
 ((cS (α:=List aE) a.1 left)/\(aS (decide (z2<0)) (K (rz (-1:Int))) ((cS (α:=List Int) a.2.1 z2)/\(aS (decide (z4<0)) (K (rz (-1:Int))) ((cS (α:=List Bool) a.2.2.2.1 z4)/\(aS (decide (z1<0)) (K (rz (-1:Int))) ((cS (α:=List Int) a.2.2.2.2.1 z1)/\(aS (decide (z3<0)) (K (rz (-1:Int))) ((cS (α:=List Int) a.2.2.2.2.2 z3)/\(aS (decide ((bS (α:=List Int) a.2.2.2.2.2 z3)<0)) (K (rz (-1:Int))) (K (rz (bS (α:=List Int) a.2.2.2.2.2 z3)))))))))))))) (λhb=>?_)
 refine⟨hp,λh=>au (pZ (of_decide_eq_true h) (by first | omega | (simp only[Q9,Q1,ZJ];omega)) hp.1),λh=>?_⟩;rw[zG (Int.not_lt.1 (of_decide_eq_false h))];refine⟨vV hp,λh=>au (pZ (of_decide_eq_true h) (by first | omega | (simp only[Q9,Q1,ZJ];omega)) hp.1),λh=>?_⟩;rw[zG (Int.not_lt.1 (of_decide_eq_false h))];refine⟨vV hp,λh=>au (pZ (of_decide_eq_true h) (by first | omega | (simp only[Q9,Q1,ZJ];omega)) hp.1),λh=>?_⟩;rw[zG (Int.not_lt.1 (of_decide_eq_false h))];refine⟨vV hp,λh=>au (pZ (of_decide_eq_true h) (by first | omega | (simp only[Q9,Q1,ZJ];omega)) hp.1),λh=>?_⟩;rw[zG (Int.not_lt.1 (of_decide_eq_false h))];refine⟨vV hp,λh=>au (pZ (of_decide_eq_true h) (by first | omega | (simp only[Q9,Q1,ZJ];omega)) hp.1),λh=>?_⟩;exact au (congrArg (Jj · _) (by first | rfl | omega | (simp only[Q9,Q1,ZJ];omega)))
theorem QNT:Qf Tryz.prog Mt:=Qh λx h=>QWR x.1 x.2.1 h
def Mu(t:QC):aJ:=⟨(.a [(.r aK 0 0 ((t.1).length)),(.r [TI] 1 0 ((t.2.1).length)),(aO t.2.2.1),(.r [.bool] 2 0 ((t.2.2.2.1).length)),(.r [TI] 3 0 ((t.2.2.2.2.1).length)),(.r [TI] 4 0 ((t.2.2.2.2.2).length))]),[(.sl 134 aK (.dp 0 true []) t.1),(.sl 3 [TI] (.dp 0 true []) t.2.1),(.sl 4 [.bool] (.dp 0 true []) t.2.2.2.1),(.sl 3 [TI] (.dp 0 true []) t.2.2.2.2.1),(.sl 3 [TI] (.dp 0 true []) t.2.2.2.2.2)],[],false,[]⟩
def Mv:aP:=Qg 36 [(.a Q5)] λx=>(some (cP (α:=QC) x.1),Mu (id (α:=QC) x.1))
def QLo:aN:=⟨[Mm,Ab,LP],true⟩
def QQM:af :=
 (ag [(.ae [aD 1 (.box 72 0 6),aD 2 (.new 79 (bC Q5))]),(.ae [aD 3 (.new 79 (bC Q5))]),(.ae [an 4 1 0,aZ 5 4 1,aL 6 122 [5],an 7 3 0,a8 7 6 1]),(.ae [an 8 1 1,ar 9 8 1,aL 10 29 [9],an 11 3 1,a8 11 10 1]),(.ae [an 12 1 2,ar 13 12 1,an 14 3 2,a8 14 13 1]),(.ae [an 15 1 3,ar 16 15 1,aL 17 123 [16],an 18 3 3,a8 18 17 1]),(.ae [an 19 1 4,ar 20 19 1,aL 21 29 [20],an 22 3 4,a8 22 21 1]),(.ae [an 23 1 5,ar 24 23 1,aL 25 29 [24],an 26 3 5,a8 26 25 1]),(.ae [aZ 27 3 6,a8 2 27 6]),.ret])
def QJK:List (bw × Md):=[(.l 2 6 true,.b [.p 134,.p 3,.d,.p 4,.p 3,.p 3])]
theorem QYC(a:QC)(hp:cP (α:=QC) a):aR Tryz.prog 36 [(.a (aV.cells Q5 a))] (Mu (id (α:=QC) a)):=by
 refine bD QLo QQM QJK 0 0 28 Mv (kc QUX (kc LO (kc Q29 kn))) (λK =>
 ((cP (α:=List aE) a.1)/\((cP (α:=List Int) a.2.1)/\((cP (α:=List Bool) a.2.2.2.1)/\((cP (α:=List Int) a.2.2.2.2.1)/\((cP (α:=List Int) a.2.2.2.2.2)/\K (Mu ((List.take ((id (α:=List aE) a.1).length) (id (α:=List aE) a.1)),(List.take ((id (α:=List Int) a.2.1).length) (id (α:=List Int) a.2.1)),a.2.2.1,(List.take ((id (α:=List Bool) a.2.2.2.1).length) (id (α:=List Bool) a.2.2.2.1)),(List.take ((id (α:=List Int) a.2.2.2.2.1).length) (id (α:=List Int) a.2.2.2.2.1)),(List.take ((id (α:=List Int) a.2.2.2.2.2).length) (id (α:=List Int) a.2.2.2.2.2)))))))))) (λhb=>?_)
 repeat' (first | refine And.intro ?_ ?_ | exact au (by simp))
 all_goals (simp only[cP,Q9,Q1,ZJ,List.drop_zero,List.take_length,id_eq]at hp ⊢;omega)
theorem QKN:Qf Tryz.prog Mv:=Qh λx h=>QYC x.1 h
def p8(t:Bool):aJ:=cd (bH t)
def Mw:aP:=Qg 39 [(.a Q5),(.a Q5)] λx=>(none,p8 (bK (α:=QC) x.1 x.2.1))
def QOR:aN:=⟨[Ms,we,LY],false⟩
def Q2Q:af :=
 (ag [(.ae [aD 2 (.box 79 0 6),aD 3 (.box 79 1 6),ab 4 (bm false)]),(ag [(.ae [an 5 2 0,aZ 6 5 1,an 7 3 0,aZ 8 7 1,aL 9 131 [6,8],bL 10 9]),(.cond 10 (ag [(.ae [ab 4 (bm false)]),.ret]) .skip)]),(ag [(.ae [an 11 2 1,ar 12 11 1,an 13 3 1,ar 14 13 1,aL 15 23 [12,14],bL 16 15]),(.cond 16 (ag [(.ae [ab 4 (bm false)]),.ret]) .skip)]),(ag [(.ae [an 17 2 2,ar 18 17 1,an 19 3 2,ar 20 19 1,az 21 .neq 18 20]),(.cond 21 (ag [(.ae [ab 4 (bm false)]),.ret]) .skip)]),(ag [(.ae [an 22 2 3,ar 23 22 1,an 24 3 3,ar 25 24 1,aL 26 132 [23,25],bL 27 26]),(.cond 27 (ag [(.ae [ab 4 (bm false)]),.ret]) .skip)]),(ag [(.ae [an 28 2 4,ar 29 28 1,an 30 3 4,ar 31 30 1,aL 32 23 [29,31],bL 33 32]),(.cond 33 (ag [(.ae [ab 4 (bm false)]),.ret]) .skip)]),(ag [(.ae [an 34 2 5,ar 35 34 1,an 36 3 5,ar 37 36 1,aL 38 23 [35,37],bL 39 38]),(.cond 39 (ag [(.ae [ab 4 (bm false)]),.ret]) .skip)]),(.ae [ab 4 (bm true)]),.ret])
def QJ9:List (bw × Md):=[(.t 4,.one .d)]
theorem QTr(a:QC)(b:QC):aR Tryz.prog 39 [(.a (aV.cells Q5 a)),(.a (aV.cells Q5 b))] (p8 (bK (α:=QC) a b)):=by
 refine bD QOR Q2Q QJ9 0 0 40 Mw (kc QM6 (kc DA (kc QTP kn))) (λK =>
 (aS (!(bK (α:=List aE) a.1 b.1)) (K (p8 false)) (aS (!(bK (α:=List Int) a.2.1 b.2.1)) (K (p8 false)) (aS (a.2.2.1 != b.2.2.1) (K (p8 false)) (aS (!(bK (α:=List Bool) a.2.2.2.1 b.2.2.2.1)) (K (p8 false)) (aS (!(bK (α:=List Int) a.2.2.2.2.1 b.2.2.2.2.1)) (K (p8 false)) (aS (!(bK (α:=List Int) a.2.2.2.2.2 b.2.2.2.2.2)) (K (p8 false)) (K (p8 true))))))))) (λhb=>?_)
 refine⟨λh=>au (Eq.symm (decide_eq_false (by rintro rfl;simp[bK]at h))),λh0=>?_⟩;refine⟨λh=>au (Eq.symm (decide_eq_false (by rintro rfl;simp[bK]at h))),λh1=>?_⟩;refine⟨λh=>au (Eq.symm (decide_eq_false (by rintro rfl;simp[bK]at h))),λh2=>?_⟩;refine⟨λh=>au (Eq.symm (decide_eq_false (by rintro rfl;simp[bK]at h))),λh3=>?_⟩;refine⟨λh=>au (Eq.symm (decide_eq_false (by rintro rfl;simp[bK]at h))),λh4=>?_⟩;refine⟨λh=>au (Eq.symm (decide_eq_false (by rintro rfl;simp[bK]at h))),λh5=>?_⟩;refine au (Eq.symm (decide_eq_true ?_));simp[bK]at h0 h1 h2 h3 h4 h5;simp[Prod.ext_iff, *]
theorem QJB:Qf Tryz.prog Mw:=Qh λx _=>QTr x.1 x.2.1
def Mx(t:Bool):aJ:=cd (bH t)
def YF:aP:=Qg 158 [(.c TI),(.c TI),(.c TI)] λx=>(none,Mx (aT x.1 x.2.1 x.2.2.1))
def QK6:aN:=⟨[],false⟩
def QTC:af :=
 (ag [(.ae [ab 6 (bm false)]),(.ae [ab 7 0,ab 8 1,az 9 .geq 7 8,ab 10 9,.bj 10 true [ab 11 0,ab 12 2,az 13 .leq 11 12] 14 13,ab 6 14]),.ret])
def QRo:List (bw × Md):=[(.t 6,.one .d)]
theorem QNn(x:Int)(low:Int)(high:Int):aR Tryz.prog 158 [(.c TI x),(.c TI low),(.c TI high)] (Mx (aT x low high)):=by
 refine bD QK6 QTC QRo 0 0 15 YF kn (λK =>
 K (Mx ((decide (x>=low))&&(decide (x<=high))))) (λhb=>?_)
 exact au rfl
theorem YV:Qf Tryz.prog YF:=Qh λx _=>QNn x.1 x.2.1 x.2.2.1
def My(t:Bool):aJ:=cd (bH t)
def wj:aP:=Qg 183 [(.c TI)] λx=>(none,My (Zj x.1))
def QOl:aN:=⟨[YF],false⟩
def QLS:af :=
 (ag [(.ae [ab 2 (bm false)]),(.ae [ab 3 0,aL 4 158 [3,(aw (-2147483647)),(aw 2147483647)],ab 2 4]),.ret])
def QN4:List (bw × Md):=[(.t 2,.one .d)]
theorem Q3X(x:Int):aR Tryz.prog 183 [(.c TI x)] (My (Zj x)):=by
 refine bD QOl QLS QN4 0 0 5 wj (kc YV kn) (λK =>
 K (My (aT x (-2147483647:Int) (2147483647:Int)))) (λhb=>?_)
 exact au rfl
theorem DH:Qf Tryz.prog wj:=Qh λx _=>Q3X x.1
def Mz(t:Bool):aJ:=cd (bH t)
def Ad:aP:=Qg 240 [(.c TI)] λx=>(none,Mz (Zj x.1))
def QPe:aN:=⟨[],false⟩
def QR2:af :=
 (ag [(.ae [ab 2 (bm false)]),(.ae [ab 3 0,az 4 .geq 3 (aw (-2147483647)),ab 5 4,.bj 5 true [ab 6 0,az 7 .leq 6 (aw 2147483647)] 8 7,ab 2 8]),.ret])
def QZa:List (bw × Md):=[(.t 2,.one .d)]
theorem QKL(x:Int):aR Tryz.prog 240 [(.c TI x)] (Mz (Zj x)):=by
 refine bD QPe QR2 QZa 0 0 9 Ad kn (λK =>
 K (Mz ((decide (x>=(-2147483647:Int)))&&(decide (x<=2147483647))))) (λhb=>?_)
 exact au rfl
theorem MA:Qf Tryz.prog Ad:=Qh λx _=>QKL x.1
def wm(t:Bool):aJ:=cd (bH t)
def Ae:aP:=Qg 238 [(.c (.sl [TI]))] λx=>(none,wm (ZT x.1))
def MB:aN:=⟨[Ad],false⟩
def QBR:af :=
 (ag [(.ae [az 8 .lss 7 6]),(.cond 8 .skip (.exit 0)),(.block 1 (ag [(.ae [bn 9 5 7 [TI],ar 10 9 1,ab 4 10]),(.ae [ab 11 4,aL 12 240 [11],bL 13 12]),(.cond 13 (ag [(.ae [ab 2 (bm false)]),.ret]) .skip)])),(.ae [az 14 .add 7 (aw 1),ab 7 14])])
def Qxk:List (Nat × Md):=ij [5,6,7]
def QAP:af :=
 (ag [(.ae [ab 2 (bm true)]),.ret])
def QQW:af :=
 (ag [(.ae [ab 2 (bm false)]),(ag [(.ae [ab 5 0,bh 6 5,ab 7 (aw 0)]),(.block 0 (.loop Qxk QBR))]),QAP])
def QtS:List (bw × Md):=[(.t 2,.one .d)]
def Qyb:Qb:=TQ 0 0 QtS K
def QK4:Qb:=ba (aU MB 0 QAP (Qyb K)) (Qyb K)
def QO1:Qb:=bf 0 (QK4 K)
def MC(v:List Int)(x:Int):Prop:=Loop MB 0 Qxk QBR (QO1 K) ⟨[(5,(bu [TI] v)),(6,(aO (v.length:Int))),(7,(aO x))],[],0⟩
theorem Q38(v:List Int)(x:Int) (h :
 (aS (decide (x<(v.length:Int))) ((0<=x/\Int.toNat x<v.length)/\(aS (!(Zj (aq (0:Int) v (Int.toNat x)))) (K (wm false)) (MC K v (aI (x+1))))) (K (wm true)))):MC K v x :=
 Loop.of h
theorem QUe(v:List Int):aR Tryz.prog 238 [(.c (.sl [TI]) v)] (wm (ZT v)):=by
 refine bD MB QQW QtS 0 0 15 Ae (kc MA kn) (λK =>
 (MC K v 0)) (λhb=>?_)
 have ur:v.length<=9223372036854775807:=hb.1.1;exact ox (Q:=λx=>wm x=wm (ZT v)) (p:=Zj) (c:=λx=>!(Zj x)) 0 ur (λ_=>rfl) (λi h=>Q38 _ v i h) (au (by simp[ZT]))
theorem MD:Qf Tryz.prog Ae:=Qh λx _=>QUe x.1
def wq(t:Bool):aJ:=cd (bH t)
def Y6:aP:=Qg 97 [(.c (.sl [TI]))] λx=>(none,wq (QH x.1))
def ME:aN:=⟨[wj,YF],false⟩
def QEe:af :=
 (ag [(ag [(.ae [ab 4 3,ab 5 0,bh 6 5,az 7 .lss 4 6]),(.cond 7 .skip (.exit 0))]),(.block 1 (ag [(.ae [ab 10 0,ab 11 3,bn 12 10 11 [TI],ar 13 12 1,aL 14 183 [13],bL 15 14]),(.cond 15 (ag [(.ae [ab 2 (bm false)]),.ret]) .skip)])),(.ae [ab 8 3,az 9 .add 8 (aw 1),ab 3 9])])
def QD9:List (Nat × Md):=ij [0,3]
def QtL:af :=
 (ag [(.ae [ab 16 0,bh 17 16,aL 18 158 [17,(aw 1),(aw 6)],ab 2 18]),.ret])
def Q2c:af :=
 (ag [(.ae [ab 2 (bm false)]),(ag [(.ae [ab 3 (aw 0)]),(.block 0 (.loop QD9 QEe))]),QtL])
def QEf:List (bw × Md):=[(.t 2,.one .d)]
def Qwj:Qb:=TQ 0 0 QEf K
def QT6:Qb:=ba (aU ME 0 QtL (Qwj K)) (Qwj K)
def QLG:Qb:=bf 0 (QT6 K)
def MF(v:List Int)(i:Int):Prop:=Loop ME 0 QD9 QEe (QLG K) ⟨[(0,(bu [TI] v)),(3,(aO i))],[],0⟩
theorem QUE(v:List Int)(i:Int) (h :
 (aS (decide (i<(v.length:Int))) ((0<=i/\Int.toNat i<v.length)/\(aS (!(Zj (aq (0:Int) v (Int.toNat i)))) (K (wq false)) (MF K v (aI (i+1))))) (K (wq (aT (v.length:Int) (1:Int) (6:Int)))))):MF K v i :=
 Loop.of h
theorem QR4(v:List Int):aR Tryz.prog 97 [(.c (.sl [TI]) v)] (wq (QH v)):=by
 refine bD ME Q2c QEf 0 0 19 Y6 (kc DH (kc YV kn)) (λK =>
 (MF K v 0)) (λhb=>?_)
 have ur:v.length<=9223372036854775807:=hb.1.1;exact ox (Q:=λx=>wq x=wq (QH v)) (p:=Zj) (c:=λx=>!(Zj x)) 0 ur (λ_=>rfl) (λi h=>QUE _ v i h) (au (by grind[QH,ZT]))
theorem Ji:Qf Tryz.prog Y6:=Qh λx _=>QR4 x.1
def MG(t:Bool):aJ:=cd (bH t)
def p9:aP:=Qg 187 [(.c (.sl [TI]))] λx=>(none,MG (QH x.1))
def QTJ:aN:=⟨[Ae],false⟩
def QYg:af :=
 (ag [(.ae [ab 2 (bm false)]),(.ae [ab 3 0,bh 4 3,az 5 .geq 4 (aw 1),ab 6 5,.bj 6 true [ab 7 0,bh 8 7,az 9 .leq 8 (aw 6)] 10 9,ab 11 10,.bj 11 true [ab 12 0,aL 13 238 [12]] 14 13,ab 2 14]),.ret])
def QP2:List (bw × Md):=[(.t 2,.one .d)]
theorem QY5(v:List Int):aR Tryz.prog 187 [(.c (.sl [TI]) v)] (MG (QH v)):=by
 refine bD QTJ QYg QP2 0 0 15 p9 (kc MD kn) (λK =>
 K (MG (((decide ((v.length:Int)>=1))&&(decide ((v.length:Int)<=6)))&&(ZT v)))) (λhb=>?_)
 exact au (by grind[QH,aT])
theorem uv:Qf Tryz.prog p9:=Qh λx _=>QY5 x.1
def MH(t:Bool):aJ:=cd (bH t)
def J1:aP:=Qg 100 [(.c (.sl [TI])),(.c TI)] λx=>(none,MH (Qr x.1 x.2.1))
def Q2d:aN:=⟨[p9],false⟩
def QPb:af :=
 (ag [(.ae [ab 4 (bm false)]),(.ae [ab 5 0,aL 6 187 [5],ab 7 6,.bj 7 true [ab 8 0,bh 9 8,ab 10 1,az 11 .eql 9 10] 12 11,ab 4 12]),.ret])
def Q3J:List (bw × Md):=[(.t 4,.one .d)]
theorem QMy(v:List Int)(n:Int):aR Tryz.prog 100 [(.c (.sl [TI]) v),(.c TI n)] (MH (Qr v n)):=by
 refine bD Q2d QPb Q3J 0 0 13 J1 (kc uv kn) (λK =>
 K (MH ((QH v)&&((v.length:Int)==n)))) (λhb=>?_)
 exact au (by simp[Qr])
theorem nr:Qf Tryz.prog J1:=Qh λx _=>QMy x.1 x.2.1
def MI(t:Bool):aJ:=cd (bH t)
def MJ:aP:=Qg 169 [(.c (.sl [TI])),(.c TI)] λx=>(none,MI (Ye x.1 x.2.1))
def Q2u:aN:=⟨[J1],false⟩
def QRt:af :=
 (ag [(.ae [ab 4 (bm false)]),(.ae [ab 5 0,bh 6 5,az 7 .eql 6 (aw 0),ab 8 7,.bj 8 false [ab 9 0,ab 10 1,aL 11 100 [9,10]] 12 11,ab 4 12]),.ret])
def Q0e:List (bw × Md):=[(.t 4,.one .d)]
theorem Q3z(v:List Int)(n:Int):aR Tryz.prog 169 [(.c (.sl [TI]) v),(.c TI n)] (MI (Ye v n)):=by
 refine bD Q2u QRt Q0e 0 0 13 MJ (kc nr kn) (λK =>
 K (MI (((v.length:Int)==0)||(Qr v n)))) (λhb=>?_)
 exact au (by simp[Ye,Qr])
theorem QOb:Qf Tryz.prog MJ:=Qh λx _=>Q3z x.1 x.2.1
def MK(t:Bool):aJ:=cd (bH t)
def ML:aP:=Qg 159 [(.c (.sl [TI])),(.c TI)] λx=>(none,MK (Ye x.1 x.2.1))
def QMp:aN:=⟨[Y6],false⟩
def Q28:af :=
 (ag [(.ae [ab 4 (bm false)]),(.ae [ab 5 0,bh 6 5,az 7 .eql 6 (aw 0),ab 8 7,.bj 8 false [ab 9 0,aL 10 97 [9],ab 11 10,.bj 11 true [ab 12 0,bh 13 12,ab 14 1,az 15 .eql 13 14] 16 15] 17 16,ab 4 17]),.ret])
def Q1u:List (bw × Md):=[(.t 4,.one .d)]
theorem QYD(v:List Int)(n:Int):aR Tryz.prog 159 [(.c (.sl [TI]) v),(.c TI n)] (MK (Ye v n)):=by
 refine bD QMp Q28 Q1u 0 0 18 ML (kc Ji kn) (λK =>
 K (MK (((v.length:Int)==0)||((QH v)&&((v.length:Int)==n))))) (λhb=>?_)
 exact au (by simp[Ye,Qr])
theorem QMP:Qf Tryz.prog ML:=Qh λx _=>QYD x.1 x.2.1
def qc(t:Int):aJ:=cd (aO t)
def MM:aP:=Qg 253 [(.a aK)] λx=>(none,qc (Jl x.1))
def MN:aN:=⟨[YF],false⟩
def Qw3:af :=
 (.cond 15 (ag [(.ae [an 18 1 1,ar 19 18 1,an 20 1 2,ar 21 20 1,az 22 .mul 19 21,ab 2 22]),.ret]) (ag [(.ae [az 24 .eql 14 (aw 2),ab 23 24]),(.cond 23 (ag [(.ae [an 25 1 1,ar 26 25 1,ab 2 26]),.ret]) (ag [(.ae [az 28 .eql 14 (aw 4),ab 27 28]),(.cond 27 (ag [(.ae [ab 2 (aw 1)]),.ret]) .skip)]))]))
def Q3k:List (Nat × Md):=[(1,.b (da 4)),(14,.one .d),(15,.one .d)]
def QMW:af:=.wk Q3k Qw3
def QGc:af :=
 (ag [(.ae [ab 2 (aw 0)]),.ret])
def QLZ:af :=
 (ag [(.ae [aD 1 (.box 134 0 4),ab 2 (aw 0)]),(ag [(.ae [an 3 1 1,ar 4 3 1,aL 5 158 [4,(aw 1),(aw 6)],bL 6 5,ab 7 6,.bj 7 false [an 8 1 2,ar 9 8 1,aL 10 158 [9,(aw 1),(aw 6)],bL 11 10] 12 11]),(.cond 12 (ag [(.ae [ab 2 (aw 0)]),.ret]) .skip)]),(ag [(.ae [an 13 1 0,ar 14 13 1]),(.block 0 (ag [(ag [(.ae [az 16 .eql 14 (aw 1),ab 15 16]),(.cond 15 .skip (.ae [az 17 .eql 14 (aw 5),ab 15 17]))]),QMW]))]),QGc])
def QCW:List (bw × Md):=[(.t 2,.one .d)]
def QuW:Qb:=TQ 0 0 QCW K
def QLm:Qb:=ba (aU MN 0 QGc (QuW K)) (QuW K)
def QRv:Qb:=bf 0 (QLm K)
@[irreducible] def MO(o:aE)(x:Bool):Prop:=aU MN 0 Qw3 (QRv K) ⟨[(1,(.p 0 0 0)),(14,(aO o.1)),(15,(bH x))],[(0,(.box (aV.cells aK o)))],1⟩
theorem QIQ(o:aE)(x:Bool) (h :
 (aS x (K (qc (aI (o.2.1*o.2.2.1)))) (aS (o.1==2) (K (qc o.2.1)) (aS (o.1==4) (K (qc (1:Int))) (K (qc (0:Int))))))):cz (MO K o x) :=
 cz.of h
theorem QY1(o:aE):aR Tryz.prog 253 [(.a (aV.cells aK o))] (qc (Jl o)):=by
 refine bD MN QLZ QCW 0 0 29 MM (kc YV kn) (λK =>
 (aS ((!(aT o.2.1 (1:Int) (6:Int)))||(!(aT o.2.2.1 (1:Int) (6:Int)))) (K (qc (0:Int))) (aS (o.1==1) (MO K o (o.1==1)) (MO K o (o.1==5))))) (λhb=>?_)
 refine⟨λh=>au (by grind[Jl]),λh=>?_⟩;have hi:aT o.2.1 1 6=true/\aT o.2.2.1 1 6=true:=by simpa using h
 have hm:=tR (QW.1 hi.1).1 (QW.1 hi.1).2 (QW.1 hi.2).1 (QW.1 hi.2).2;have hw:=Qy (x:=o.2.1*o.2.2.1) (by omega) (by omega);refine⟨λh1=>(QIQ (λr'=>r'=qc (Jl o)) o _ ?_).h,λh1=>(QIQ (λr'=>r'=qc (Jl o)) o _ ?_).h⟩ <;> grind[Jl]
theorem QPL:Qf Tryz.prog MM:=Qh λx _=>QY1 x.1
def qd(t:Int):aJ:=cd (aO t)
def MP:aP:=Qg 257 [(.a aK)] λx=>(none,qd (Jl x.1))
def MQ:aN:=⟨[],false⟩
def QGd:af :=
 (.cond 23 (ag [(.ae [an 26 1 1,ar 27 26 1,an 28 1 2,ar 29 28 1,az 30 .mul 27 29,ab 2 30]),.ret]) (ag [(.ae [az 32 .eql 22 (aw 2),ab 31 32]),(.cond 31 (ag [(.ae [an 33 1 1,ar 34 33 1,ab 2 34]),.ret]) (ag [(.ae [az 36 .eql 22 (aw 4),ab 35 36]),(.cond 35 (ag [(.ae [ab 2 (aw 1)]),.ret]) .skip)]))]))
def QJq:List (Nat × Md):=[(1,.b (da 4)),(22,.one .d),(23,.one .d)]
def QN2:af:=.wk QJq QGd
def QF9:af :=
 (ag [(.ae [ab 2 (aw 0)]),.ret])
def QZM:af :=
 (ag [(.ae [aD 1 (.box 134 0 4),ab 2 (aw 0)]),(ag [(.ae [an 3 1 1,ar 4 3 1,az 5 .lss 4 (aw 1),ab 6 5,.bj 6 false [an 7 1 1,ar 8 7 1,az 9 .gtr 8 (aw 6)] 10 9,ab 11 10,.bj 11 false [an 12 1 2,ar 13 12 1,az 14 .lss 13 (aw 1)] 15 14,ab 16 15,.bj 16 false [an 17 1 2,ar 18 17 1,az 19 .gtr 18 (aw 6)] 20 19]),(.cond 20 (ag [(.ae [ab 2 (aw 0)]),.ret]) .skip)]),(ag [(.ae [an 21 1 0,ar 22 21 1]),(.block 0 (ag [(ag [(.ae [az 24 .eql 22 (aw 1),ab 23 24]),(.cond 23 .skip (.ae [az 25 .eql 22 (aw 5),ab 23 25]))]),QN2]))]),QF9])
def QC8:List (bw × Md):=[(.t 2,.one .d)]
def QEF:Qb:=TQ 0 0 QC8 K
def QNv:Qb:=ba (aU MQ 0 QF9 (QEF K)) (QEF K)
def QKy:Qb:=bf 0 (QNv K)
@[irreducible] def MR(o:aE)(x:Bool):Prop:=aU MQ 0 QGd (QKy K) ⟨[(1,(.p 0 0 0)),(22,(aO o.1)),(23,(bH x))],[(0,(.box (aV.cells aK o)))],1⟩
theorem Qyu(o:aE)(x:Bool) (h :
 (aS x (K (qd (aI (o.2.1*o.2.2.1)))) (aS (o.1==2) (K (qd o.2.1)) (aS (o.1==4) (K (qd (1:Int))) (K (qd (0:Int))))))):cz (MR K o x) :=
 cz.of h
theorem Q0o(o:aE):aR Tryz.prog 257 [(.a (aV.cells aK o))] (qd (Jl o)):=by
 refine bD MQ QZM QC8 0 0 37 MP kn (λK =>
 (aS ((((decide (o.2.1<1))||(decide (o.2.1>6)))||(decide (o.2.2.1<1)))||(decide (o.2.2.1>6))) (K (qd (0:Int))) (aS (o.1==1) (MR K o (o.1==1)) (MR K o (o.1==5))))) (λhb=>?_)
 refine⟨λh=>au (by grind[Jl,aT]),λh=>?_⟩;have hi:aT o.2.1 1 6=true/\aT o.2.2.1 1 6=true:=by grind[aT]
 have hm:=tR (QW.1 hi.1).1 (QW.1 hi.1).2 (QW.1 hi.2).1 (QW.1 hi.2).2;have hw:=Qy (x:=o.2.1*o.2.2.1) (by omega) (by omega);refine⟨λh1=>(Qyu (λr'=>r'=qd (Jl o)) o _ ?_).h,λh1=>(Qyu (λr'=>r'=qd (Jl o)) o _ ?_).h⟩ <;> grind[Jl]
theorem QLF:Qf Tryz.prog MP:=Qh λx _=>Q0o x.1
def rA(t:Bool):aJ:=cd (bH t)
def Af:aP:=Qg 222 [(.a aK)] λx=>(none,rA (Zk x.1))
def MS:aN:=⟨[YF,MM,wj],false⟩
def QxP:af :=
 (ag [(ag [(.ae [ab 40 3,an 41 1 3,ar 42 41 1,bh 43 42,az 44 .lss 40 43]),(.cond 44 .skip (.exit 0))]),(.block 1 (ag [(.ae [an 47 1 3,ar 48 47 1,ab 49 3,bn 50 48 49 [TI],ar 51 50 1,aL 52 183 [51],bL 53 52]),(.cond 53 (ag [(.ae [ab 2 (bm false)]),.ret]) .skip)])),(.ae [ab 45 3,az 46 .add 45 (aw 1),ab 3 46])])
def QxH:List (Nat × Md):=[(1,.b (da 4)),(3,.one .d)]
def Qv7:af :=
 (ag [(.ae [ab 2 (bm true)]),.ret])
def QMU:af :=
 (ag [(.ae [aD 1 (.box 134 0 4),ab 2 (bm false)]),(ag [(.draw [an 4 1 0,ar 5 4 1,aL 6 158 [5,(aw 1),(aw 5)],bL 7 6,ab 8 7,.bj 8 false [an 9 1 1,ar 10 9 1,aL 11 158 [10,(aw 1),(aw 6)],bL 12 11] 13 12,ab 14 13,.bj 14 false [an 15 1 2,ar 16 15 1,aL 17 158 [16,(aw 1),(aw 6)],bL 18 17] 19 18,ab 20 19,.bj 20 false [an 21 1 0,ar 22 21 1,az 23 .neq 22 (aw 1),ab 24 23,.bj 24 true [an 25 1 1,ar 26 25 1,an 27 1 2,ar 28 27 1,az 29 .neq 26 28] 30 29] 31 30,ab 32 31,.bj 32 false [an 33 1 3,ar 34 33 1,bh 35 34,aZ 36 1 4,aL 37 253 [36],az 38 .neq 35 37] 39 38] [(29,33),(30,33),(31,33)]),(.cond 39 (ag [(.ae [ab 2 (bm false)]),.ret]) .skip)]),(ag [(.ae [ab 3 (aw 0)]),(.block 0 (.loop QxH QxP))]),Qv7])
def QAw:List (bw × Md):=[(.t 2,.one .d)]
def QAB:Qb:=TQ 0 0 QAw K
def QRE:Qb:=ba (aU MS 0 Qv7 (QAB K)) (QAB K)
def QQQ:Qb:=bf 0 (QRE K)
def MT(o:aE)(i:Int):Prop:=Loop MS 0 QxH QxP (QQQ K) ⟨[(1,(.p 0 0 0)),(3,(aO i))],[(0,(.box (aV.cells aK o)))],1⟩
theorem Q1t(o:aE)(i:Int) (h :
 (aS (decide (i<((o.2.2.2).length:Int))) ((0<=i/\Int.toNat i<(o.2.2.2).length)/\(aS (!(Zj (aq (0:Int) o.2.2.2 (Int.toNat i)))) (K (rA false)) (MT K o (aI (i+1))))) (K (rA true)))):MT K o i :=
 Loop.of h
theorem QJW(o:aE):aR Tryz.prog 222 [(.a (aV.cells aK o))] (rA (Zk o)):=by
 refine bD MS QMU QAw 0 0 54 Af (kc YV (kc QPL (kc DH kn))) (λK =>
 (aS (((((!(aT o.1 (1:Int) (5:Int)))||(!(aT o.2.1 (1:Int) (6:Int))))||(!(aT o.2.2.1 (1:Int) (6:Int))))||((o.1 != 1)&&(o.2.1 != o.2.2.1)))||(((o.2.2.2).length:Int) != (Jl o))) (K (rA false)) (MT K o 0))) (λhb=>?_)
 have uw:(o.2.2.2).length<=9223372036854775807:=hb.1.2.2.2.1.1;refine⟨λh=>au (by grind[Zk]),λh=>?_⟩;exact ox (Q:=λx=>rA x=rA (Zk o)) (p:=Zj) (c:=λx=>!(Zj x)) 0 uw (λ_=>rfl) (λi h=>Q1t (λr'=>r'=rA (Zk o)) o i h) (au (by grind[Zk,ZT]))
theorem MU:Qf Tryz.prog Af:=Qh λx _=>QJW x.1
def Ag(t:Bool):aJ:=cd (bH t)
def Ah:aP:=Qg 228 [(.a aK)] λx=>(none,Ag (Zk x.1))
def Q4c:aN:=⟨[MP,Ae],false⟩
def QZs:af :=
 (ag [(.ae [aD 1 (.box 134 0 4),ab 2 (bm false)]),(ag [(.ae [an 3 1 0,ar 4 3 1,az 5 .lss 4 (aw 1),ab 6 5,.bj 6 false [an 7 1 0,ar 8 7 1,az 9 .gtr 8 (aw 5)] 10 9,ab 11 10,.bj 11 false [an 12 1 1,ar 13 12 1,az 14 .lss 13 (aw 1)] 15 14,ab 16 15,.bj 16 false [an 17 1 1,ar 18 17 1,az 19 .gtr 18 (aw 6)] 20 19,ab 21 20,.bj 21 false [an 22 1 2,ar 23 22 1,az 24 .lss 23 (aw 1)] 25 24,ab 26 25,.bj 26 false [an 27 1 2,ar 28 27 1,az 29 .gtr 28 (aw 6)] 30 29]),(.cond 30 (ag [(.ae [ab 2 (bm false)]),.ret]) .skip)]),(ag [(.ae [an 31 1 0,ar 32 31 1,az 33 .neq 32 (aw 1),ab 34 33,.bj 34 true [an 35 1 1,ar 36 35 1,an 37 1 2,ar 38 37 1,az 39 .neq 36 38] 40 39]),(.cond 40 (ag [(.ae [ab 2 (bm false)]),.ret]) .skip)]),(.draw [an 41 1 3,ar 42 41 1,bh 43 42,aZ 44 1 4,aL 45 257 [44],az 46 .eql 43 45,ab 47 46,.bj 47 true [an 48 1 3,ar 49 48 1,aL 50 238 [49]] 51 50,ab 2 51] [(0,4),(1,4),(2,4)]),.ret])
def QYW:List (bw × Md):=[(.t 2,.one .d)]
theorem QY0(o:aE):aR Tryz.prog 228 [(.a (aV.cells aK o))] (Ag (Zk o)):=by
 refine bD Q4c QZs QYW 0 0 52 Ah (kc QLF (kc MD kn)) (λK =>
 (aS ((((((decide (o.1<1))||(decide (o.1>5)))||(decide (o.2.1<1)))||(decide (o.2.1>6)))||(decide (o.2.2.1<1)))||(decide (o.2.2.1>6))) (K (Ag false)) (aS ((o.1 != 1)&&(o.2.1 != o.2.2.1)) (K (Ag false)) (K (Ag ((((o.2.2.2).length:Int)==(Jl o))&&(ZT o.2.2.2))))))) (λhb=>?_)
 grind[Zk,aT]
theorem MV:Qf Tryz.prog Ah:=Qh λx _=>QY0 x.1
def Ai(t:Bool):aJ:=cd (bH t)
def oF:aP:=Qg 157 [(.a [(.sl aK)])] λx=>(none,Ai (QS x.1))
def MW:aN:=⟨[Af,YF],false⟩
def Qzc:af :=
 (ag [(ag [(.ae [ab 4 3,an 5 1 0,ar 6 5 1,bh 7 6,az 8 .lss 4 7]),(.cond 8 .skip (.exit 0))]),(.block 1 (ag [(.draw [an 11 1 0,ar 12 11 1,ab 13 3,bn 14 12 13 aK,aZ 15 14 4,aL 16 222 [15],bL 17 16,ab 18 17,.bj 18 false [ab 19 3,az 20 .gtr 19 (aw 0),ab 21 20,.bj 21 true [an 22 1 0,ar 23 22 1,ab 24 3,bn 25 23 24 aK,an 26 25 1,ar 27 26 1,an 28 1 0,ar 29 28 1,ab 30 3,az 31 .sub 30 (aw 1),bn 32 29 31 aK,an 33 32 2,ar 34 33 1,az 35 .neq 27 34] 36 35] 37 36] []),(.cond 37 (ag [(.ae [ab 2 (bm false)]),.ret]) .skip)])),(.ae [ab 9 3,az 10 .add 9 (aw 1),ab 3 10])])
def QCX:List (Nat × Md):=[(1,.b [.d]),(3,.one .d)]
def QuK:af :=
 (ag [(.ae [an 38 1 0,ar 39 38 1,bh 40 39,aL 41 158 [40,(aw 1),(aw 8)],ab 2 41]),.ret])
def QUp:af :=
 (ag [(.ae [aD 1 (.box 77 0 1),ab 2 (bm false)]),(ag [(.ae [ab 3 (aw 0)]),(.block 0 (.loop QCX Qzc))]),QuK])
def QBM:List (bw × Md):=[(.t 2,.one .d)]
def Qvv:Qb:=TQ 0 0 QBM K
def Q04:Qb:=ba (aU MW 0 QuK (Qvv K)) (Qvv K)
def Q1Q:Qb:=bf 0 (Q04 K)
def DI(m:List aE)(i:Int):Prop:=Loop MW 0 QCX Qzc (Q1Q K) ⟨[(1,(.p 0 0 0)),(3,(aO i))],[(0,(.box [(bu aK m)]))],1⟩
theorem QyN(m:List aE)(i:Int) (h :
 (aS (decide (i<(m.length:Int))) (((0<=i/\Int.toNat i<m.length)/\((!(!(Zk (aq bY m (Int.toNat i)))))=true->((decide (i>0))=true->((0<=i/\Int.toNat i<m.length)/\(0<=aI (i-1)/\Int.toNat (aI (i-1))<m.length)))))/\(aS ((!(Zk (aq bY m (Int.toNat i))))||((decide (i>0))&&(((aq bY m (Int.toNat i)).2.1) != ((aq bY m (Int.toNat (aI (i-1)))).2.2.1)))) (K (Ai false)) (DI K m (aI (i+1))))) (K (Ai (aT (m.length:Int) (1:Int) (8:Int)))))):DI K m i :=
 Loop.of h
theorem QKx(m:List aE):aR Tryz.prog 157 [(.a [(.c (.sl aK) m)])] (Ai (QS m)):=by
 refine bD MW QUp QBM 0 0 42 oF (kc MU (kc YV kn)) (λK =>
 (DI K m 0)) (λhb=>?_)
 have gN:(m).length<=9223372036854775807:=hb.1.1.1;refine Zd m (λr k=>YU (oz m k) r=YU none m->DI (λr'=>r'=Ai (QS m)) m k) ?_ ?_ rfl
 ·intro he;refine QyN _ _ _ ⟨λh=>by simp at h,λ_=>?_⟩;grind[YU,QS]
 ·intro k x r hk aY hg ih he;refine QyN _ _ _ ⟨λ_=>?_,λh=>by simp at h;omega⟩;rw[Int.toNat_natCast,hg,Qy (x:=(k:Int)+1) (by omega) (by omega)];have ep:oz m (k+1)=some x.2.2.1:=by simp[oz,hg]
  rw[ep]at ih
  rcases Nat.eq_zero_or_pos k with h0 | h0
  ·subst h0;simp only[YU,oz,if_true]at he;grind[QS]
  ·have e2:=oy h0 (by omega:k<=9223372036854775807);simp only[YU,oz,if_neg (Nat.ne_of_gt h0)]at he;grind[QS]
theorem rB:Qf Tryz.prog oF:=Qh λx _=>QKx x.1
def wu(t:Bool):aJ:=cd (bH t)
def J4:aP:=Qg 167 [(.a [(.sl aK)])] λx=>(none,wu (QS x.1))
def MX:aN:=⟨[Ah],false⟩
def QIe:af :=
 (ag [(.ae [az 19 .lss 18 17]),(.cond 19 .skip (.exit 0)),(.block 1 (ag [(.ae [ab 20 18,bn 21 16 18 aK,aZ 22 21 4,aD 4 (.new 134 (bC aK)),ab 3 20,a8 4 22 4]),(.draw [aZ 23 4 4,aL 24 228 [23],bL 25 24,ab 26 25,.bj 26 false [ab 27 3,az 28 .gtr 27 (aw 0),ab 29 28,.bj 29 true [an 30 1 0,ar 31 30 1,ab 32 3,az 33 .sub 32 (aw 1),bn 34 31 33 aK,an 35 34 2,ar 36 35 1,an 37 4 1,ar 38 37 1,az 39 .neq 36 38] 40 39] 41 40] []),(.cond 41 (ag [(.ae [ab 2 (bm false)]),.ret]) .skip)])),(.ae [az 42 .add 18 (aw 1),ab 18 42])])
def QxK:List (Nat × Md):=[(1,.b [.d]),(16,.one .d),(17,.one .d),(18,.one .d)]
def QIB:af :=
 (ag [(.ae [ab 2 (bm true)]),.ret])
def Q0m:af :=
 (ag [(.ae [aD 1 (.box 77 0 1),ab 2 (bm false)]),(ag [(.ae [an 5 1 0,ar 6 5 1,bh 7 6,az 8 .lss 7 (aw 1),ab 9 8,.bj 9 false [an 10 1 0,ar 11 10 1,bh 12 11,az 13 .gtr 12 (aw 8)] 14 13]),(.cond 14 (ag [(.ae [ab 2 (bm false)]),.ret]) .skip)]),(ag [(.ae [an 15 1 0,ar 16 15 1,bh 17 16,ab 18 (aw 0)]),(.block 0 (.loop QxK QIe))]),QIB])
def QDl:List (bw × Md):=[(.t 2,.one .d)]
def QG3:Qb:=TQ 0 0 QDl K
def QRe:Qb:=ba (aU MX 0 QIB (QG3 K)) (QG3 K)
def QJN:Qb:=bf 0 (QRe K)
def DJ(m:List aE)(x:Int):Prop:=Loop MX 0 QxK QIe (QJN K) ⟨[(1,(.p 0 0 0)),(16,(bu aK m)),(17,(aO (m.length:Int))),(18,(aO x))],[(0,(.box [(bu aK m)]))],1⟩
theorem QHB(m:List aE)(x:Int) (h :
 (aS (decide (x<(m.length:Int))) ((0<=x/\Int.toNat x<m.length)/\(((!(!(Zk (aq bY m (Int.toNat x)))))=true->((decide (x>0))=true->(0<=aI (x-1)/\Int.toNat (aI (x-1))<m.length)))/\(aS ((!(Zk (aq bY m (Int.toNat x))))||((decide (x>0))&&(((aq bY m (Int.toNat (aI (x-1)))).2.2.1) != ((aq bY m (Int.toNat x)).2.1)))) (K (wu false)) (DJ K m (aI (x+1)))))) (K (wu true)))):DJ K m x :=
 Loop.of h
theorem QTH(m:List aE):aR Tryz.prog 167 [(.a [(.c (.sl aK) m)])] (wu (QS m)):=by
 refine bD MX Q0m QDl 0 0 43 J4 (kc MV kn) (λK =>
 (aS ((decide ((m.length:Int)<1))||(decide ((m.length:Int)>8))) (K (wu false)) (DJ K m 0))) (λhb=>?_)
 have gN:(m).length<=9223372036854775807:=hb.1.1.1;refine⟨λh=>au (by grind[QS,aT]),λh=>?_⟩;have eS:aT m.length 1 8=true:=by grind[aT]
 refine Zd m (λr k=>YU (oz m k) r=YU none m->DJ (λr'=>r'=wu (QS m)) m k) ?_ ?_ rfl
 ·intro he;refine QHB _ _ _ ⟨λh=>by simp at h,λ_=>?_⟩;grind[YU,QS]
 ·intro k x r hk aY hg ih he;refine QHB _ _ _ ⟨λ_=>?_,λh=>by simp at h;omega⟩;rw[Int.toNat_natCast,hg,Qy (x:=(k:Int)+1) (by omega) (by omega)];have ep:oz m (k+1)=some x.2.2.1:=by simp[oz,hg]
  rw[ep]at ih
  rcases Nat.eq_zero_or_pos k with h0 | h0
  ·subst h0;simp only[YU,oz,if_true]at he;grind[QS]
  ·have e2:=oy h0 (by omega:k<=9223372036854775807);simp only[YU,oz,if_neg (Nat.ne_of_gt h0)]at he;grind[QS]
theorem oG:Qf Tryz.prog J4:=Qh λx _=>QTH x.1
def DK(t:Int):aJ:=cd (aO t)
def wv:aP:=Qg 101 [(.a [(.sl aK)])] λx=>(none,DK (Zn x.1))
def QXf:aN:=⟨[J4],false⟩
def Q2b:af :=
 (ag [(.ae [aD 1 (.box 77 0 1),ab 2 (aw 0)]),(ag [(.ae [aZ 3 1 1,aL 4 167 [3],bL 5 4]),(.cond 5 (ag [(.ae [ab 2 (aw 0)]),.ret]) .skip)]),(.ae [an 6 1 0,ar 7 6 1,bn 8 7 (aw 0) aK,an 9 8 1,ar 10 9 1,ab 2 10]),.ret])
def QRK:List (bw × Md):=[(.t 2,.one .d)]
theorem Q3e(m:List aE):aR Tryz.prog 101 [(.a [(.c (.sl aK) m)])] (DK (Zn m)):=by
 refine bD QXf Q2b QRK 0 0 11 wv (kc oG kn) (λK =>
 (aS (!(QS m)) (K (DK (0:Int))) (((0:Int)<=0/\Int.toNat 0<m.length)/\K (DK ((aq bY m (Int.toNat 0)).2.1))))) (λhb=>?_)
 refine⟨λh=>au (by grind[Zn]),λh=>?_⟩;have:=Yp (m:=m) (by simpa using h);exact⟨⟨by omega,by simp;omega⟩,au (by simp at h;simp[Zn,h])⟩
theorem DL:Qf Tryz.prog wv:=Qh λx _=>Q3e x.1
def DM(t:Int):aJ:=cd (aO t)
def MY:aP:=Qg 247 [(.a [(.sl aK)])] λx=>(none,DM (Zn x.1))
def QZN:aN:=⟨[oF],false⟩
def QNo:af :=
 (ag [(.ae [aD 1 (.box 77 0 1),ab 2 (aw 0)]),(ag [(.ae [aZ 3 1 1,aL 4 157 [3],bL 5 4]),(.cond 5 (ag [(.ae [ab 2 (aw 0)]),.ret]) .skip)]),(.ae [an 6 1 0,ar 7 6 1,bn 8 7 (aw 0) aK,an 9 8 1,ar 10 9 1,ab 2 10]),.ret])
def QN6:List (bw × Md):=[(.t 2,.one .d)]
theorem QTQ(m:List aE):aR Tryz.prog 247 [(.a [(.c (.sl aK) m)])] (DM (Zn m)):=by
 refine bD QZN QNo QN6 0 0 11 MY (kc rB kn) (λK =>
 (aS (!(QS m)) (K (DM (0:Int))) (((0:Int)<=0/\Int.toNat 0<m.length)/\K (DM ((aq bY m (Int.toNat 0)).2.1))))) (λhb=>?_)
 refine⟨λh=>au (by grind[Zn]),λh=>?_⟩;have:=Yp (m:=m) (by simpa using h);exact⟨⟨by omega,by simp;omega⟩,au (by simp at h;simp[Zn,h])⟩
theorem QVZ:Qf Tryz.prog MY:=Qh λx _=>QTQ x.1
def DN(t:Int):aJ:=cd (aO t)
def wx:aP:=Qg 102 [(.a [(.sl aK)])] λx=>(none,DN (Za x.1))
def QQi:aN:=⟨[J4],false⟩
def QVx:af :=
 (ag [(.ae [aD 1 (.box 77 0 1),ab 2 (aw 0)]),(ag [(.ae [aZ 3 1 1,aL 4 167 [3],bL 5 4]),(.cond 5 (ag [(.ae [ab 2 (aw 0)]),.ret]) .skip)]),(.ae [an 6 1 0,ar 7 6 1,an 8 1 0,ar 9 8 1,bh 10 9,az 11 .sub 10 (aw 1),bn 12 7 11 aK,an 13 12 2,ar 14 13 1,ab 2 14]),.ret])
def QJz:List (bw × Md):=[(.t 2,.one .d)]
theorem QQA(m:List aE):aR Tryz.prog 102 [(.a [(.c (.sl aK) m)])] (DN (Za m)):=by
 refine bD QQi QVx QJz 0 0 15 wx (kc oG kn) (λK =>
 (aS (!(QS m)) (K (DN (0:Int))) ((0<=aI ((m.length:Int)-1)/\Int.toNat (aI ((m.length:Int)-1))<m.length)/\K (DN ((aq bY m (Int.toNat (aI ((m.length:Int)-1)))).2.2.1))))) (λhb=>?_)
 refine⟨λh=>au (by grind[Za]),λh=>?_⟩;have:=Yp (m:=m) (by simpa using h);have e:=oy this.1 (by omega:m.length<=9223372036854775807);rw[e.1];exact⟨⟨e.2,by omega⟩,au (by simp at h;simp[Za,h])⟩
theorem DO:Qf Tryz.prog wx:=Qh λx _=>QQA x.1
def DP(t:Int):aJ:=cd (aO t)
def MZ:aP:=Qg 248 [(.a [(.sl aK)])] λx=>(none,DP (Za x.1))
def QRm:aN:=⟨[oF],false⟩
def Q1L:af :=
 (ag [(.ae [aD 1 (.box 77 0 1),ab 2 (aw 0)]),(ag [(.ae [aZ 3 1 1,aL 4 157 [3],bL 5 4]),(.cond 5 (ag [(.ae [ab 2 (aw 0)]),.ret]) .skip)]),(.ae [an 6 1 0,ar 7 6 1,an 8 1 0,ar 9 8 1,bh 10 9,az 11 .sub 10 (aw 1),bn 12 7 11 aK,an 13 12 2,ar 14 13 1,ab 2 14]),.ret])
def QVp:List (bw × Md):=[(.t 2,.one .d)]
theorem QPO(m:List aE):aR Tryz.prog 248 [(.a [(.c (.sl aK) m)])] (DP (Za m)):=by
 refine bD QRm Q1L QVp 0 0 15 MZ (kc rB kn) (λK =>
 (aS (!(QS m)) (K (DP (0:Int))) ((0<=aI ((m.length:Int)-1)/\Int.toNat (aI ((m.length:Int)-1))<m.length)/\K (DP ((aq bY m (Int.toNat (aI ((m.length:Int)-1)))).2.2.1))))) (λhb=>?_)
 refine⟨λh=>au (by grind[Za]),λh=>?_⟩;have:=Yp (m:=m) (by simpa using h);have e:=oy this.1 (by omega:m.length<=9223372036854775807);rw[e.1];exact⟨⟨e.2,by omega⟩,au (by simp at h;simp[Za,h])⟩
theorem Q1a:Qf Tryz.prog MZ:=Qh λx _=>QPO x.1
def M1(t:Bool):aJ:=cd (bH t)
def M3:aP:=Qg 251 [(.a [(.sl aK)]),(.a Qp)] λx=>(none,M1 (Jb x.1 x.2.1))
def QUf:aN:=⟨[J4,wv,J1,wx],false⟩
def QTT:af :=
 (ag [(.ae [aD 2 (.box 77 0 1),aD 3 (.box 154 1 2),ab 4 (bm false)]),(.draw [aZ 5 2 1,aL 6 167 [5],ab 7 6,.bj 7 true [an 8 3 0,ar 9 8 1,aZ 10 2 1,aL 11 101 [10],aL 12 100 [9,11]] 13 12,ab 14 13,.bj 14 true [an 15 3 1,ar 16 15 1,aZ 17 2 1,aL 18 102 [17],aL 19 100 [16,18]] 20 19,ab 4 20] [(3,6),(4,6),(10,13),(11,13)]),.ret])
def QS0:List (bw × Md):=[(.t 4,.one .d)]
theorem QKT(m:List aE)(p:Qi):aR Tryz.prog 251 [(.a [(.c (.sl aK) m)]),(.a [(.c (.sl [TI]) p.1),(.c (.sl [TI]) p.2)])] (M1 (Jb m p)):=by
 refine bD QUf QTT QS0 0 0 21 M3 (kc oG (kc DL (kc nr (kc DO kn)))) (λK =>
 K (M1 (((QS m)&&(Qr p.1 (Zn m)))&&(Qr p.2 (Za m))))) (λhb=>?_)
 exact au rfl
theorem Q05:Qf Tryz.prog M3:=Qh λx _=>QKT x.1 x.2.1
def wy(t:Bool):aJ:=cd (bH t)
def M4:aP:=Qg 198 [(.a [(.sl aK)]),(.c (.sl Qp))] λx=>(none,wy (Z5 x.1 x.2.1))
def M5:aN:=⟨[oF,YF,Y6,MY,MZ],false⟩
def QuH:af :=
 (ag [(ag [(.ae [ab 15 5,ab 16 1,bh 17 16,az 18 .lss 15 17]),(.cond 18 .skip (.exit 0))]),(.block 1 (ag [(.draw [ab 21 1,ab 22 5,bn 23 21 22 Qp,an 24 23 0,ar 25 24 1,aL 26 97 [25],bL 27 26,ab 28 27,.bj 28 false [ab 29 1,ab 30 5,bn 31 29 30 Qp,an 32 31 1,ar 33 32 1,aL 34 97 [33],bL 35 34] 36 35,ab 37 36,.bj 37 false [ab 38 1,ab 39 5,bn 40 38 39 Qp,an 41 40 0,ar 42 41 1,bh 43 42,aZ 44 2 1,aL 45 247 [44],az 46 .neq 43 45] 47 46,ab 48 47,.bj 48 false [ab 49 1,ab 50 5,bn 51 49 50 Qp,an 52 51 1,ar 53 52 1,bh 54 53,aZ 55 2 1,aL 56 248 [55],az 57 .neq 54 56] 58 57] [(19,24),(20,24),(21,24),(22,24),(30,35),(31,35),(32,35),(33,35)]),(.cond 58 (ag [(.ae [ab 4 (bm false)]),.ret]) .skip)])),(.ae [ab 19 5,az 20 .add 19 (aw 1),ab 5 20])])
def Qvm:List (Nat × Md):=[(1,.one .d),(2,.b [.d]),(5,.one .d)]
def QDE:af :=
 (ag [(.ae [ab 4 (bm true)]),.ret])
def QRy:af :=
 (ag [(.ae [aD 2 (.box 77 0 1),ab 4 (bm false)]),(ag [(.ae [aZ 6 2 1,aL 7 157 [6],bL 8 7,ab 9 8,.bj 9 false [ab 10 1,bh 11 10,aL 12 158 [11,(aw 1),(aw 5)],bL 13 12] 14 13]),(.cond 14 (ag [(.ae [ab 4 (bm false)]),.ret]) .skip)]),(ag [(.ae [ab 5 (aw 0)]),(.block 0 (.loop Qvm QuH))]),QDE])
def QI5:List (bw × Md):=[(.t 4,.one .d)]
def Quc:Qb:=TQ 0 0 QI5 K
def QPk:Qb:=ba (aU M5 0 QDE (Quc K)) (Quc K)
def QVh:Qb:=bf 0 (QPk K)
def DQ(m:List aE)(b:List Qi)(i:Int):Prop:=Loop M5 0 Qvm QuH (QVh K) ⟨[(1,(bu Qp b)),(2,(.p 0 0 0)),(5,(aO i))],[(0,(.box [(bu aK m)]))],1⟩
theorem QDo(m:List aE)(b:List Qi)(i:Int) (h :
 (aS (decide (i<(b.length:Int))) (((0<=i/\Int.toNat i<b.length)/\(((!(!(QH ((aq QP b (Int.toNat i)).1))))=true->(0<=i/\Int.toNat i<b.length))/\(((!((!(QH ((aq QP b (Int.toNat i)).1)))||(!(QH ((aq QP b (Int.toNat i)).2)))))=true->(0<=i/\Int.toNat i<b.length))/\((!(((!(QH ((aq QP b (Int.toNat i)).1)))||(!(QH ((aq QP b (Int.toNat i)).2))))||((((aq QP b (Int.toNat i)).1).length:Int) != (Zn m))))=true->(0<=i/\Int.toNat i<b.length)))))/\(aS ((((!(QH ((aq QP b (Int.toNat i)).1)))||(!(QH ((aq QP b (Int.toNat i)).2))))||((((aq QP b (Int.toNat i)).1).length:Int) != (Zn m)))||((((aq QP b (Int.toNat i)).2).length:Int) != (Za m))) (K (wy false)) (DQ K m b (aI (i+1))))) (K (wy true)))):DQ K m b i :=
 Loop.of h
theorem QPc(m:List aE)(b:List Qi):aR Tryz.prog 198 [(.a [(.c (.sl aK) m)]),(.c (.sl Qp) b)] (wy (Z5 m b)):=by
 refine bD M5 QRy QI5 0 0 59 M4 (kc rB (kc YV (kc Ji (kc QVZ (kc Q1a kn))))) (λK =>
 (aS ((!(QS m))||(!(aT (b.length:Int) (1:Int) (5:Int)))) (K (wy false)) (DQ K m b 0))) (λhb=>?_)
 have gN:(m).length<=9223372036854775807:=hb.1.1.1;have ux:b.length<=9223372036854775807:=hb.2.1.1;refine⟨λh=>au (by grind[Z5,aT]),λh=>?_⟩;refine Zd b (λr k=>r.all (Jb m)=b.all (Jb m)->DQ (λr'=>r'=wy (Z5 m b)) m b k) ?_ ?_ rfl
 ·intro he;refine QDo _ _ _ _ ⟨λh=>by simp at h,λ_=>?_⟩;grind[Z5]
 ·intro k x r hk aY hg ih he;refine QDo _ _ _ _ ⟨λ_=>?_,λh=>by simp at h;omega⟩;rw[Int.toNat_natCast,hg,Qy (x:=(k:Int)+1) (by omega) (by omega)];have e:(!(QH x.1)||!(QH x.2)||((x.1.length:Int) != Zn m)||((x.2.length:Int) != Za m)) = !Jb m x:=by grind[Jb,Qr]
  rw[e];grind[Z5]
theorem QK0:Qf Tryz.prog M4:=Qh λx _=>QPc x.1 x.2.1
def rC(t:Bool):aJ:=cd (bH t)
def M6:aP:=Qg 205 [(.a [(.sl aK)]),(.c (.sl Qp))] λx=>(none,rC (Z5 x.1 x.2.1))
def M7:aN:=⟨[J4,M3],false⟩
def Qvy:af :=
 (ag [(.ae [az 23 .lss 22 21]),(.cond 23 .skip (.exit 0)),(.block 1 (ag [(.ae [bn 24 20 22 Qp,aZ 25 24 2,aD 6 (.new 154 (bC Qp)),a8 6 25 2]),(.ae [aZ 26 2 1,aZ 27 6 2,aL 28 251 [26,27],bL 29 28]),(.cond 29 (ag [(.ae [ab 4 (bm false)]),.ret]) .skip)])),(.ae [az 30 .add 22 (aw 1),ab 22 30])])
def QB9:List (Nat × Md):=[(2,.b [.d]),(20,.one .d),(21,.one .d),(22,.one .d)]
def QC3:af :=
 (ag [(.ae [ab 4 (bm true)]),.ret])
def Q0v:af :=
 (ag [(.ae [aD 2 (.box 77 0 1),ab 4 (bm false)]),(ag [(.ae [aZ 7 2 1,aL 8 167 [7],bL 9 8,ab 10 9,.bj 10 false [ab 11 1,bh 12 11,az 13 .lss 12 (aw 1)] 14 13,ab 15 14,.bj 15 false [ab 16 1,bh 17 16,az 18 .gtr 17 (aw 5)] 19 18]),(.cond 19 (ag [(.ae [ab 4 (bm false)]),.ret]) .skip)]),(ag [(.ae [ab 20 1,bh 21 20,ab 22 (aw 0)]),(.block 0 (.loop QB9 Qvy))]),QC3])
def QCp:List (bw × Md):=[(.t 4,.one .d)]
def QFd:Qb:=TQ 0 0 QCp K
def QJ3:Qb:=ba (aU M7 0 QC3 (QFd K)) (QFd K)
def QYi:Qb:=bf 0 (QJ3 K)
def M8(m:List aE)(b:List Qi)(x:Int):Prop:=Loop M7 0 QB9 Qvy (QYi K) ⟨[(2,(.p 0 0 0)),(20,(bu Qp b)),(21,(aO (b.length:Int))),(22,(aO x))],[(0,(.box [(bu aK m)]))],1⟩
theorem QPw(m:List aE)(b:List Qi)(x:Int) (h :
 (aS (decide (x<(b.length:Int))) ((0<=x/\Int.toNat x<b.length)/\(aS (!(Jb m (aq QP b (Int.toNat x)))) (K (rC false)) (M8 K m b (aI (x+1))))) (K (rC true)))):M8 K m b x :=
 Loop.of h
theorem QWt(m:List aE)(b:List Qi):aR Tryz.prog 205 [(.a [(.c (.sl aK) m)]),(.c (.sl Qp) b)] (rC (Z5 m b)):=by
 refine bD M7 Q0v QCp 0 0 31 M6 (kc oG (kc Q05 kn)) (λK =>
 (aS (((!(QS m))||(decide ((b.length:Int)<1)))||(decide ((b.length:Int)>5))) (K (rC false)) (M8 K m b 0))) (λhb=>?_)
 have gN:(m).length<=9223372036854775807:=hb.1.1.1;have ux:b.length<=9223372036854775807:=hb.2.1.1;refine⟨λh=>au (by grind[Z5,aT]),λh=>?_⟩;exact ox (Q:=λx=>rC x=rC (Z5 m b)) (p:=Jb m) (c:=λx=>!(Jb m x)) QP ux (λ_=>rfl) (λi h=>QPw (λr'=>r'=rC (Z5 m b)) m b i h) (au (by grind[Z5,aT]))
theorem QOK:Qf Tryz.prog M6:=Qh λx _=>QWt x.1 x.2.1
def Aj(t:Bool):aJ:=cd (bH t)
def Ak:aP:=Qg 199 [(.a [(.sl aK)]),(.c (.sl [TI]))] λx=>(none,Aj (Zr x.1 x.2.1))
def M9:aN:=⟨[YF,oF],false⟩
def QEh:af :=
 (ag [(ag [(.ae [ab 6 5,ab 7 1,bh 8 7,az 9 .lss 6 8]),(.cond 9 .skip (.exit 0))]),(.block 1 (ag [(.draw [ab 12 1,ab 13 5,bn 14 12 13 [TI],ar 15 14 1,an 16 2 0,ar 17 16 1,bh 18 17,az 19 .sub 18 (aw 1),aL 20 158 [15,(aw 1),19],bL 21 20,ab 22 21,.bj 22 false [ab 23 5,az 24 .gtr 23 (aw 0),ab 25 24,.bj 25 true [ab 26 1,ab 27 5,bn 28 26 27 [TI],ar 29 28 1,ab 30 1,ab 31 5,az 32 .sub 31 (aw 1),bn 33 30 32 [TI],ar 34 33 1,az 35 .leq 29 34] 36 35] 37 36] []),(.cond 37 (ag [(.ae [ab 4 (bm false)]),.ret]) .skip)])),(.ae [ab 10 5,az 11 .add 10 (aw 1),ab 5 11])])
def Qz2:List (Nat × Md):=[(1,.one .d),(2,.b [.d]),(5,.one .d)]
def Qyl:af :=
 (ag [(.ae [aZ 38 2 1,aL 39 157 [38],ab 4 39]),.ret])
def QMn:af :=
 (ag [(.ae [aD 2 (.box 77 0 1),ab 4 (bm false)]),(ag [(.ae [ab 5 (aw 0)]),(.block 0 (.loop Qz2 QEh))]),Qyl])
def QIX:List (bw × Md):=[(.t 4,.one .d)]
def QAI:Qb:=TQ 0 0 QIX K
def Q4o:Qb:=ba (aU M9 0 Qyl (QAI K)) (QAI K)
def Q1s:Qb:=bf 0 (Q4o K)
def DS(m:List aE)(aA:List Int)(i:Int):Prop:=Loop M9 0 Qz2 QEh (Q1s K) ⟨[(1,(bu [TI] aA)),(2,(.p 0 0 0)),(5,(aO i))],[(0,(.box [(bu aK m)]))],1⟩
theorem Quf(m:List aE)(aA:List Int)(i:Int) (h :
 (aS (decide (i<(aA.length:Int))) (((0<=i/\Int.toNat i<aA.length)/\((!(!(aT (aq (0:Int) aA (Int.toNat i)) (1:Int) (aI ((m.length:Int)-1)))))=true->((decide (i>0))=true->((0<=i/\Int.toNat i<aA.length)/\(0<=aI (i-1)/\Int.toNat (aI (i-1))<aA.length)))))/\(aS ((!(aT (aq (0:Int) aA (Int.toNat i)) (1:Int) (aI ((m.length:Int)-1))))||((decide (i>0))&&(decide ((aq (0:Int) aA (Int.toNat i))<=(aq (0:Int) aA (Int.toNat (aI (i-1)))))))) (K (Aj false)) (DS K m aA (aI (i+1))))) (K (Aj (QS m))))):DS K m aA i :=
 Loop.of h
theorem QPV(m:List aE)(aA:List Int):aR Tryz.prog 199 [(.a [(.c (.sl aK) m)]),(.c (.sl [TI]) aA)] (Aj (Zr m aA)):=by
 refine bD M9 QMn QIX 0 0 40 Ak (kc YV (kc rB kn)) (λK =>
 (DS K m aA 0)) (λhb=>?_)
 have gN:(m).length<=9223372036854775807:=hb.1.1.1;have qe:aA.length<=9223372036854775807:=hb.2.1.1;refine Zd aA (λr k=>YH (m.length-1) (oA aA k) r=YH (m.length-1) none aA->DS (λr'=>r'=Aj (Zr m aA)) m aA k) ?_ ?_ rfl
 ·intro he;refine Quf _ _ _ _ ⟨λh=>by simp at h,λ_=>?_⟩;grind[YH,Zr]
 ·intro k x r hk aY hg ih he;refine Quf _ _ _ _ ⟨λ_=>?_,λh=>by simp at h;omega⟩;rw[Int.toNat_natCast,hg,Qy (x:=(k:Int)+1) (by omega) (by omega),Qy (x:=(m.length:Int)-1) (by omega) (by omega)];have ep:oA aA (k+1)=some x:=by simp[oA,hg]
  rw[ep]at ih
  rcases Nat.eq_zero_or_pos k with h0 | h0
  ·subst h0;simp only[YH,oA,if_true]at he;grind[Zr]
  ·have e2:=oy h0 (by omega:k<=9223372036854775807);simp only[YH,oA,if_neg (Nat.ne_of_gt h0)]at he;grind[Zr]
theorem Na:Qf Tryz.prog Ak:=Qh λx _=>QPV x.1 x.2.1
def wz(t:Bool):aJ:=cd (bH t)
def DT:aP:=Qg 208 [(.a [(.sl aK)]),(.c (.sl [TI]))] λx=>(none,wz (Zr x.1 x.2.1))
def Nb:aN:=⟨[J4],false⟩
def QCe:af :=
 (ag [(.ae [az 13 .lss 12 11]),(.cond 13 .skip (.exit 0)),(.block 1 (ag [(.ae [ab 14 12,bn 15 10 12 [TI],ar 16 15 1,ab 5 14,ab 6 16]),(.ae [ab 17 6,az 18 .lss 17 (aw 1),ab 19 18,.bj 19 false [ab 20 6,an 21 2 0,ar 22 21 1,bh 23 22,az 24 .sub 23 (aw 1),az 25 .gtr 20 24] 26 25,ab 27 26,.bj 27 false [ab 28 5,az 29 .gtr 28 (aw 0),ab 30 29,.bj 30 true [ab 31 1,ab 32 5,az 33 .sub 32 (aw 1),bn 34 31 33 [TI],ar 35 34 1,ab 36 6,az 37 .geq 35 36] 38 37] 39 38]),(.cond 39 (ag [(.ae [ab 4 (bm false)]),.ret]) .skip)])),(.ae [az 40 .add 12 (aw 1),ab 12 40])])
def QFB:List (Nat × Md):=[(1,.one .d),(2,.b [.d]),(10,.one .d),(11,.one .d),(12,.one .d)]
def QGQ:af :=
 (ag [(.ae [ab 4 (bm true)]),.ret])
def QOS:af :=
 (ag [(.ae [aD 2 (.box 77 0 1),ab 4 (bm false)]),(ag [(.ae [aZ 7 2 1,aL 8 167 [7],bL 9 8]),(.cond 9 (ag [(.ae [ab 4 (bm false)]),.ret]) .skip)]),(ag [(.ae [ab 10 1,bh 11 10,ab 12 (aw 0)]),(.block 0 (.loop QFB QCe))]),QGQ])
def QFZ:List (bw × Md):=[(.t 4,.one .d)]
def QIT:Qb:=TQ 0 0 QFZ K
def QQu:Qb:=ba (aU Nb 0 QGQ (QIT K)) (QIT K)
def QYe:Qb:=bf 0 (QQu K)
def DU(m:List aE)(aA:List Int)(x:Int):Prop:=Loop Nb 0 QFB QCe (QYe K) ⟨[(1,(bu [TI] aA)),(2,(.p 0 0 0)),(10,(bu [TI] aA)),(11,(aO (aA.length:Int))),(12,(aO x))],[(0,(.box [(bu aK m)]))],1⟩
theorem Qzl(m:List aE)(aA:List Int)(x:Int) (h :
 (aS (decide (x<(aA.length:Int))) ((0<=x/\Int.toNat x<aA.length)/\(((!((decide ((aq (0:Int) aA (Int.toNat x))<1))||(decide ((aq (0:Int) aA (Int.toNat x))>(aI ((m.length:Int)-1))))))=true->((decide (x>0))=true->(0<=aI (x-1)/\Int.toNat (aI (x-1))<aA.length)))/\(aS (((decide ((aq (0:Int) aA (Int.toNat x))<1))||(decide ((aq (0:Int) aA (Int.toNat x))>(aI ((m.length:Int)-1)))))||((decide (x>0))&&(decide ((aq (0:Int) aA (Int.toNat (aI (x-1))))>=(aq (0:Int) aA (Int.toNat x)))))) (K (wz false)) (DU K m aA (aI (x+1)))))) (K (wz true)))):DU K m aA x :=
 Loop.of h
theorem QUO(m:List aE)(aA:List Int):aR Tryz.prog 208 [(.a [(.c (.sl aK) m)]),(.c (.sl [TI]) aA)] (wz (Zr m aA)):=by
 refine bD Nb QOS QFZ 0 0 41 DT (kc oG kn) (λK =>
 (aS (!(QS m)) (K (wz false)) (DU K m aA 0))) (λhb=>?_)
 have gN:(m).length<=9223372036854775807:=hb.1.1.1;have qe:aA.length<=9223372036854775807:=hb.2.1.1;refine⟨λh=>au (by grind[Zr]),λh=>?_⟩;refine Zd aA (λr k=>YH (m.length-1) (oA aA k) r=YH (m.length-1) none aA->DU (λr'=>r'=wz (Zr m aA)) m aA k) ?_ ?_ rfl
 ·intro he;refine Qzl _ _ _ _ ⟨λh=>by simp at h,λ_=>?_⟩;grind[YH,Zr]
 ·intro k x r hk aY hg ih he;refine Qzl _ _ _ _ ⟨λ_=>?_,λh=>by simp at h;omega⟩;rw[Int.toNat_natCast,hg,Qy (x:=(k:Int)+1) (by omega) (by omega),Qy (x:=(m.length:Int)-1) (by omega) (by omega)];have ep:oA aA (k+1)=some x:=by simp[oA,hg]
  rw[ep]at ih
  rcases Nat.eq_zero_or_pos k with h0 | h0
  ·subst h0;simp only[YH,oA,if_true,aT]at he;grind[Zr]
  ·have e2:=oy h0 (by omega:k<=9223372036854775807);simp only[YH,oA,if_neg (Nat.ne_of_gt h0),aT]at he;grind[Zr]
theorem QIg:Qf Tryz.prog DT:=Qh λx _=>QUO x.1 x.2.1
def wA(t:Int × Int):aJ:=cd (.tp [(aO t.1),(aO t.2)])
def wB:aP:=Qg 119 [(.a [(.sl aK)]),(.c (.sl [TI])),(.c TI)] λx=>(none,wA (QG x.1 x.2.1 x.2.2.1))
def Qzv:aN:=⟨[Ak,YF],false⟩
def QAi:af :=
 (ag [(ag [(.ae [ab 31 2,ab 32 1,bh 33 32,az 34 .lss 31 33]),(.cond 34 (.ae [ab 35 1,ab 36 2,bn 37 35 36 [TI],ar 38 37 1,ab 9 38]) .skip)]),(.ae [ab 39 8,ab 40 9,ab 6 39,ab 7 40]),.ret])
def QX9:List (Nat × Md):=ij [1,2,8,9]
def QSQ:af:=.wk QX9 QAi
def QX1:af :=
 (ag [(.ae [aD 3 (.box 77 0 1),ab 6 (aw 0),ab 7 (aw 0)]),(ag [(.ae [aZ 10 3 1,ab 11 1,aL 12 199 [10,11],bL 13 12,ab 14 13,.bj 14 false [ab 15 2,ab 16 1,bh 17 16,aL 18 158 [15,(aw 0),17],bL 19 18] 20 19]),(.cond 20 (ag [(.ae [ab 6 (aw 0),ab 7 (aw 0)]),.ret]) .skip)]),(.ae [ab 8 (aw 0)]),(.ae [an 21 3 0,ar 22 21 1,bh 23 22,ab 9 23]),(ag [(.ae [ab 24 2,az 25 .gtr 24 (aw 0)]),(.cond 25 (.ae [ab 26 1,ab 27 2,az 28 .sub 27 (aw 1),bn 29 26 28 [TI],ar 30 29 1,ab 8 30]) .skip)]),QSQ])
def QES:List (bw × Md):=[(.t 6,.one .d),(.t 7,.one .d)]
def QOY:Qb:=TQ 0 0 QES K
@[irreducible] def Nc(m:List aE)(aA:List Int)(s:Int)(ns:Int):Prop:=aU Qzv 0 QAi (QOY K) ⟨[(1,(bu [TI] aA)),(2,(aO s)),(8,(aO ns)),(9,(aO (m.length:Int)))],[],0⟩
theorem Quu(m:List aE)(aA:List Int)(s:Int)(ns:Int) (h :
 (aS (decide (s<(aA.length:Int))) ((0<=s/\Int.toNat s<aA.length)/\K (wA (ns,(aq (0:Int) aA (Int.toNat s))))) (K (wA (ns,(m.length:Int)))))):cz (Nc K m aA s ns) :=
 cz.of h
theorem QU7(m:List aE)(aA:List Int)(s:Int):aR Tryz.prog 119 [(.a [(.c (.sl aK) m)]),(.c (.sl [TI]) aA),(.c TI s)] (wA (QG m aA s)):=by
 refine bD Qzv QX1 QES 0 0 41 wB (kc Na (kc YV kn)) (λK =>
 (aS ((!(Zr m aA))||(!(aT s (0:Int) (aA.length:Int)))) (K (wA ((0:Int),(0:Int)))) (aS (decide (s>0)) ((0<=aI (s-1)/\Int.toNat (aI (s-1))<aA.length)/\(Nc K m aA s (aq (0:Int) aA (Int.toNat (aI (s-1)))))) (Nc K m aA s 0)))) (λhb=>?_)
 refine⟨λh=>au (by grind[QG,aT]),λh=>?_⟩;have hc:Zr m aA=true/\0<=s/\s<=aA.length:=by grind[aT]
 have hl:=oB hc.1;have e1:(Zr m aA&&aT s 0 aA.length)=true:=by grind[aT]
 refine⟨λh1=>?_,λh1=>?_⟩
 ·have h1:0<s:=by simpa using h1
  rw[Qy (x:=s-1) (by omega) (by omega),show Int.toNat (s-1)=s.toNat-1 by omega];refine⟨⟨by omega,by omega⟩,(Quu (λr'=>r'=wA (QG m aA s)) m aA s _ ⟨λh2=>?_,λh2=>?_⟩).h⟩
  ·have h2:s<aA.length:=by simpa using h2
   exact⟨⟨by omega,by omega⟩,au (by simp[QG,e1,h1,h2])⟩
  ·exact au (by simp at h2;simp[QG,e1,h1,Int.not_lt.2 h2])
 ·have h1:¬ 0<s:=by simpa using h1
  refine(Quu _ _ _ _ _ ⟨λh2=>?_,λh2=>?_⟩).h
  ·have h2:s<aA.length:=by simpa using h2
   exact⟨⟨by omega,by omega⟩,au (by simp[QG,e1,h1,h2])⟩
  ·exact au (by simp at h2;simp[QG,e1,h1,Int.not_lt.2 h2])
theorem DV:Qf Tryz.prog wB:=Qh λx _=>QU7 x.1 x.2.1 x.2.2.1
def wC(t:Int × Int):aJ:=cd (.tp [(aO t.1),(aO t.2)])
def Al:aP:=Qg 128 [(.a [(.sl aK)]),(.c (.sl [TI])),(.c TI)] λx=>(none,wC (QG x.1 x.2.1 x.2.2.1))
def QvD:aN:=⟨[DT],false⟩
def QHG:af :=
 (ag [(ag [(.ae [ab 34 2,ab 35 1,bh 36 35,az 37 .lss 34 36]),(.cond 37 (.ae [ab 38 1,ab 39 2,bn 40 38 39 [TI],ar 41 40 1,ab 9 41]) .skip)]),(.ae [ab 42 8,ab 43 9,ab 6 42,ab 7 43]),.ret])
def QRX:List (Nat × Md):=ij [1,2,8,9]
def Q13:af:=.wk QRX QHG
def QK7:af :=
 (ag [(.ae [aD 3 (.box 77 0 1),ab 6 (aw 0),ab 7 (aw 0)]),(ag [(.ae [aZ 10 3 1,ab 11 1,aL 12 208 [10,11],bL 13 12,ab 14 13,.bj 14 false [ab 15 2,az 16 .lss 15 (aw 0)] 17 16,ab 18 17,.bj 18 false [ab 19 2,ab 20 1,bh 21 20,az 22 .gtr 19 21] 23 22]),(.cond 23 (ag [(.ae [ab 6 (aw 0),ab 7 (aw 0)]),.ret]) .skip)]),(.draw [an 24 3 0,ar 25 24 1,bh 26 25,ab 8 (aw 0),ab 9 26] []),(ag [(.ae [ab 27 2,az 28 .gtr 27 (aw 0)]),(.cond 28 (.ae [ab 29 1,ab 30 2,az 31 .sub 30 (aw 1),bn 32 29 31 [TI],ar 33 32 1,ab 8 33]) .skip)]),Q13])
def QzQ:List (bw × Md):=[(.t 6,.one .d),(.t 7,.one .d)]
def QSR:Qb:=TQ 0 0 QzQ K
@[irreducible] def Nd(m:List aE)(aA:List Int)(s:Int)(ns:Int):Prop:=aU QvD 0 QHG (QSR K) ⟨[(1,(bu [TI] aA)),(2,(aO s)),(8,(aO ns)),(9,(aO (m.length:Int)))],[],0⟩
theorem QEM(m:List aE)(aA:List Int)(s:Int)(ns:Int) (h :
 (aS (decide (s<(aA.length:Int))) ((0<=s/\Int.toNat s<aA.length)/\K (wC (ns,(aq (0:Int) aA (Int.toNat s))))) (K (wC (ns,(m.length:Int)))))):cz (Nd K m aA s ns) :=
 cz.of h
theorem QR5(m:List aE)(aA:List Int)(s:Int):aR Tryz.prog 128 [(.a [(.c (.sl aK) m)]),(.c (.sl [TI]) aA),(.c TI s)] (wC (QG m aA s)):=by
 refine bD QvD QK7 QzQ 0 0 44 Al (kc QIg kn) (λK =>
 (aS (((!(Zr m aA))||(decide (s<0)))||(decide (s>(aA.length:Int)))) (K (wC ((0:Int),(0:Int)))) (aS (decide (s>0)) ((0<=aI (s-1)/\Int.toNat (aI (s-1))<aA.length)/\(Nd K m aA s (aq (0:Int) aA (Int.toNat (aI (s-1)))))) (Nd K m aA s 0)))) (λhb=>?_)
 refine⟨λh=>au (by grind[QG,aT]),λh=>?_⟩;have hc:Zr m aA=true/\0<=s/\s<=aA.length:=by grind[aT]
 have hl:=oB hc.1;have e1:(Zr m aA&&aT s 0 aA.length)=true:=by grind[aT]
 refine⟨λh1=>?_,λh1=>?_⟩
 ·have h1:0<s:=by simpa using h1
  rw[Qy (x:=s-1) (by omega) (by omega),show Int.toNat (s-1)=s.toNat-1 by omega];refine⟨⟨by omega,by omega⟩,(QEM (λr'=>r'=wC (QG m aA s)) m aA s _ ⟨λh2=>?_,λh2=>?_⟩).h⟩
  ·have h2:s<aA.length:=by simpa using h2
   exact⟨⟨by omega,by omega⟩,au (by simp[QG,e1,h1,h2])⟩
  ·exact au (by simp at h2;simp[QG,e1,h1,Int.not_lt.2 h2])
 ·have h1:¬ 0<s:=by simpa using h1
  refine(QEM _ _ _ _ _ ⟨λh2=>?_,λh2=>?_⟩).h
  ·have h2:s<aA.length:=by simpa using h2
   exact⟨⟨by omega,by omega⟩,au (by simp[QG,e1,h1,h2])⟩
  ·exact au (by simp at h2;simp[QG,e1,h1,Int.not_lt.2 h2])
theorem Nf:Qf Tryz.prog Al:=Qh λx _=>QR5 x.1 x.2.1 x.2.2.1
def DW(t:Int):aJ:=cd (aO t)
def Ng:aP:=Qg 118 [(.a Q5)] λx=>(none,DW (QO x.1))
def QXT:aN:=⟨[Ak],false⟩
def QJn:af :=
 (ag [(.ae [aD 1 (.box 79 0 6),ab 2 (aw 0)]),(ag [(.ae [an 3 1 0,aZ 4 3 1,an 5 1 1,ar 6 5 1,aL 7 199 [4,6],bL 8 7]),(.cond 8 (ag [(.ae [ab 2 (aw 0)]),.ret]) .skip)]),(.ae [an 9 1 1,ar 10 9 1,bh 11 10,az 12 .add 11 (aw 1),ab 2 12]),.ret])
def QYN:List (bw × Md):=[(.t 2,.one .d)]
theorem QNl(c:QC):aR Tryz.prog 118 [(.a (aV.cells Q5 c))] (DW (QO c)):=by
 refine bD QXT QJn QYN 0 0 13 Ng (kc Na kn) (λK =>
 (aS (!(Zr c.1 c.2.1)) (K (DW (0:Int))) (K (DW (aI (((c.2.1).length:Int)+1)))))) (λhb=>?_)
 grind[QO]
theorem QWc:Qf Tryz.prog Ng:=Qh λx _=>QNl x.1
def DX(t:Int):aJ:=cd (aO t)
def wD:aP:=Qg 127 [(.a Q5)] λx=>(none,DX (QO x.1))
def QPz:aN:=⟨[DT],false⟩
def QO5:af :=
 (ag [(.ae [aD 1 (.box 79 0 6),ab 2 (aw 0)]),(ag [(.ae [an 3 1 0,aZ 4 3 1,an 5 1 1,ar 6 5 1,aL 7 208 [4,6],bL 8 7]),(.cond 8 (ag [(.ae [ab 2 (aw 0)]),.ret]) .skip)]),(.ae [an 9 1 1,ar 10 9 1,bh 11 10,az 12 .add 11 (aw 1),ab 2 12]),.ret])
def QNp:List (bw × Md):=[(.t 2,.one .d)]
theorem QLd(c:QC):aR Tryz.prog 127 [(.a (aV.cells Q5 c))] (DX (QO c)):=by
 refine bD QPz QO5 QNp 0 0 13 wD (kc QIg kn) (λK =>
 (aS (!(Zr c.1 c.2.1)) (K (DX (0:Int))) (K (DX (aI (((c.2.1).length:Int)+1)))))) (λhb=>?_)
 grind[QO]
theorem DY:Qf Tryz.prog wD:=Qh λx _=>QLd x.1
end
end Go.Proofs.YtdplaepmjogjjaaGreat.Am

namespace Go.Proofs.YtdplaepmjogjjaaGreat.Am
open Go Go.RowKit Go.Proofs.YtdplaepmjogjjaaGreat
set_option linter.all false
set_option maxHeartbeats 2000000
noncomputable section
variable (K:aJ->Prop)
def DZ(t:Int × Int):aJ:=cd (.tp [(aO t.1),(aO t.2)])
def An:aP:=Qg 266 [(.a Q5),(.c TI)] λx=>(none,DZ (Yf x.1 x.2.1))
def QTA:aN:=⟨[Al],false⟩
def QTW:af :=
 (ag [(.ae [aD 2 (.box 79 0 6),ab 4 (aw 0),ab 5 (aw 0)]),(.ae [an 9 2 0,aZ 10 9 1,an 11 2 1,ar 12 11 1,ab 13 1,aL 14 128 [10,12,13],ab 8 14,bF 15 8 0,bF 16 8 1,ab 6 15,ab 7 16]),(ag [(.ae [ab 17 6,ab 18 7,az 19 .eql 17 18]),(.cond 19 (ag [(.ae [ab 4 (aw 0),ab 5 (aw 0)]),.ret]) .skip)]),(.draw [an 20 2 0,an 21 20 0,ar 22 21 1,ab 23 6,bn 24 22 23 aK,an 25 24 1,ar 26 25 1,an 27 2 0,an 28 27 0,ar 29 28 1,ab 30 7,az 31 .sub 30 (aw 1),bn 32 29 31 aK,an 33 32 2,ar 34 33 1,ab 4 26,ab 5 34] []),.ret])
def QRg:List (bw × Md):=[(.t 4,.one .d),(.t 5,.one .d)]
theorem QR6(c:QC)(s:Int):aR Tryz.prog 266 [(.a (aV.cells Q5 c)),(.c TI s)] (DZ (Yf c s)):=by
 refine bD QTA QTW QRg 0 0 35 An (kc Nf kn) (λK =>
 (aS (((QG c.1 c.2.1 s).1)==((QG c.1 c.2.1 s).2)) (K (DZ ((0:Int),(0:Int)))) ((((0:Int)<=(QG c.1 c.2.1 s).1/\Int.toNat ((QG c.1 c.2.1 s).1)<(c.1).length)/\(0<=aI (((QG c.1 c.2.1 s).2)-1)/\Int.toNat (aI (((QG c.1 c.2.1 s).2)-1))<(c.1).length))/\K (DZ ((aq bY c.1 (Int.toNat ((QG c.1 c.2.1 s).1))).2.1,(aq bY c.1 (Int.toNat (aI (((QG c.1 c.2.1 s).2)-1)))).2.2.1))))) (λhb=>?_)
 have gg:(c.1).length<=9223372036854775807:=hb.1.1.1;have gh:(c.2.1).length<=9223372036854775807:=hb.1.2.1.1;have gi:(c.2.2.2.1).length<=9223372036854775807:=hb.1.2.2.2.1.1;have fD:(c.2.2.2.2.1).length<=9223372036854775807:=hb.1.2.2.2.2.1.1;have gj:(c.2.2.2.2.2).length<=9223372036854775807:=hb.1.2.2.2.2.2.1.1;have hr:=tU c.1 c.2.1 s;refine⟨λh=>au (by simp at h;simp[Yf,h]),λh=>?_⟩;have dk:¬ (QG c.1 c.2.1 s).1=(QG c.1 c.2.1 s).2:=by simpa using h
 have e1:Int.toNat (aI ((QG c.1 c.2.1 s).2-1))=(QG c.1 c.2.1 s).2.toNat-1/\0<=aI ((QG c.1 c.2.1 s).2-1):=by
  rw[Qy (by omega) (by omega)];omega
 refine⟨⟨⟨by omega,by omega⟩,e1.2,by rw[e1.1];omega⟩,au ?_⟩;rw[e1.1];simp[Yf,dk]
theorem Nh:Qf Tryz.prog An:=Qh λx _=>QR6 x.1 x.2.1
def Ni(t:Bool):aJ:=cd (bH t)
def D0:aP:=Qg 268 [(.a Q5),(.c TI)] λx=>(none,Ni (Jk x.1 x.2.1))
def QNP:aN:=⟨[],false⟩
def QZA:af :=
 (ag [(.ae [aD 2 (.box 79 0 6),ab 4 (bm false)]),(.ae [ab 5 1,az 6 .geq 5 (aw 0),ab 7 6,.bj 7 true [ab 8 1,an 9 2 3,ar 10 9 1,bh 11 10,az 12 .lss 8 11] 13 12,ab 14 13,.bj 14 true [an 15 2 3,ar 16 15 1,ab 17 1,bn 18 16 17 [.bool],ar 19 18 1] 20 19,ab 4 20]),.ret])
def QNN:List (bw × Md):=[(.t 4,.one .d)]
theorem QL3(c:QC)(s:Int):aR Tryz.prog 268 [(.a (aV.cells Q5 c)),(.c TI s)] (Ni (Jk c s)):=by
 refine bD QNP QZA QNN 0 0 21 D0 kn (λK =>
 ((((decide (s>=0))&&(decide (s<((c.2.2.2.1).length:Int))))=true->(0<=s/\Int.toNat s<(c.2.2.2.1).length))/\K (Ni (((decide (s>=0))&&(decide (s<((c.2.2.2.1).length:Int))))&&(aq (false:Bool) c.2.2.2.1 (Int.toNat s)))))) (λhb=>?_)
 refine⟨λh=>by simp at h;omega,au (by simp[Jk])⟩
theorem QBO:Qf Tryz.prog D0:=Qh λx _=>QL3 x.1 x.2.1
def Ao(t:Int):aJ:=cd (aO t)
def D1:aP:=Qg 250 [(.a Q5),(.c TI)] λx=>(none,Ao (YT x.1 x.2.1))
def Nj:aN:=⟨[wB],false⟩
def QFs:af :=
 (ag [(ag [(.ae [ab 19 8,ab 20 6,az 21 .lss 19 20]),(.cond 21 .skip (.exit 0))]),(.block 1 (.ae [ab 24 7,an 25 2 0,an 26 25 0,ar 27 26 1,ab 28 8,bn 29 27 28 aK,an 30 29 1,ar 31 30 1,az 32 .add 24 31,ab 7 32])),(.ae [ab 22 8,az 23 .add 22 (aw 1),ab 8 23])])
def QEv:List (Nat × Md):=[(2,.b (da 6)),(5,.one .d),(6,.one .d),(7,.one .d),(8,.one .d)]
def Qvz:af :=
 (ag [(ag [(.ae [ab 33 6,ab 34 5,az 35 .gtr 33 34]),(.cond 35 (.ae [ab 36 7,an 37 2 0,an 38 37 0,ar 39 38 1,ab 40 6,az 41 .sub 40 (aw 1),bn 42 39 41 aK,an 43 42 2,ar 44 43 1,az 45 .add 36 44,ab 7 45]) .skip)]),(.ae [ab 46 7,ab 4 46]),.ret])
def QTd:af :=
 (ag [(.ae [aD 2 (.box 79 0 6),ab 4 (aw 0)]),(.ae [an 10 2 0,aZ 11 10 1,an 12 2 1,ar 13 12 1,ab 14 1,aL 15 119 [11,13,14],ab 9 15,bF 16 9 0,bF 17 9 1,ab 5 16,ab 6 17]),(.ae [ab 7 (aw 0)]),(ag [(.ae [ab 18 5,ab 8 18]),(.block 0 (.loop QEv QFs))]),Qvz])
def QAl:List (bw × Md):=[(.t 4,.one .d)]
def QDa:Qb:=TQ 0 0 QAl K
def QX0:Qb:=ba (aU Nj 0 Qvz (QDa K)) (QDa K)
def QZ3:Qb:=bf 0 (QX0 K)
def D2(c:QC)(s:Int)(n:Int)(i:Int):Prop:=Loop Nj 0 QEv QFs (QZ3 K) ⟨[(2,(.p 0 0 0)),(5,(aO ((QG c.1 c.2.1 s).1))),(6,(aO ((QG c.1 c.2.1 s).2))),(7,(aO n)),(8,(aO i))],[(0,(.box (aV.cells Q5 c)))],1⟩
theorem QEV(c:QC)(s:Int)(n:Int)(i:Int) (h :
 (aS (decide (i<((QG c.1 c.2.1 s).2))) ((0<=i/\Int.toNat i<(c.1).length)/\(D2 K c s (aI (n+((aq bY c.1 (Int.toNat i)).2.1))) (aI (i+1)))) (aS (decide (((QG c.1 c.2.1 s).2)>((QG c.1 c.2.1 s).1))) ((0<=aI (((QG c.1 c.2.1 s).2)-1)/\Int.toNat (aI (((QG c.1 c.2.1 s).2)-1))<(c.1).length)/\K (Ao (aI (n+((aq bY c.1 (Int.toNat (aI (((QG c.1 c.2.1 s).2)-1)))).2.2.1))))) (K (Ao n))))):D2 K c s n i :=
 Loop.of h
theorem QWE(c:QC)(s:Int):aR Tryz.prog 250 [(.a (aV.cells Q5 c)),(.c TI s)] (Ao (YT c s)):=by
 refine bD Nj QTd QAl 0 0 47 D1 (kc DV kn) (λK =>
 (D2 K c s 0 ((QG c.1 c.2.1 s).1))) (λhb=>?_)
 have gg:(c.1).length<=9223372036854775807:=hb.1.1.1;have gh:(c.2.1).length<=9223372036854775807:=hb.1.2.1.1;have gi:(c.2.2.2.1).length<=9223372036854775807:=hb.1.2.2.2.1.1;have fD:(c.2.2.2.2.1).length<=9223372036854775807:=hb.1.2.2.2.2.1.1;have gj:(c.2.2.2.2.2).length<=9223372036854775807:=hb.1.2.2.2.2.2.1.1;have hr:=tU c.1 c.2.1 s;generalize hz:(if(QG c.1 c.2.1 s).1<(QG c.1 c.2.1 s).2 then(aq bY c.1 ((QG c.1 c.2.1 s).2.toNat-1)).2.2.1 else 0)=z;have:=K7 c.1 _ _ hr.1 hr.2.1 hr.2.2.1 (λr k=>∀ y:Int,aI (y+(r.map λo=>o.2.1).sum+z)=(YT c s)->D2 (λr'=>r'=Ao (YT c s)) c s (aI y) k) ?_ ?_ 0 (by simp[YT,hz])
 ·rw[show(((QG c.1 c.2.1 s).1.toNat:Nat):Int)=(QG c.1 c.2.1 s).1 by omega]at this;exact this
 ·intro y he;refine QEV _ _ _ _ _ ⟨λh=>by simp at h;omega,λ_=>⟨λh=>?_,λh=>au ?_⟩⟩
  ·have aY:(QG c.1 c.2.1 s).1<(QG c.1 c.2.1 s).2:=by simpa using h
   have e1:Int.toNat (aI ((QG c.1 c.2.1 s).2-1))=(QG c.1 c.2.1 s).2.toNat-1/\0<=aI ((QG c.1 c.2.1 s).2-1):=by
    rw[Qy (by omega) (by omega)];omega
   refine⟨⟨e1.2,by rw[e1.1];omega⟩,au ?_⟩;rw[if_pos aY]at hz;rw[e1.1,vW,<- he,<- hz];simp
  ·rw[if_neg (by simpa using h)]at hz;rw[<- he,<- hz];simp
 ·intro k x r h1 h2 aY hg ih y he;refine QEV _ _ _ _ _ ⟨λ_=>?_,λh=>by simp at h;omega⟩;rw[Int.toNat_natCast,hg,Qy (x:=(k:Int)+1) (by omega) (by omega),vW];refine⟨⟨by omega,aY⟩,ih _ ?_⟩;rw[<- he,List.map_cons,List.sum_cons];congr 1
  omega
theorem QvP:Qf Tryz.prog D1:=Qh λx _=>QWE x.1 x.2.1
def D3(t:Int):aJ:=cd (aO t)
def D4:aP:=Qg 269 [(.a Q5),(.c TI)] λx=>(none,D3 (YT x.1 x.2.1))
def Nk:aN:=⟨[Al,An],false⟩
def QGL:af :=
 (ag [(ag [(.ae [ab 26 9,ab 27 6,az 28 .lss 26 27]),(.cond 28 .skip (.exit 0))]),(.block 1 (.ae [ab 31 8,an 32 2 0,an 33 32 0,ar 34 33 1,ab 35 9,bn 36 34 35 aK,an 37 36 1,ar 38 37 1,az 39 .add 31 38,ab 8 39])),(.ae [ab 29 9,az 30 .add 29 (aw 1),ab 9 30])])
def QzI:List (Nat × Md):=[(2,.b (da 6)),(6,.one .d),(8,.one .d),(9,.one .d)]
def QDT:af :=
 (ag [(.ae [ab 40 8,ab 4 40]),.ret])
def QTU:af :=
 (ag [(.ae [aD 2 (.box 79 0 6),ab 4 (aw 0)]),(.ae [an 11 2 0,aZ 12 11 1,an 13 2 1,ar 14 13 1,ab 15 1,aL 16 128 [12,14,15],ab 10 16,bF 17 10 0,bF 18 10 1,ab 5 17,ab 6 18]),(.ae [aZ 20 2 6,ab 21 1,aL 22 266 [20,21],ab 19 22,bF 23 19 0,bF 24 19 1,ab 7 23,ab 8 24]),(ag [(.ae [ab 25 5,ab 9 25]),(.block 0 (.loop QzI QGL))]),QDT])
def QvQ:List (bw × Md):=[(.t 4,.one .d)]
def Qx6:Qb:=TQ 0 0 QvQ K
def QWO:Qb:=ba (aU Nk 0 QDT (Qx6 K)) (Qx6 K)
def Q07:Qb:=bf 0 (QWO K)
def D5(c:QC)(s:Int)(n:Int)(i:Int):Prop:=Loop Nk 0 QzI QGL (Q07 K) ⟨[(2,(.p 0 0 0)),(6,(aO ((QG c.1 c.2.1 s).2))),(8,(aO n)),(9,(aO i))],[(0,(.box (aV.cells Q5 c)))],1⟩
theorem QDr(c:QC)(s:Int)(n:Int)(i:Int) (h :
 (aS (decide (i<((QG c.1 c.2.1 s).2))) ((0<=i/\Int.toNat i<(c.1).length)/\(D5 K c s (aI (n+((aq bY c.1 (Int.toNat i)).2.1))) (aI (i+1)))) (K (D3 n)))):D5 K c s n i :=
 Loop.of h
theorem QSj(c:QC)(s:Int):aR Tryz.prog 269 [(.a (aV.cells Q5 c)),(.c TI s)] (D3 (YT c s)):=by
 refine bD Nk QTU QvQ 0 0 41 D4 (kc Nf (kc Nh kn)) (λK =>
 (D5 K c s ((Yf c s).2) ((QG c.1 c.2.1 s).1))) (λhb=>?_)
 have gg:(c.1).length<=9223372036854775807:=hb.1.1.1;have gh:(c.2.1).length<=9223372036854775807:=hb.1.2.1.1;have gi:(c.2.2.2.1).length<=9223372036854775807:=hb.1.2.2.2.1.1;have fD:(c.2.2.2.2.1).length<=9223372036854775807:=hb.1.2.2.2.2.1.1;have gj:(c.2.2.2.2.2).length<=9223372036854775807:=hb.1.2.2.2.2.2.1.1;have hr:=tU c.1 c.2.1 s;generalize hz:(if(QG c.1 c.2.1 s).1<(QG c.1 c.2.1 s).2 then(aq bY c.1 ((QG c.1 c.2.1 s).2.toNat-1)).2.2.1 else 0)=z;have ez:(Yf c s).2=z:=by
  rw[<- hz];unfold Yf;by_cases h:(QG c.1 c.2.1 s).1=(QG c.1 c.2.1 s).2
  ·simp[h]
  ·simp only[if_neg h];rw[if_pos (by omega)]
 have hzm:0<=z/\z<=6:=by
  rw[<- hz]
  split
  ·rename_i h;have hc:=(hr.2.2.2.1 h).1;simp only[Zr,QS,Bool.and_eq_true]at hc;have:=zI (zJ hc.1.2 _ _ (Y4 (i:=(QG c.1 c.2.1 s).2.toNat-1) (by omega) bY)).1;omega
  ·omega
 have:=K7 c.1 _ _ hr.1 hr.2.1 hr.2.2.1 (λr k=>∀ y:Int,aI (y+(r.map λo=>o.2.1).sum)=(YT c s)->D5 (λr'=>r'=D3 (YT c s)) c s (aI y) k) ?_ ?_ z (by simp only[YT,hz];rw[Int.add_comm])
 ·rw[show(((QG c.1 c.2.1 s).1.toNat:Nat):Int)=(QG c.1 c.2.1 s).1 by omega,Qy (x:=z) (by omega) (by omega),<- ez]at this;exact this
 ·intro y he;refine QDr _ _ _ _ _ ⟨λh=>by simp at h;omega,λ_=>au ?_⟩;simpa using he
 ·intro k x r h1 h2 aY hg ih y he;refine QDr _ _ _ _ _ ⟨λ_=>?_,λh=>by simp at h;omega⟩;rw[Int.toNat_natCast,hg,Qy (x:=(k:Int)+1) (by omega) (by omega),vW];refine⟨⟨by omega,aY⟩,ih _ ?_⟩;rw[<- he,List.map_cons,List.sum_cons,Int.add_assoc]
theorem QBP:Qf Tryz.prog D4:=Qh λx _=>QSj x.1 x.2.1
def D6(t:Int):aJ:=cd (aO t)
def Nl:aP:=Qg 267 [(.a Q5),(.c TI)] λx=>(none,D6 (Jq x.1 x.2.1))
def Q2I:aN:=⟨[D0,An,D4],false⟩
def QQJ:af :=
 (ag [(.ae [aD 2 (.box 79 0 6),ab 4 (aw 0)]),(ag [(.ae [aZ 7 2 6,ab 8 1,aL 9 268 [7,8]]),(.cond 9 (ag [(.ae [aZ 11 2 6,ab 12 1,aL 13 266 [11,12],ab 10 13,bF 14 10 0,bF 15 10 1,ab 5 14,ab 6 15]),(.ae [ab 16 5,ab 4 16]),.ret]) .skip)]),(.ae [aZ 17 2 6,ab 18 1,aL 19 269 [17,18],ab 4 19]),.ret])
def QKG:List (bw × Md):=[(.t 4,.one .d)]
theorem QQN(c:QC)(s:Int):aR Tryz.prog 267 [(.a (aV.cells Q5 c)),(.c TI s)] (D6 (Jq c s)):=by
 refine bD Q2I QQJ QKG 0 0 20 Nl (kc QBO (kc Nh (kc QBP kn))) (λK =>
 (aS (Jk c s) (K (D6 ((Yf c s).1))) (K (D6 (YT c s))))) (λhb=>?_)
 refine⟨λh=>au (by simp[Jq,h]),λh=>au (by simp[Jq,h])⟩
theorem QYf:Qf Tryz.prog Nl:=Qh λx _=>QQN x.1 x.2.1
def D7(t:Int):aJ:=cd (aO t)
def Nm:aP:=Qg 249 [(.a Q5),(.c TI)] λx=>(none,D7 (Jq x.1 x.2.1))
def QM4:aN:=⟨[wB,D1],false⟩
def QSp:af :=
 (ag [(.ae [aD 2 (.box 79 0 6),ab 4 (aw 0)]),(.ae [an 8 2 0,aZ 9 8 1,an 10 2 1,ar 11 10 1,ab 12 1,aL 13 119 [9,11,12],ab 7 13,bF 14 7 0,bF 15 7 1,ab 5 14,ab 6 15]),(ag [(.ae [ab 16 6,ab 17 5,az 18 .gtr 16 17,ab 19 18,.bj 19 true [ab 20 1,an 21 2 3,ar 22 21 1,bh 23 22,az 24 .lss 20 23] 25 24,ab 26 25,.bj 26 true [an 27 2 3,ar 28 27 1,ab 29 1,bn 30 28 29 [.bool],ar 31 30 1] 32 31]),(.cond 32 (ag [(.ae [an 33 2 0,an 34 33 0,ar 35 34 1,ab 36 5,bn 37 35 36 aK,an 38 37 1,ar 39 38 1,ab 4 39]),.ret]) .skip)]),(.ae [aZ 40 2 6,ab 41 1,aL 42 250 [40,41],ab 4 42]),.ret])
def QJd:List (bw × Md):=[(.t 4,.one .d)]
theorem QQB(c:QC)(s:Int):aR Tryz.prog 249 [(.a (aV.cells Q5 c)),(.c TI s)] (D7 (Jq c s)):=by
 refine bD QM4 QSp QJd 0 0 43 Nm (kc DV (kc QvP kn)) (λK =>
 ((((decide (((QG c.1 c.2.1 s).2)>((QG c.1 c.2.1 s).1)))&&(decide (s<((c.2.2.2.1).length:Int))))=true->(0<=s/\Int.toNat s<(c.2.2.2.1).length))/\(aS (((decide (((QG c.1 c.2.1 s).2)>((QG c.1 c.2.1 s).1)))&&(decide (s<((c.2.2.2.1).length:Int))))&&(aq (false:Bool) c.2.2.2.1 (Int.toNat s))) (((0:Int)<=(QG c.1 c.2.1 s).1/\Int.toNat ((QG c.1 c.2.1 s).1)<(c.1).length)/\K (D7 ((aq bY c.1 (Int.toNat ((QG c.1 c.2.1 s).1))).2.1))) (K (D7 (YT c s)))))) (λhb=>?_)
 have hr:=tU c.1 c.2.1 s;refine⟨λh=>?_,λh=>⟨⟨by omega,?_⟩,au ?_⟩,λh=>au ?_⟩
 ·simp at h;have:=hr.2.2.2.1 h.1;omega
 ·simp at h;omega
 ·simp at h;have h1:=hr.2.2.2.1 h.1.1;have e1:Jk c s=true:=by simp[Jk,h];omega
  simp[Jq,e1,Yf,Int.ne_of_lt h.1.1]
 ·by_cases e1:Jk c s=true
  ·simp only[Jk,Bool.and_eq_true,decide_eq_true_eq]at e1;have hn:¬ (QG c.1 c.2.1 s).1<(QG c.1 c.2.1 s).2:=by
    intro aY;simp[aY,e1]at h
   have e2:(QG c.1 c.2.1 s).1=(QG c.1 c.2.1 s).2:=by omega
   simp[Jq,Jk,e1,Yf,e2,YT,slice,QWA]
  ·simp[Jq,e1]
theorem QJH:Qf Tryz.prog Nm:=Qh λx _=>QQB x.1 x.2.1
def uy(t:Int):aJ:=cd (aO t)
def Nn:aP:=Qg 200 [(.a Q5),(.c TI),(.c TI)] λx=>(none,uy (YX x.1 x.2.1 x.2.2.1))
def QJa:aN:=⟨[wB,YF,Nm,D1],false⟩
def QwO:af :=
 (ag [(.draw [ab 48 9,aZ 49 3 6,ab 50 1,aL 51 249 [49,50],az 52 .mul 48 51,an 53 3 0,an 54 53 0,ar 55 54 1,ab 56 7,bn 57 55 56 aK,an 58 57 1,ar 59 58 1,an 60 3 0,an 61 60 0,ar 62 61 1,ab 63 8,az 64 .sub 63 (aw 1),bn 65 62 64 aK,an 66 65 2,ar 67 66 1,aD 68 (.mm true 59 67),az 69 .add 52 68,ab 10 69] [(3,5),(3,6),(3,7),(3,9),(3,10),(3,11),(3,12),(3,13),(3,14),(3,17),(3,18),(3,19)]),(ag [(.ae [ab 70 1,an 71 3 3,ar 72 71 1,bh 73 72,az 74 .lss 70 73,ab 75 74,.bj 75 true [an 76 3 3,ar 77 76 1,ab 78 1,bn 79 77 78 [.bool],ar 80 79 1] 81 80]),(.cond 81 (.ae [ab 82 10,aZ 83 3 6,ab 84 1,aL 85 250 [83,84],az 86 .add 82 85,ab 10 86]) .skip)]),(.ae [ab 87 10,ab 6 87]),.ret])
def QNU:List (Nat × Md):=[(1,.one .d),(3,.b (da 6)),(7,.one .d),(8,.one .d),(9,.one .d)]
def QQd:af:=.wk QNU QwO
def QQw:af :=
 (ag [(.ae [aD 3 (.box 79 0 6),ab 6 (aw 0)]),(.ae [an 12 3 0,aZ 13 12 1,an 14 3 1,ar 15 14 1,ab 16 1,aL 17 119 [13,15,16],ab 11 17,bF 18 11 0,bF 19 11 1,ab 7 18,ab 8 19]),(ag [(.ae [ab 20 8,ab 21 7,az 22 .leq 20 21,ab 23 22,.bj 23 false [ab 24 2,aL 25 158 [24,(aw 1),(aw 5)],bL 26 25] 27 26,ab 28 27,.bj 28 false [an 29 3 1,ar 30 29 1,bh 31 30,az 32 .add 31 (aw 1),aL 33 158 [32,(aw 1),(aw 4)],bL 34 33] 35 34]),(.cond 35 (ag [(.ae [ab 6 (aw 0)]),.ret]) .skip)]),(.ae [ab 36 2,ab 9 36]),(ag [(.ae [an 37 3 2,ar 38 37 1,az 39 .eql 38 (aw 2)]),(.cond 39 (.ae [ab 40 2,an 41 3 1,ar 42 41 1,bh 43 42,az 44 .add 43 (aw 1),ab 45 1,az 46 .sub 44 45,aD 47 (.mm false 40 46),ab 9 47]) .skip)]),QQd])
def Qxh:List (bw × Md):=[(.t 6,.one .d)]
def QVT:Qb:=TQ 0 0 Qxh K
@[irreducible] def D8(c:QC)(s:Int)(k:Int):Prop:=aU QJa 0 QwO (QVT K) ⟨[(1,(aO s)),(3,(.p 0 0 0)),(7,(aO ((QG c.1 c.2.1 s).1))),(8,(aO ((QG c.1 c.2.1 s).2))),(9,(aO k))],[(0,(.box (aV.cells Q5 c)))],1⟩
theorem QTp(c:QC)(s:Int)(k:Int) (h :
 let z2:=QG c.1 c.2.1 s
 let z3:=aq bY c.1 (Int.toNat (aI ((z2.2)-1)))
 let z1:=aI ((aI (k*(Jq c s)))+(if((aq bY c.1 (Int.toNat (z2.1))).2.1)<(z3.2.2.1) then(z3.2.2.1) else((aq bY c.1 (Int.toNat (z2.1))).2.1)))
 (((0<=z2.1/\Int.toNat (z2.1)<(c.1).length)/\(0<=aI ((z2.2)-1)/\Int.toNat (aI ((z2.2)-1))<(c.1).length))/\(((decide (s<((c.2.2.2.1).length:Int)))=true->(0<=s/\Int.toNat s<(c.2.2.2.1).length))/\(aS ((decide (s<((c.2.2.2.1).length:Int)))&&(aq (false:Bool) c.2.2.2.1 (Int.toNat s))) (K (uy (aI (z1+(YT c s))))) (K (uy z1)))))):cz (D8 K c s k) :=
 cz.of h
theorem QNs(c:QC)(s:Int)(aF:Int):aR Tryz.prog 200 [(.a (aV.cells Q5 c)),(.c TI s),(.c TI aF)] (uy (YX c s aF)):=by
 refine bD QJa QQw Qxh 0 0 88 Nn (kc DV (kc YV (kc QJH (kc QvP kn)))) (λK =>
 (aS (((decide (((QG c.1 c.2.1 s).2)<=((QG c.1 c.2.1 s).1)))||(!(aT aF (1:Int) (5:Int))))||(!(aT (aI (((c.2.1).length:Int)+1)) (1:Int) (4:Int)))) (K (uy (0:Int))) (aS (c.2.2.1==2) (D8 K c s (if(aI ((aI (((c.2.1).length:Int)+1))-s))<aF then(aI ((aI (((c.2.1).length:Int)+1))-s)) else aF)) (D8 K c s aF)))) (λhb=>?_)
 have gg:(c.1).length<=9223372036854775807:=hb.1.1.1;have gh:(c.2.1).length<=9223372036854775807:=hb.1.2.1.1;have gi:(c.2.2.2.1).length<=9223372036854775807:=hb.1.2.2.2.1.1;have fD:(c.2.2.2.2.1).length<=9223372036854775807:=hb.1.2.2.2.2.1.1;have gj:(c.2.2.2.2.2).length<=9223372036854775807:=hb.1.2.2.2.2.2.1.1;have hr:=tU c.1 c.2.1 s;have hs:=tW (c:=c);refine⟨λh=>au ?_,λh=>?_⟩
 ·unfold YX;rw[if_neg];intro h2;simp only[Bool.and_eq_true,QW,decide_eq_true_eq]at h2;have hc:=hs.2.2.1.1 (by omega);have fS:=hs.2.2.2 hc;have:=hr.2.2.2.2 ⟨hc,by omega,by omega⟩;rw[<- fS]at h;have e:=Qy (x:=QO c) (by omega) (by omega);rw[e]at h;grind[aT]
 ·have aY:(QG c.1 c.2.1 s).1<(QG c.1 c.2.1 s).2:=by grind
  have hc:=hr.2.2.2.1 aY;have fS:=hs.2.2.2 hc.1;have hz:Yf c s=((aq bY c.1 (QG c.1 c.2.1 s).1.toNat).2.1,(aq bY c.1 ((QG c.1 c.2.1 s).2.toNat-1)).2.2.1):=by
   unfold Yf;simp only[if_neg (Int.ne_of_lt aY)]
  have e1:Int.toNat (aI ((QG c.1 c.2.1 s).2-1))=(QG c.1 c.2.1 s).2.toNat-1/\0<=aI ((QG c.1 c.2.1 s).2-1):=by
   rw[Qy (by omega) (by omega)];omega
  have e2:aI ((c.2.1.length:Int)+1)=QO c:=by rw[fS];exact Qy (by omega) (by omega)
  have e3:aI (QO c-s)=QO c-s:=Qy (by omega) (by omega);have iR:Jk c s=(decide (s<(c.2.2.2.1.length:Int))&&aq false c.2.2.2.1 s.toNat):=by
   unfold Jk;rw[decide_eq_true hc.2.1,Bool.true_and]
  rw[e2]at h ⊢;have eS:(aT s 0 (QO c-1)&&aT aF 1 5&&decide (QO c<=4))=true:=by grind[aT]
  have key:∀ k:Int,YX c s aF=aI (aI (aI (k*Jq c s)+fC (Yf c s).1 (Yf c s).2)+if Jk c s then YT c s else 0)->D8 (λr'=>r'=uy (YX c s aF)) c s k:=by
   intro k hk;refine(QTp (λr'=>r'=uy (YX c s aF)) c s _ ⟨⟨⟨by omega,by omega⟩,e1.2,by rw[e1.1];omega⟩,λh=>⟨by omega,by simp at h;omega⟩,λh=>au ?_,λh=>au ?_⟩).h
   ·rw[hk,iR,h,e1.1,hz];rfl
   ·rw[hk,iR,h,e1.1,hz];simp[WZ];rfl
  rw[e3];refine⟨λh1=>key _ ?_,λh1=>key _ ?_⟩
  ·simp only[YX,eS,if_true];simp at h1;rw[if_pos h1];rfl
  ·simp only[YX,eS,if_true];simp at h1;rw[if_neg h1]
theorem Q3j:Qf Tryz.prog Nn:=Qh λx _=>QNs x.1 x.2.1 x.2.2.1
def uz(t:Int):aJ:=cd (aO t)
def Np:aP:=Qg 252 [(.a Q5),(.c TI),(.c TI)] λx=>(none,uz (YX x.1 x.2.1 x.2.2.1))
def Qwx:aN:=⟨[wD,An,Nl,D0,D4],false⟩
def Qvk:af :=
 (ag [(.ae [aZ 43 3 6,ab 44 1,aL 45 266 [43,44],ab 42 45,bF 46 42 0,bF 47 42 1,ab 9 46,ab 10 47]),(.ae [ab 48 8,aZ 49 3 6,ab 50 1,aL 51 267 [49,50],az 52 .mul 48 51,ab 53 9,ab 54 10,aD 55 (.mm true 53 54),az 56 .add 52 55,ab 11 56]),(ag [(.ae [aZ 57 3 6,ab 58 1,aL 59 268 [57,58]]),(.cond 59 (.ae [ab 60 11,aZ 61 3 6,ab 62 1,aL 63 269 [61,62],az 64 .add 60 63,ab 11 64]) .skip)]),(.ae [ab 65 11,ab 6 65]),.ret])
def QLj:List (Nat × Md):=[(1,.one .d),(3,.b (da 6)),(8,.one .d)]
def QWq:af:=.wk QLj Qvk
def Q2X:af :=
 (ag [(.ae [aD 3 (.box 79 0 6),ab 6 (aw 0)]),(.ae [aZ 12 3 6,aL 13 127 [12],ab 7 13]),(ag [(.ae [ab 14 1,az 15 .lss 14 (aw 0),ab 16 15,.bj 16 false [ab 17 1,ab 18 7,az 19 .geq 17 18] 20 19,ab 21 20,.bj 21 false [ab 22 2,az 23 .lss 22 (aw 1)] 24 23,ab 25 24,.bj 25 false [ab 26 2,az 27 .gtr 26 (aw 5)] 28 27,ab 29 28,.bj 29 false [ab 30 7,az 31 .gtr 30 (aw 4)] 32 31]),(.cond 32 (ag [(.ae [ab 6 (aw 0)]),.ret]) .skip)]),(.ae [ab 33 2,ab 8 33]),(ag [(.ae [an 34 3 2,ar 35 34 1,az 36 .eql 35 (aw 2)]),(.cond 36 (.ae [ab 37 2,ab 38 7,ab 39 1,az 40 .sub 38 39,aD 41 (.mm false 37 40),ab 8 41]) .skip)]),QWq])
def QzA:List (bw × Md):=[(.t 6,.one .d)]
def QTB:Qb:=TQ 0 0 QzA K
@[irreducible] def D9(c:QC)(s:Int)(count:Int):Prop:=aU Qwx 0 Qvk (QTB K) ⟨[(1,(aO s)),(3,(.p 0 0 0)),(8,(aO count))],[(0,(.box (aV.cells Q5 c)))],1⟩
theorem QP1(c:QC)(s:Int)(count:Int) (h :
 (aS (Jk c s) (K (uz (aI ((aI ((aI (count*(Jq c s)))+(if((Yf c s).1)<((Yf c s).2) then((Yf c s).2) else((Yf c s).1))))+(YT c s))))) (K (uz (aI ((aI (count*(Jq c s)))+(if((Yf c s).1)<((Yf c s).2) then((Yf c s).2) else((Yf c s).1)))))))):cz (D9 K c s count) :=
 cz.of h
theorem QPl(c:QC)(s:Int)(aF:Int):aR Tryz.prog 252 [(.a (aV.cells Q5 c)),(.c TI s),(.c TI aF)] (uz (YX c s aF)):=by
 refine bD Qwx Q2X QzA 0 0 66 Np (kc DY (kc Nh (kc QYf (kc QBO (kc QBP kn))))) (λK =>
 (aS (((((decide (s<0))||(decide (s>=(QO c))))||(decide (aF<1)))||(decide (aF>5)))||(decide ((QO c)>4))) (K (uz (0:Int))) (aS (c.2.2.1==2) (D9 K c s (if(aI ((QO c)-s))<aF then(aI ((QO c)-s)) else aF)) (D9 K c s aF)))) (λhb=>?_)
 have gg:(c.1).length<=9223372036854775807:=hb.1.1.1;have gh:(c.2.1).length<=9223372036854775807:=hb.1.2.1.1;have gi:(c.2.2.2.1).length<=9223372036854775807:=hb.1.2.2.2.1.1;have fD:(c.2.2.2.2.1).length<=9223372036854775807:=hb.1.2.2.2.2.1.1;have gj:(c.2.2.2.2.2).length<=9223372036854775807:=hb.1.2.2.2.2.2.1.1;have hs:=tW (c:=c);refine⟨λh=>au (by unfold YX;rw[if_neg];grind[aT]),λh=>?_⟩;have eS:(aT s 0 (QO c-1)&&aT aF 1 5&&decide (QO c<=4))=true:=by grind[aT]
 have Nq:=eS;simp only[Bool.and_eq_true,QW,decide_eq_true_eq]at Nq;have e3:aI (QO c-s)=QO c-s:=Qy (by omega) (by omega);have key:∀ k:Int,YX c s aF=aI (aI (aI (k*Jq c s)+fC (Yf c s).1 (Yf c s).2)+if Jk c s then YT c s else 0)->D9 (λr'=>r'=uz (YX c s aF)) c s k:=by
  intro k hk;refine(QP1 (λr'=>r'=uz (YX c s aF)) c s _ ⟨λh=>au ?_,λh=>au ?_⟩).h
  ·rw[hk,h];rfl
  ·rw[hk,h];simp[WZ];rfl
 rw[e3];refine⟨λh1=>key _ ?_,λh1=>key _ ?_⟩
 ·simp only[YX,eS,if_true];simp at h1;rw[if_pos h1];rfl
 ·simp only[YX,eS,if_true];simp at h1;rw[if_neg h1]
theorem Q3F:Qf Tryz.prog Np:=Qh λx _=>QPl x.1 x.2.1 x.2.2.1
end
end Go.Proofs.YtdplaepmjogjjaaGreat.Am

namespace Go.Proofs.YtdplaepmjogjjaaGreat.Am
open Go Go.RowKit Go.Proofs.YtdplaepmjogjjaaGreat
set_option linter.all false
noncomputable section
variable (K:aJ->Prop)
def rD(t:Bool):aJ:=cd (bH t)
def Nr:aP:=Qg 206 [(.a Q5)] λx=>(none,rD (YE x.1))
def Ns:aN:=⟨[],false⟩
def QAe:af :=
 (ag [(.ae [az 16 .lss 15 14]),(.cond 16 .skip (.exit 0)),(.block 1 (ag [(.ae [bn 17 13 15 [TI],ar 18 17 1,ab 4 18]),(.ae [ab 19 4,az 20 .lss 19 (aw 1),ab 21 20,.bj 21 false [ab 22 4,az 23 .gtr 22 (aw 5)] 24 23]),(.cond 24 (ag [(.ae [ab 2 (bm false)]),.ret]) .skip)])),(.ae [az 25 .add 15 (aw 1),ab 15 25])])
def QAJ:List (Nat × Md):=ij [13,14,15]
def Qw9:af :=
 (ag [(.ae [ab 2 (bm true)]),.ret])
def QVA:af :=
 (ag [(.ae [aD 1 (.box 79 0 6),ab 2 (bm false)]),(ag [(.ae [an 5 1 4,ar 6 5 1,bh 7 6,an 8 1 1,ar 9 8 1,bh 10 9,az 11 .neq 7 10]),(.cond 11 (ag [(.ae [ab 2 (bm false)]),.ret]) .skip)]),(ag [(.ae [an 12 1 4,ar 13 12 1,bh 14 13,ab 15 (aw 0)]),(.block 0 (.loop QAJ QAe))]),Qw9])
def Qv4:List (bw × Md):=[(.t 2,.one .d)]
def QHH:Qb:=TQ 0 0 Qv4 K
def Q11:Qb:=ba (aU Ns 0 Qw9 (QHH K)) (QHH K)
def Q2h:Qb:=bf 0 (Q11 K)
def Nt(c:QC)(x:Int):Prop:=Loop Ns 0 QAJ QAe (Q2h K) ⟨[(13,(bu [TI] c.2.2.2.2.1)),(14,(aO ((c.2.2.2.2.1).length:Int))),(15,(aO x))],[],0⟩
theorem Q0G(c:QC)(x:Int) (h :
 (aS (decide (x<((c.2.2.2.2.1).length:Int))) ((0<=x/\Int.toNat x<(c.2.2.2.2.1).length)/\(aS ((decide ((aq (0:Int) c.2.2.2.2.1 (Int.toNat x))<1))||(decide ((aq (0:Int) c.2.2.2.2.1 (Int.toNat x))>5))) (K (rD false)) (Nt K c (aI (x+1))))) (K (rD true)))):Nt K c x :=
 Loop.of h
theorem QPA(c:QC):aR Tryz.prog 206 [(.a (aV.cells Q5 c))] (rD (YE c)):=by
 refine bD Ns QVA Qv4 0 0 26 Nr kn (λK =>
 (aS (((c.2.2.2.2.1).length:Int) != ((c.2.1).length:Int)) (K (rD false)) (Nt K c 0))) (λhb=>?_)
 have gg:(c.1).length<=9223372036854775807:=hb.1.1.1;have gh:(c.2.1).length<=9223372036854775807:=hb.1.2.1.1;have gi:(c.2.2.2.1).length<=9223372036854775807:=hb.1.2.2.2.1.1;have fD:(c.2.2.2.2.1).length<=9223372036854775807:=hb.1.2.2.2.2.1.1;have gj:(c.2.2.2.2.2).length<=9223372036854775807:=hb.1.2.2.2.2.2.1.1;refine⟨λh=>au (by grind[YE]),λh=>?_⟩;have hl:(c.2.2.2.2.1.length==c.2.1.length)=true:=by
  have h:((c.2.2.2.2.1.length:Int)==(c.2.1.length:Int))=true:=by simpa[bne]using h
  have:=of_decide_eq_true (by simpa using h:decide ((c.2.2.2.2.1.length:Int)=c.2.1.length)=true);simp;omega
 exact ox (Q:=λx=>rD x=rD (YE c)) (p:=λn=>aT n 1 5) (c:=λn=>decide (n<1)||decide (n>5)) 0 fD (by intro x;grind[aT]) (λi h=>Q0G (λr'=>r'=rD (YE c)) c i h) (au (by simp[YE];intro _;simpa using hl))
theorem Q2y:Qf Tryz.prog Nr:=Qh λx _=>QPA x.1
def wE(t:Bool):aJ:=cd (bH t)
def Nu:aP:=Qg 207 [(.a Q5),(.c TI)] λx=>(none,wE (Y9 x.1 x.2.1))
def Nv:aN:=⟨[wD,Np],false⟩
def QyR:af :=
 (ag [(.ae [az 17 .lss 16 15]),(.cond 17 .skip (.exit 0)),(.block 1 (ag [(.ae [ab 18 16,bn 19 14 16 [TI],ar 20 19 1,ab 5 18,ab 6 20]),(.ae [ab 21 6,aZ 22 2 6,ab 23 5,ab 24 1,aL 25 252 [22,23,24],az 26 .lss 21 25,ab 27 26,.bj 27 false [ab 28 6,az 29 .gtr 28 (aw 100000)] 30 29]),(.cond 30 (ag [(.ae [ab 4 (bm false)]),.ret]) .skip)])),(.ae [az 31 .add 16 (aw 1),ab 16 31])])
def QFS:List (Nat × Md):=[(1,.one .d),(2,.b (da 6)),(14,.one .d),(15,.one .d),(16,.one .d)]
def QxV:af :=
 (ag [(.ae [ab 4 (bm true)]),.ret])
def QYB:af :=
 (ag [(.ae [aD 2 (.box 79 0 6),ab 4 (bm false)]),(ag [(.draw [an 7 2 5,ar 8 7 1,bh 9 8,aZ 10 2 6,aL 11 127 [10],az 12 .neq 9 11] [(0,4),(1,4),(2,4)]),(.cond 12 (ag [(.ae [ab 4 (bm false)]),.ret]) .skip)]),(ag [(.ae [an 13 2 5,ar 14 13 1,bh 15 14,ab 16 (aw 0)]),(.block 0 (.loop QFS QyR))]),QxV])
def Qym:List (bw × Md):=[(.t 4,.one .d)]
def QAf:Qb:=TQ 0 0 Qym K
def QJl:Qb:=ba (aU Nv 0 QxV (QAf K)) (QAf K)
def QMf:Qb:=bf 0 (QJl K)
def Ea(c:QC)(aF:Int)(x:Int):Prop:=Loop Nv 0 QFS QyR (QMf K) ⟨[(1,(aO aF)),(2,(.p 0 0 0)),(14,(bu [TI] c.2.2.2.2.2)),(15,(aO ((c.2.2.2.2.2).length:Int))),(16,(aO x))],[(0,(.box (aV.cells Q5 c)))],1⟩
theorem QEm(c:QC)(aF:Int)(x:Int) (h :
 (aS (decide (x<((c.2.2.2.2.2).length:Int))) ((0<=x/\Int.toNat x<(c.2.2.2.2.2).length)/\(aS ((decide ((aq (0:Int) c.2.2.2.2.2 (Int.toNat x))<(YX c x aF)))||(decide ((aq (0:Int) c.2.2.2.2.2 (Int.toNat x))>100000))) (K (wE false)) (Ea K c aF (aI (x+1))))) (K (wE true)))):Ea K c aF x :=
 Loop.of h
theorem QP8(c:QC)(aF:Int):aR Tryz.prog 207 [(.a (aV.cells Q5 c)),(.c TI aF)] (wE (Y9 c aF)):=by
 refine bD Nv QYB Qym 0 0 32 Nu (kc DY (kc Q3F kn)) (λK =>
 (aS (((c.2.2.2.2.2).length:Int) != (QO c)) (K (wE false)) (Ea K c aF 0))) (λhb=>?_)
 have gg:(c.1).length<=9223372036854775807:=hb.1.1.1;have gh:(c.2.1).length<=9223372036854775807:=hb.1.2.1.1;have gi:(c.2.2.2.1).length<=9223372036854775807:=hb.1.2.2.2.1.1;have fD:(c.2.2.2.2.1).length<=9223372036854775807:=hb.1.2.2.2.2.1.1;have gj:(c.2.2.2.2.2).length<=9223372036854775807:=hb.1.2.2.2.2.2.1.1;refine⟨λh=>au (by grind[Y9]),λh=>?_⟩;refine Zd c.2.2.2.2.2 (λr k=>ot c aF r k=ot c aF c.2.2.2.2.2 0->Ea (λr'=>r'=wE (Y9 c aF)) c aF k) ?_ ?_ rfl
 ·intro he;refine QEm _ _ _ _ ⟨λh=>by simp at h,λ_=>au ?_⟩;grind[Y9,ot]
 ·intro k x r hk aY hg ih he;refine QEm _ _ _ _ ⟨λ_=>?_,λh=>by simp at h;omega⟩;rw[Int.toNat_natCast,hg,Qy (x:=(k:Int)+1) (by omega) (by omega)];rw[ot]at he;refine⟨⟨by omega,aY⟩,λh=>au ?_,λh=>ih ?_⟩
  ·grind[Y9,aT]
  ·grind[aT]
theorem QX3:Qf Tryz.prog Nu:=Qh λx _=>QP8 x.1 x.2.1
def oH(t:Int):aJ:=cd (aO t)
def Eb:aP:=Qg 125 [(.a Q5),(.c (.sl Qp))] λx=>(none,oH (Zp x.1 x.2.1))
def QUF:aN:=⟨[wD,J4,M6,Nr,Nu],false⟩
def QUA:af :=
 (ag [(.ae [aD 2 (.box 79 0 6),ab 4 (aw 0)]),(.ae [aZ 6 2 6,aL 7 127 [6],ab 5 7]),(.block 0 (ag [(.ae [an 9 2 0,aZ 10 9 1,aL 11 167 [10],bL 12 11,ab 8 12]),(.cond 8 (ag [(.ae [ab 4 (aw 1)]),.ret]) (ag [(.ae [an 14 2 0,aZ 15 14 1,ab 16 1,aL 17 205 [15,16],bL 18 17,ab 13 18]),(.cond 13 (ag [(.ae [ab 4 (aw 2)]),.ret]) (ag [(.ae [ab 20 5,az 21 .eql 20 (aw 0),ab 22 21,.bj 22 false [ab 23 5,az 24 .gtr 23 (aw 4)] 25 24,ab 19 25]),(.cond 19 (ag [(.ae [ab 4 (aw 3)]),.ret]) (ag [(.ae [an 27 2 2,ar 28 27 1,az 29 .neq 28 (aw 1),ab 30 29,.bj 30 true [an 31 2 2,ar 32 31 1,az 33 .neq 32 (aw 2)] 34 33,ab 26 34]),(.cond 26 (ag [(.ae [ab 4 (aw 4)]),.ret]) (ag [(.ae [an 36 2 3,ar 37 36 1,bh 38 37,ab 39 5,az 40 .neq 38 39,ab 35 40]),(.cond 35 (ag [(.ae [ab 4 (aw 5)]),.ret]) (ag [(.ae [aZ 42 2 6,aL 43 206 [42],bL 44 43,ab 41 44]),(.cond 41 (ag [(.ae [ab 4 (aw 6)]),.ret]) (ag [(.ae [aZ 46 2 6,ab 47 1,bh 48 47,aL 49 207 [46,48],bL 50 49,ab 45 50]),(.cond 45 (ag [(.ae [ab 4 (aw 7)]),.ret]) .skip)]))]))]))]))]))]))])),(.ae [ab 4 (aw 0)]),.ret])
def QTG:List (bw × Md):=[(.t 4,.one .d)]
theorem QJR(c:QC)(b:List Qi):aR Tryz.prog 125 [(.a (aV.cells Q5 c)),(.c (.sl Qp) b)] (oH (Zp c b)):=by
 refine bD QUF QUA QTG 0 0 51 Eb (kc DY (kc oG (kc QOK (kc Q2y (kc QX3 kn))))) (λK =>
 (aS (!(QS c.1)) (K (oH (1:Int))) (aS (!(Z5 c.1 b)) (K (oH (2:Int))) (aS (((QO c)==0)||(decide ((QO c)>4))) (K (oH (3:Int))) (aS ((c.2.2.1 != 1)&&(c.2.2.1 != 2)) (K (oH (4:Int))) (aS (((c.2.2.2.1).length:Int) != (QO c)) (K (oH (5:Int))) (aS (!(YE c)) (K (oH (6:Int))) (aS (!(Y9 c (b.length:Int))) (K (oH (7:Int))) (K (oH (0:Int))))))))))) (λhb=>?_)
 have hs:=tW (c:=c);refine⟨λh=>au (by grind[Zp]),λh1=>⟨λh=>au (by grind[Zp]),λh2=>⟨λh=>au (by grind[Zp]),λh3=>⟨λh=>au ?_,λh4=>⟨λh=>au ?_,λh5=>⟨λh=>au ?_,λh6=>⟨λh=>au ?_,λh7=>au ?_⟩⟩⟩⟩⟩⟩⟩
 all_goals
  have a1:QS c.1=true:=by simpa using h1
  have a2:Z5 c.1 b=true:=by simpa using h2
  have a3:¬ (QO c=0\/4<QO c):=by grind
 ·have:aT c.2.2.1 1 2=false:=by simp at h;simp[aT];omega
  simp[Zp,a1,a2,a3,this]
 ·have:aT c.2.2.1 1 2=true:=by simp at h4;simp[aT];omega
  have h:¬ (c.2.2.2.1.length:Int)=QO c:=by grind
  simp[Zp,a1,a2,a3,this,h]
 all_goals
  have a4:aT c.2.2.1 1 2=true:=by simp at h4;simp[aT];omega
  have a5:(c.2.2.2.1.length:Int)=QO c:=by grind
 ·have h:YE c=false:=by simpa using h
  simp[Zp,a1,a2,a3,a4,a5,h]
 ·have h:Y9 c b.length=false:=by simpa using h
  have h6:YE c=true:=by simpa using h6
  simp[Zp,a1,a2,a3,a4,a5,h6,h]
 ·have h7:Y9 c b.length=true:=by simpa using h7
  have h6:YE c=true:=by simpa using h6
  simp[Zp,a1,a2,a3,a4,a5,h6,h7]
theorem Qyf:Qf Tryz.prog Eb:=Qh λx _=>QJR x.1 x.2.1
def Jn(t:Int):aJ:=cd (aO t)
def Ec:aP:=Qg 117 [(.a Q5),(.c (.sl Qp))] λx=>(none,Jn (Zp x.1 x.2.1))
def Ap:aN:=⟨[oF,M4,Ak,YF,Nn],false⟩
def QzD:af :=
 (ag [(ag [(.ae [ab 48 5,an 49 2 4,ar 50 49 1,bh 51 50,az 52 .lss 48 51]),(.cond 52 .skip (.exit 0))]),(.block 1 (ag [(.ae [an 55 2 4,ar 56 55 1,ab 57 5,bn 58 56 57 [TI],ar 59 58 1,aL 60 158 [59,(aw 1),(aw 5)],bL 61 60]),(.cond 61 (ag [(.ae [ab 4 (aw 6)]),.ret]) .skip)])),(.ae [ab 53 5,az 54 .add 53 (aw 1),ab 5 54])])
def QA4:List (Nat × Md):=[(1,.one .d),(2,.b (da 6)),(5,.one .d)]
def QIH:af :=
 (ag [(ag [(.ae [ab 70 6,an 71 2 5,ar 72 71 1,bh 73 72,az 74 .lss 70 73]),(.cond 74 .skip (.exit 2))]),(.block 3 (ag [(.draw [an 77 2 5,ar 78 77 1,ab 79 6,bn 80 78 79 [TI],ar 81 80 1,aZ 82 2 6,ab 83 6,ab 84 1,bh 85 84,aL 86 200 [82,83,85],aL 87 158 [81,86,(aw 100000)],bL 88 87] [(0,9),(1,9),(3,9),(4,9)]),(.cond 88 (ag [(.ae [ab 4 (aw 7)]),.ret]) .skip)])),(.ae [ab 75 6,az 76 .add 75 (aw 1),ab 6 76])])
def Qt1:List (Nat × Md):=[(1,.one .d),(2,.b (da 6)),(6,.one .d)]
def QyG:af :=
 (ag [(.ae [ab 4 (aw 0)]),.ret])
def QCN:af :=
 (ag [(ag [(.ae [an 62 2 5,ar 63 62 1,bh 64 63,an 65 2 1,ar 66 65 1,bh 67 66,az 68 .add 67 (aw 1),az 69 .neq 64 68]),(.cond 69 (ag [(.ae [ab 4 (aw 7)]),.ret]) .skip)]),(ag [(.ae [ab 6 (aw 0)]),(.block 2 (.loop Qt1 QIH))]),QyG])
def QXJ:af :=
 (ag [(.ae [aD 2 (.box 79 0 6),ab 4 (aw 0)]),(ag [(.ae [an 7 2 0,aZ 8 7 1,aL 9 157 [8],bL 10 9]),(.cond 10 (ag [(.ae [ab 4 (aw 1)]),.ret]) .skip)]),(ag [(.ae [an 11 2 0,aZ 12 11 1,ab 13 1,aL 14 198 [12,13],bL 15 14]),(.cond 15 (ag [(.ae [ab 4 (aw 2)]),.ret]) .skip)]),(ag [(.ae [an 16 2 0,aZ 17 16 1,an 18 2 1,ar 19 18 1,aL 20 199 [17,19],bL 21 20,ab 22 21,.bj 22 false [an 23 2 1,ar 24 23 1,bh 25 24,az 26 .add 25 (aw 1),az 27 .gtr 26 (aw 4)] 28 27]),(.cond 28 (ag [(.ae [ab 4 (aw 3)]),.ret]) .skip)]),(ag [(.ae [an 29 2 2,ar 30 29 1,aL 31 158 [30,(aw 1),(aw 2)],bL 32 31]),(.cond 32 (ag [(.ae [ab 4 (aw 4)]),.ret]) .skip)]),(ag [(.ae [an 33 2 3,ar 34 33 1,bh 35 34,an 36 2 1,ar 37 36 1,bh 38 37,az 39 .add 38 (aw 1),az 40 .neq 35 39]),(.cond 40 (ag [(.ae [ab 4 (aw 5)]),.ret]) .skip)]),(ag [(.ae [an 41 2 4,ar 42 41 1,bh 43 42,an 44 2 1,ar 45 44 1,bh 46 45,az 47 .neq 43 46]),(.cond 47 (ag [(.ae [ab 4 (aw 6)]),.ret]) .skip)]),(ag [(.ae [ab 5 (aw 0)]),(.block 0 (.loop QA4 QzD))]),QCN])
def Qyk:List (bw × Md):=[(.t 4,.one .d)]
def Ed:Qb:=TQ 0 0 Qyk K
def QLM:Qb:=ba (aU Ap 0 QyG (Ed K)) (Ed K)
def QL8:Qb:=bf 2 (QLM K)
def Aq(c:QC)(b:List Qi)(s:Int):Prop:=Loop Ap 0 Qt1 QIH (QL8 K) ⟨[(1,(bu Qp b)),(2,(.p 0 0 0)),(6,(aO s))],[(0,(.box (aV.cells Q5 c)))],1⟩
def QRx:Qb:=ba (aU Ap 0 QCN (Ed K)) (Ed K)
def Q3K:Qb:=bf 0 (QRx K)
def Ee(c:QC)(b:List Qi)(i:Int):Prop:=Loop Ap 0 QA4 QzD (Q3K K) ⟨[(1,(bu Qp b)),(2,(.p 0 0 0)),(5,(aO i))],[(0,(.box (aV.cells Q5 c)))],1⟩
theorem Qxq(c:QC)(b:List Qi)(s:Int) (h :
 (aS (decide (s<((c.2.2.2.2.2).length:Int))) ((0<=s/\Int.toNat s<(c.2.2.2.2.2).length)/\(aS (!(aT (aq (0:Int) c.2.2.2.2.2 (Int.toNat s)) (YX c s (b.length:Int)) (100000:Int))) (K (Jn (7:Int))) (Aq K c b (aI (s+1))))) (K (Jn (0:Int))))):Aq K c b s :=
 Loop.of h
theorem QDd(c:QC)(b:List Qi)(i:Int) (h :
 (aS (decide (i<((c.2.2.2.2.1).length:Int))) ((0<=i/\Int.toNat i<(c.2.2.2.2.1).length)/\(aS (!(aT (aq (0:Int) c.2.2.2.2.1 (Int.toNat i)) (1:Int) (5:Int))) (K (Jn (6:Int))) (Ee K c b (aI (i+1))))) (aS (((c.2.2.2.2.2).length:Int) != (aI (((c.2.1).length:Int)+1))) (K (Jn (7:Int))) (Aq K c b 0)))):Ee K c b i :=
 Loop.of h
theorem QJT(c:QC)(b:List Qi):aR Tryz.prog 117 [(.a (aV.cells Q5 c)),(.c (.sl Qp) b)] (Jn (Zp c b)):=by
 refine bD Ap QXJ Qyk 0 0 89 Ec (kc rB (kc QK0 (kc Na (kc YV (kc Q3j kn))))) (λK =>
 (aS (!(QS c.1)) (K (Jn (1:Int))) (aS (!(Z5 c.1 b)) (K (Jn (2:Int))) (aS ((!(Zr c.1 c.2.1))||(decide ((aI (((c.2.1).length:Int)+1))>4))) (K (Jn (3:Int))) (aS (!(aT c.2.2.1 (1:Int) (2:Int))) (K (Jn (4:Int))) (aS (((c.2.2.2.1).length:Int) != (aI (((c.2.1).length:Int)+1))) (K (Jn (5:Int))) (aS (((c.2.2.2.2.1).length:Int) != ((c.2.1).length:Int)) (K (Jn (6:Int))) (Ee K c b 0)))))))) (λhb=>?_)
 have gg:(c.1).length<=9223372036854775807:=hb.1.1.1;have gh:(c.2.1).length<=9223372036854775807:=hb.1.2.1.1;have gi:(c.2.2.2.1).length<=9223372036854775807:=hb.1.2.2.2.1.1;have fD:(c.2.2.2.2.1).length<=9223372036854775807:=hb.1.2.2.2.2.1.1;have gj:(c.2.2.2.2.2).length<=9223372036854775807:=hb.1.2.2.2.2.2.1.1;have ux:b.length<=9223372036854775807:=hb.2.1.1;have hs:=tW (c:=c);refine⟨λh=>au (by grind[Zp]),λh1=>⟨λh=>au (by grind[Zp]),λh2=>⟨λh=>au ?_,λh3=>?_⟩⟩⟩
 ·have a1:QS c.1=true:=by simpa using h1
  have a2:Z5 c.1 b=true:=by simpa using h2
  have a3:QO c=0\/4<QO c:=by
   by_cases hc:Zr c.1 c.2.1=true
   ·have:=hs.2.2.2 hc;have lu:=oB hc;rw[<- this,Qy (x:=QO c) (by omega) (by omega),hc]at h;right;simpa using h
   ·left;exact Classical.byContradiction λhn=>hc (hs.2.2.1.1 hn)
  simp[Zp,a1,a2,a3]
 have a1:QS c.1=true:=by simpa using h1
 have a2:Z5 c.1 b=true:=by simpa using h2
 have hc:Zr c.1 c.2.1=true:=by grind
 have fS:=hs.2.2.2 hc;have lu:=oB hc;have e2:aI ((c.2.1.length:Int)+1)=QO c:=by rw[fS];exact Qy (by omega) (by omega)
 rw[e2]at h3 ⊢;have a3:¬ (QO c=0\/4<QO c):=by grind
 refine⟨λh=>au ?_,λh4=>⟨λh=>au ?_,λh5=>⟨λh=>au ?_,λh6=>?_⟩⟩⟩
 ·have h:aT c.2.2.1 1 2=false:=by simpa using h
  simp[Zp,a1,a2,a3,h]
 all_goals
  have a4:aT c.2.2.1 1 2=true:=by simpa using h4
 ·have h:¬ (c.2.2.2.1.length:Int)=QO c:=by grind
  simp[Zp,a1,a2,a3,a4,h]
 all_goals
  have a5:(c.2.2.2.1.length:Int)=QO c:=by grind
 ·have h:YE c=false:=by grind[YE]
  simp[Zp,a1,a2,a3,a4,a5,h]
 have hl6:(c.2.2.2.2.1.length==c.2.1.length)=true:=by
  have h:((c.2.2.2.2.1.length:Int)==(c.2.1.length:Int))=true:=by simpa[bne]using h6
  have:=of_decide_eq_true (by simpa using h:decide ((c.2.2.2.2.1.length:Int)=c.2.1.length)=true);simp;omega
 have Nw:YE c=true->(c.2.2.2.2.2.length:Int)=QO c->Aq (λr'=>r'=Jn (Zp c b)) c b ((0:Nat):Int):=by
  intro a6 a7;refine Zd c.2.2.2.2.2 (λr k=>ot c b.length r k=ot c b.length c.2.2.2.2.2 0->Aq (λr'=>r'=Jn (Zp c b)) c b k) ?_ ?_ rfl
  ·intro he;refine Qxq _ _ _ _ ⟨λh=>by simp at h,λ_=>au ?_⟩;have:Y9 c b.length=true:=by grind[Y9,ot]
   simp[Zp,a1,a2,a3,a4,a5,a6,this]
  ·intro k x r hk aY hg ih he;refine Qxq _ _ _ _ ⟨λ_=>?_,λh=>by simp at h;omega⟩;rw[Int.toNat_natCast,hg,Qy (x:=(k:Int)+1) (by omega) (by omega)];rw[ot]at he;refine⟨⟨by omega,aY⟩,λh=>au ?_,λh=>ih ?_⟩
   ·have:Y9 c b.length=false:=by grind[Y9]
    simp[Zp,a1,a2,a3,a4,a5,a6,this]
   ·grind
 refine Zd c.2.2.2.2.1 (λr k=>(r.all λn=>aT n 1 5)=(c.2.2.2.2.1.all λn=>aT n 1 5)->Ee (λr'=>r'=Jn (Zp c b)) c b k) ?_ ?_ rfl
 ·intro he;have a6:YE c=true:=by grind[YE]
  refine QDd _ _ _ _ ⟨λh=>by simp at h,λ_=>⟨λh=>au ?_,λh=>Nw a6 ?_⟩⟩
  ·have:Y9 c b.length=false:=by grind[Y9]
   simp[Zp,a1,a2,a3,a4,a5,a6,this]
  ·grind
 ·intro k x r hk aY hg ih he;refine QDd _ _ _ _ ⟨λ_=>?_,λh=>by simp at h;omega⟩;rw[Int.toNat_natCast,hg,Qy (x:=(k:Int)+1) (by omega) (by omega)];rw[List.all_cons]at he;refine⟨⟨by omega,aY⟩,λh=>au ?_,λh=>ih ?_⟩
  ·have h:aT x 1 5=false:=by simpa using h
   rw[h,Bool.false_and]at he;have:YE c=false:=by simp only[YE,<- he,Bool.and_false]
   simp[Zp,a1,a2,a3,a4,a5,this]
  ·have h:aT x 1 5=true:=by simpa using h
   rw[h,Bool.true_and]at he;exact he
theorem QGG:Qf Tryz.prog Ec:=Qh λx _=>QJT x.1 x.2.1
def Nx(t:Int):aJ:=cd (aO t)
def uA:aP:=Qg 190 [(.c TI)] λx=>(none,Nx (QR x.1))
def QUK:aN:=⟨[],false⟩
def QZL:af :=
 (ag [(.ae [ab 2 (aw 0)]),(.ae [ab 3 0,aD 4 (.mm true 3 (aw (-2147483647))),aD 5 (.mm false 4 (aw 2147483647)),ab 2 5]),.ret])
def QLV:List (bw × Md):=[(.t 2,.one .d)]
theorem QW5(x:Int):aR Tryz.prog 190 [(.c TI x)] (Nx (QR x)):=by
 refine bD QUK QZL QLV 0 0 6 uA kn (λK =>
 K (Nx (if(2147483647:Int)<(if x<(-2147483647:Int) then(-2147483647:Int) else x) then(2147483647:Int) else(if x<(-2147483647:Int) then(-2147483647:Int) else x)))) (λhb=>?_)
 exact au (QQI x)
theorem Ar:Qf Tryz.prog uA:=Qh λx _=>QW5 x.1
def Ny(t:Int × Bool):aJ:=cd (.tp [(aO t.1),(bH t.2)])
def As:aP:=Qg 189 [(.c TI)] λx=>(none,Ny (Ys x.1))
def Q21:aN:=⟨[uA,Ad],false⟩
def Q1R:af :=
 (ag [(.ae [ab 2 (aw 0),ab 3 (bm false)]),(.ae [ab 4 0,aL 5 190 [4],ab 6 0,aL 7 240 [6],bL 8 7,ab 2 5,ab 3 8]),.ret])
def QKl:List (bw × Md):=[(.t 2,.one .d),(.t 3,.one .d)]
theorem Q1W(x:Int):aR Tryz.prog 189 [(.c TI x)] (Ny (Ys x)):=by
 refine bD Q21 Q1R QKl 0 0 9 As (kc Ar (kc MA kn)) (λK =>
 K (Ny ((QR x),(!(Zj x))))) (λhb=>?_)
 exact au rfl
theorem Nz:Qf Tryz.prog As:=Qh λx _=>Q1W x.1
def At(t:Int × Bool):aJ:=cd (.tp [(aO t.1),(bH t.2)])
def wF:aP:=Qg 185 [(.c TI)] λx=>(none,At (Ys x.1))
def Q0W:aN:=⟨[],false⟩
def QUG:af :=
 (ag [(.ae [ab 2 (aw 0),ab 3 (bm false)]),(ag [(.ae [ab 4 0,az 5 .gtr 4 (aw 2147483647)]),(.cond 5 (ag [(.ae [ab 2 (aw 2147483647),ab 3 (bm true)]),.ret]) .skip)]),(ag [(.ae [ab 6 0,az 7 .lss 6 (aw (-2147483647))]),(.cond 7 (ag [(.ae [ab 2 (aw (-2147483647)),ab 3 (bm true)]),.ret]) .skip)]),(.ae [ab 8 0,ab 2 8,ab 3 (bm false)]),.ret])
def QVy:List (bw × Md):=[(.t 2,.one .d),(.t 3,.one .d)]
theorem QKD(x:Int):aR Tryz.prog 185 [(.c TI x)] (At (Ys x)):=by
 refine bD Q0W QUG QVy 0 0 9 wF kn (λK =>
 (aS (decide (x>2147483647)) (K (At ((2147483647:Int),true))) (aS (decide (x<(-2147483647:Int))) (K (At ((-2147483647:Int),true))) (K (At (x,false)))))) (λhb=>?_)
 refine⟨λh=>au ?_,λh=>⟨λh2=>au ?_,λh2=>au ?_⟩⟩
 all_goals (simp at *;simp[Ys,QR,Zj,fB,fC];omega)
theorem Ef:Qf Tryz.prog wF:=Qh λx _=>QKD x.1
def NA(t:Int):aJ:=cd (aO t)
def wG:aP:=Qg 186 [(.c TI)] λx=>(none,NA (QR x.1))
def QTV:aN:=⟨[wF],false⟩
def QYx:af :=
 (ag [(.ae [ab 2 (aw 0)]),(.ae [ab 6 0,aL 7 185 [6],ab 5 7,bF 8 5 0,bF 9 5 1,ab 3 8,ab 4 9]),(.ae [ab 10 3,ab 2 10]),.ret])
def QNa:List (bw × Md):=[(.t 2,.one .d)]
theorem QUB(x:Int):aR Tryz.prog 186 [(.c TI x)] (NA (QR x)):=by
 refine bD QTV QYx QNa 0 0 11 wG (kc Ef kn) (λK =>
 K (NA ((Ys x).1))) (λhb=>?_)
 exact au rfl
theorem Eg:Qf Tryz.prog wG:=Qh λx _=>QUB x.1
def Eh(t:Int):aJ:=cd (aO t)
def NB:aP:=Qg 263 [(.c TI),(.c TI)] λx=>(some (Ld x.1 x.2.1),Eh (Db x.1 x.2.1))
def QTs:aN:=⟨[],false⟩
def Q1E:af :=
 (ag [(.ae [ab 4 (aw 0)]),(.ae [ab 6 0,ab 7 1,az 8 .quo 6 7,ab 5 8]),(ag [(.ae [ab 9 0,ab 10 1,az 11 .rem 9 10,az 12 .neq 11 (aw 0),ab 13 12,.bj 13 true [ab 14 0,az 15 .lss 14 (aw 0),ab 16 1,az 17 .lss 16 (aw 0),aD 18 (.j1 true 15 17)] 19 18]),(.cond 19 (.ae [ab 20 5,az 21 .sub 20 (aw 1),ab 5 21]) .skip)]),(.ae [ab 22 5,ab 4 22]),.ret])
def Q0f:List (bw × Md):=[(.t 4,.one .d)]
theorem QT3(a:Int)(b:Int)(hp:Ld a b):aR Tryz.prog 263 [(.c TI a),(.c TI b)] (Eh (Db a b)):=by
 refine bD QTs Q1E Q0f 0 0 23 NB kn (λK =>
 ((¬ (b:Int)=0)/\((¬ (b:Int)=0)/\(aS (((Int.tmod a b) != 0)&&(!((decide (a<0))==(decide (b<0))))) (K (Eh (aI ((aI (Int.tdiv a b))-1)))) (K (Eh (aI (Int.tdiv a b)))))))) (λhb=>?_)
 obtain⟨h1,h2,rfl⟩:=hp;have hq:aI (Int.tdiv a 65536)=Int.tdiv a 65536:=by
  rw[Int.tdiv_eq_ediv];have:Int.sign 65536=1:=rfl;rw[this];exact Qy (by split <;> omega) (by split <;> omega)
 have qf:aI (Int.tdiv a 65536-1)=Int.tdiv a 65536-1:=by
  rw[Int.tdiv_eq_ediv];have:Int.sign 65536=1:=rfl;rw[this];exact Qy (by split <;> omega) (by split <;> omega)
 have hf:=Q1X a;rw[hq,qf];refine⟨by omega,by omega,λh=>au ?_,λh=>au ?_⟩
 ·rw[if_pos h]at hf;exact hf
 ·rw[if_neg (by rw[h];simp)]at hf;exact hf
theorem Q35:Qf Tryz.prog NB:=Qh λx h=>QT3 x.1 x.2.1 h
def NC(t:Int × Bool):aJ:=cd (.tp [(aO t.1),(bH t.2)])
def wH:aP:=Qg 106 [(.c TI),(.c TI)] λx=>(none,NC (Q4 x.1 x.2.1))
def QUL:aN:=⟨[uA,As],false⟩
def QSv:af :=
 (ag [(.ae [ab 4 (aw 0),ab 5 (bm false)]),(.ae [ab 6 0,aL 7 190 [6],ab 8 1,aL 9 190 [8],az 10 .add 7 9,aL 11 189 [10],bF 12 11 0,bF 13 11 1,ab 4 12,ab 5 13]),.ret])
def QO3:List (bw × Md):=[(.t 4,.one .d),(.t 5,.one .d)]
theorem QOM(a:Int)(b:Int):aR Tryz.prog 106 [(.c TI a),(.c TI b)] (NC (Q4 a b)):=by
 refine bD QUL QSv QO3 0 0 14 wH (kc Ar (kc Nz kn)) (λK =>
 K (NC ((Ys (aI ((QR a)+(QR b)))).1,(Ys (aI ((QR a)+(QR b)))).2))) (λhb=>?_)
 have h1:=ml a;have h2:=ml b;rw[Qy (x:=QR a+QR b) (by omega) (by omega)];exact au rfl
theorem Ei:Qf Tryz.prog wH:=Qh λx _=>QOM x.1 x.2.1
def ND(t:Int × Bool):aJ:=cd (.tp [(aO t.1),(bH t.2)])
def uB:aP:=Qg 99 [(.c TI),(.c TI)] λx=>(none,ND (Q4 x.1 x.2.1))
def QWz:aN:=⟨[wG,wF],false⟩
def QXR:af :=
 (ag [(.ae [ab 4 (aw 0),ab 5 (bm false)]),(.ae [ab 6 0,aL 7 186 [6],ab 8 1,aL 9 186 [8],az 10 .add 7 9,aL 11 185 [10],bF 12 11 0,bF 13 11 1,ab 4 12,ab 5 13]),.ret])
def QOL:List (bw × Md):=[(.t 4,.one .d),(.t 5,.one .d)]
theorem QSE(a:Int)(b:Int):aR Tryz.prog 99 [(.c TI a),(.c TI b)] (ND (Q4 a b)):=by
 refine bD QWz QXR QOL 0 0 14 uB (kc Eg (kc Ef kn)) (λK =>
 K (ND ((Ys (aI ((QR a)+(QR b)))).1,(Ys (aI ((QR a)+(QR b)))).2))) (λhb=>?_)
 have h1:=ml a;have h2:=ml b;rw[Qy (x:=QR a+QR b) (by omega) (by omega)];exact au rfl
theorem Au:Qf Tryz.prog uB:=Qh λx _=>QSE x.1 x.2.1
def NF(t:Int × Bool):aJ:=cd (.tp [(aO t.1),(bH t.2)])
def NG:aP:=Qg 196 [(.c TI),(.c TI)] λx=>(none,NF (JU x.1 x.2.1))
def QXQ:aN:=⟨[uA,As],false⟩
def QYO:af :=
 (ag [(.ae [ab 4 (aw 0),ab 5 (bm false)]),(.ae [ab 6 0,aL 7 190 [6],ab 8 1,aL 9 190 [8],az 10 .sub 7 9,aL 11 189 [10],bF 12 11 0,bF 13 11 1,ab 4 12,ab 5 13]),.ret])
def QXB:List (bw × Md):=[(.t 4,.one .d),(.t 5,.one .d)]
theorem QMv(a:Int)(b:Int):aR Tryz.prog 196 [(.c TI a),(.c TI b)] (NF (JU a b)):=by
 refine bD QXQ QYO QXB 0 0 14 NG (kc Ar (kc Nz kn)) (λK =>
 K (NF ((Ys (aI ((QR a)-(QR b)))).1,(Ys (aI ((QR a)-(QR b)))).2))) (λhb=>?_)
 have h1:=ml a;have h2:=ml b;rw[Qy (x:=QR a-QR b) (by omega) (by omega)];exact au rfl
theorem QV1:Qf Tryz.prog NG:=Qh λx _=>QMv x.1 x.2.1
def NH(t:Int × Bool):aJ:=cd (.tp [(aO t.1),(bH t.2)])
def NI:aP:=Qg 192 [(.c TI),(.c TI)] λx=>(none,NH (JU x.1 x.2.1))
def QMS:aN:=⟨[wG,wF],false⟩
def QQ0:af :=
 (ag [(.ae [ab 4 (aw 0),ab 5 (bm false)]),(.ae [ab 6 0,aL 7 186 [6],ab 8 1,aL 9 186 [8],az 10 .sub 7 9,aL 11 185 [10],bF 12 11 0,bF 13 11 1,ab 4 12,ab 5 13]),.ret])
def QOG:List (bw × Md):=[(.t 4,.one .d),(.t 5,.one .d)]
theorem QNZ(a:Int)(b:Int):aR Tryz.prog 192 [(.c TI a),(.c TI b)] (NH (JU a b)):=by
 refine bD QMS QQ0 QOG 0 0 14 NI (kc Eg (kc Ef kn)) (λK =>
 K (NH ((Ys (aI ((QR a)-(QR b)))).1,(Ys (aI ((QR a)-(QR b)))).2))) (λhb=>?_)
 have h1:=ml a;have h2:=ml b;rw[Qy (x:=QR a-QR b) (by omega) (by omega)];exact au rfl
theorem QWG:Qf Tryz.prog NI:=Qh λx _=>QNZ x.1 x.2.1
def NJ(t:Int × Bool):aJ:=cd (.tp [(aO t.1),(bH t.2)])
def Av:aP:=Qg 239 [(.c TI),(.c TI)] λx=>(none,NJ (Zm x.1 x.2.1))
def QVd:aN:=⟨[uA,As],false⟩
def Q4w:af :=
 (ag [(.ae [ab 4 (aw 0),ab 5 (bm false)]),(.ae [ab 6 0,aL 7 190 [6],ab 8 1,aL 9 190 [8],az 10 .mul 7 9,az 11 .shr 10 (.k (.c (.int .u64) (16:Int))),aL 12 189 [11],bF 13 12 0,bF 14 12 1,ab 4 13,ab 5 14]),.ret])
def QMK:List (bw × Md):=[(.t 4,.one .d),(.t 5,.one .d)]
theorem QKS(a:Int)(b:Int):aR Tryz.prog 239 [(.c TI a),(.c TI b)] (NJ (Zm a b)):=by
 refine bD QVd Q4w QMK 0 0 15 Av (kc Ar (kc Nz kn)) (λK =>
 (((0:Int)<=16)/\K (NJ ((Ys (Int.fdiv (aI ((QR a)*(QR b))) (2 ^ (min (Int.toNat 16) (IntKind.i64.bits))))).1,(Ys (Int.fdiv (aI ((QR a)*(QR b))) (2 ^ (min (Int.toNat 16) (IntKind.i64.bits))))).2)))) (λhb=>?_)
 have h:=Xw a b;rw[Qy (x:=QR a*QR b) (by omega) (by omega)];exact⟨by omega,au rfl⟩
theorem NK:Qf Tryz.prog Av:=Qh λx _=>QKS x.1 x.2.1
def NL(t:Int × Bool):aJ:=cd (.tp [(aO t.1),(bH t.2)])
def Aw:aP:=Qg 237 [(.c TI),(.c TI)] λx=>(none,NL (Zm x.1 x.2.1))
def QMz:aN:=⟨[wG,NB,wF],false⟩
def QPW:af :=
 (ag [(.ae [ab 4 (aw 0),ab 5 (bm false)]),(.ae [ab 6 0,aL 7 186 [6],ab 8 1,aL 9 186 [8],az 10 .mul 7 9,aL 11 263 [10,(aw 65536)],aL 12 185 [11],bF 13 12 0,bF 14 12 1,ab 4 13,ab 5 14]),.ret])
def QOw:List (bw × Md):=[(.t 4,.one .d),(.t 5,.one .d)]
theorem QMr(a:Int)(b:Int):aR Tryz.prog 237 [(.c TI a),(.c TI b)] (NL (Zm a b)):=by
 refine bD QMz QPW QOw 0 0 15 Aw (kc Eg (kc Q35 (kc Ef kn))) (λK =>
 ((Ld (aI ((QR a)*(QR b))) (65536:Int))/\K (NL ((Ys (Db (aI ((QR a)*(QR b))) (65536:Int))).1,(Ys (Db (aI ((QR a)*(QR b))) (65536:Int))).2)))) (λhb=>?_)
 have h:=Xw a b;rw[Qy (x:=QR a*QR b) (by omega) (by omega)];exact⟨⟨h.1,h.2,rfl⟩,au rfl⟩
theorem NM:Qf Tryz.prog Aw:=Qh λx _=>QMr x.1 x.2.1
def NN(t:Int):aJ:=cd (aO t)
def NO:aP:=Qg 259 [(.c TI)] λx=>(none,NN (nj x.1))
def QXU:aN:=⟨[uA],false⟩
def QVe:af :=
 (ag [(.ae [ab 2 (aw 0)]),(.ae [ab 3 0,aL 4 190 [3],aD 5 (.mm true (aw 0) 4),ab 2 5]),.ret])
def Q3u:List (bw × Md):=[(.t 2,.one .d)]
theorem QPd(a:Int):aR Tryz.prog 259 [(.c TI a)] (NN (nj a)):=by
 refine bD QXU QVe Q3u 0 0 6 NO (kc Ar kn) (λK =>
 K (NN (if(0:Int)<(QR a) then(QR a) else(0:Int)))) (λhb=>?_)
 exact au rfl
theorem QNi:Qf Tryz.prog NO:=Qh λx _=>QPd x.1
def NP(t:Int):aJ:=cd (aO t)
def NQ:aP:=Qg 256 [(.c TI)] λx=>(none,NP (nj x.1))
def QRz:aN:=⟨[wG],false⟩
def QLe:af :=
 (ag [(.ae [ab 2 (aw 0)]),(.ae [ab 3 0,aL 4 186 [3],aD 5 (.mm true (aw 0) 4),ab 2 5]),.ret])
def Q3R:List (bw × Md):=[(.t 2,.one .d)]
theorem QNI(a:Int):aR Tryz.prog 256 [(.c TI a)] (NP (nj a)):=by
 refine bD QRz QLe Q3R 0 0 6 NQ (kc Eg kn) (λK =>
 K (NP (if(0:Int)<(QR a) then(QR a) else(0:Int)))) (λhb=>?_)
 exact au rfl
theorem QPg:Qf Tryz.prog NQ:=Qh λx _=>QNI x.1
def NR(t:(List Int)):aJ:=⟨(.r [TI] 0 0 t.length),[(.sl 3 [TI] (.dp 0 true []) t)],[],false,[]⟩
def nt:aP:=Qg 104 [(.c (.sl [TI]))] λx=>(some (QA (α:=List Int) x.1),NR (id (α:=List Int) x.1))
def Q1i:aN:=⟨[],true⟩
def QSD:af :=
 (ag [(.ae [ab 2 (.k (.n [TI]))]),(.ae [aD 3 (.bO 3 [TI] []),ab 4 0,aD 5 (.app 3 4 3 [TI]),ab 2 5]),.ret])
def QQn:List (bw × Md):=[(.t 2,.one (.p 3))]
theorem QT7(l:List Int)(hp:QA (α:=List Int) l):aR Tryz.prog 104 [(.c (.sl [TI]) l)] (NR (id (α:=List Int) l)):=by
 refine bD Q1i QSD QQn 0 0 6 nt kn (λK =>
 (((0=0\/0+l.length<=0)/\0+l.length<=bP)/\K (NR (List.take (0+l.length) (l:List Int))))) (λhb=>?_)
 have hl:=ZR l;unfold QA at hp;exact⟨⟨.inl rfl,by rw[QY];omega⟩,au (by simp)⟩
theorem qg:Qf Tryz.prog nt:=Qh λx h=>QT7 x.1 h
def Ax(t:(List aE)):aJ:=⟨(.r aK 0 0 t.length),[(.sl 134 aK (.dp 0 true []) t)],[],false,[]⟩
def Ej:aP:=Qg 165 [(.c (.sl aK))] λx=>(some (QA (α:=List aE) x.1),Ax (id (α:=List aE) x.1))
def NS:aN:=⟨[nt],true⟩
def Qyn:af :=
 (ag [(.ae [az 10 .lss 9 8]),(.cond 10 .skip (.exit 0)),(.block 1 (ag [(.ae [bn 11 7 9 aK,aZ 12 11 4,aD 5 (.new 134 (bC aK)),a8 5 12 4]),(.draw [ab 13 3,an 14 5 0,ar 15 14 1,an 16 5 1,ar 17 16 1,an 18 5 2,ar 19 18 1,an 20 5 3,ar 21 20 1,aL 22 104 [21],aD 23 (.build (bC aK) [(0,1,15),(1,1,17),(2,1,19),(3,1,22)]),aD 24 (.bO 134 aK [23]),aD 25 (.app 13 24 134 aK),ab 3 25] [(1,9),(2,9),(3,9),(4,9),(5,9),(6,9)])])),(.ae [az 26 .add 9 (aw 1),ab 9 26])])
def QEH:List (Nat × Md):=[(3,.one .f),(7,.one .d),(8,.one .d),(9,.one .d)]
def QwV:af :=
 (ag [(.ae [ab 27 3,ab 2 27]),.ret])
def QRZ:af :=
 (ag [(.ae [ab 2 (.k (.n aK))]),(.ae [aD 6 (.bO 134 aK []),ab 3 6]),(ag [(.ae [ab 7 0,bh 8 7,ab 9 (aw 0)]),(.block 0 (.loop QEH Qyn))]),QwV])
def QFn:List (bw × Md):=[(.t 2,.one (.p 134))]
def Qyi:Qb:=TQ 0 0 QFn K
def QLs:Qb:=ba (aU NS 0 QwV (Qyi K)) (Qyi K)
def QK3:Qb:=bf 0 (QLs K)
def NT(l:List aE)(x:Int)(ops:List aE):Prop:=Loop NS 0 QEH Qyn (QK3 K) ⟨[(3,(.r aK 0 0 ops.length)),(7,(bu aK l)),(8,(aO (l.length:Int))),(9,(aO x))],[(0,(.sl 134 aK (.dp 0 true []) ops))],1⟩
theorem QEN(l:List aE)(x:Int)(ops:List aE) (h :
 (aS (decide (x<(l.length:Int))) ((0<=x/\Int.toNat x<l.length)/\(((QA (α:=List Int) ((aq bY l (Int.toNat x)).2.2.2))/\((ops.length=ops.length\/ops.length+1<=ops.length)/\ops.length+1<=bP))/\(NT K l (aI (x+1)) (List.take (ops.length+1) ((List.take ops.length ops)++([((aq bY l (Int.toNat x)).1,(aq bY l (Int.toNat x)).2.1,(aq bY l (Int.toNat x)).2.2.1,(List.take ((id (α:=List Int) ((aq bY l (Int.toNat x)).2.2.2)).length) (List.drop 0 (id (α:=List Int) ((aq bY l (Int.toNat x)).2.2.2)))))])))))) (K (Ax (List.take ops.length ops))))):NT K l x ops :=
 Loop.of h
theorem QXG(l:List aE)(hp:QA (α:=List aE) l):aR Tryz.prog 165 [(.c (.sl aK) l)] (Ax (id (α:=List aE) l)):=by
 refine bD NS QRZ QFn 0 0 28 Ej (kc qg kn) (λK =>
 (NT K l 0 ([]:List aE))) (λhb=>?_)
 refine Jm (Q:=λz=>Ax z=Ax (id (α:=List aE) l)) hp (λk x v hk hl hg hv hx ih=>?_) (λhq=>?_) (au rfl)
 ·refine QEN _ _ _ _ ⟨λ_=>?_,λh=>by simp at h;omega⟩
  try simp only[Q9,Q1,ZJ]at hx
  rw[Int.toNat_natCast,hg,dv (by omega),Zc,ub];exact⟨⟨by omega,hk⟩,⟨(show Sz.sz (_:List Int)<=2147483648 by omega),room (by omega)⟩,ih⟩
 ·refine QEN _ _ _ _ ⟨λh=>by simp at h,λ_=>?_⟩;exact au (by simp)
theorem QEx:Qf Tryz.prog Ej:=Qh λx h=>QXG x.1 h
def Ay(t:(List (List Int))):aJ:=⟨(.r [(.sl [TI])] 0 0 t.length),[(.sl 106 [(.sl [TI])] (.dp 0 true []) t)],[],false,[]⟩
def wI:aP:=Qg 103 [(.c (.sl [(.sl [TI])]))] λx=>(some (QA (α:=List (List Int)) x.1),Ay (id (α:=List (List Int)) x.1))
def NU:aN:=⟨[nt],true⟩
def QzS:af :=
 (ag [(.ae [az 10 .lss 9 8]),(.cond 10 .skip (.exit 0)),(.block 1 (ag [(.ae [bn 11 7 9 [(.sl [TI])],aZ 12 11 1,aD 5 (.new 106 [(.n [TI])]),a8 5 12 1]),(.ae [ab 13 3,an 14 5 0,ar 15 14 1,aL 16 104 [15],aD 17 (.build [(.n [TI])] [(0,1,16)]),aD 18 (.bO 106 [(.sl [TI])] [17]),aD 19 (.app 13 18 106 [(.sl [TI])]),ab 3 19])])),(.ae [az 20 .add 9 (aw 1),ab 9 20])])
def QFj:List (Nat × Md):=[(3,.one .f),(7,.one .d),(8,.one .d),(9,.one .d)]
def QGe:af :=
 (ag [(.ae [ab 21 3,ab 2 21]),.ret])
def QSr:af :=
 (ag [(.ae [ab 2 (.k (.n [(.sl [TI])]))]),(.ae [aD 6 (.bO 106 [(.sl [TI])] []),ab 3 6]),(ag [(.ae [ab 7 0,bh 8 7,ab 9 (aw 0)]),(.block 0 (.loop QFj QzS))]),QGe])
def QFp:List (bw × Md):=[(.t 2,.one (.p 106))]
def QIq:Qb:=TQ 0 0 QFp K
def QSW:Qb:=ba (aU NU 0 QGe (QIq K)) (QIq K)
def QTv:Qb:=bf 0 (QSW K)
def NV(l:List (List Int))(x:Int)(rows:List (List Int)):Prop:=Loop NU 0 QFj QzS (QTv K) ⟨[(3,(.r [(.sl [TI])] 0 0 rows.length)),(7,(bu [(.sl [TI])] l)),(8,(aO (l.length:Int))),(9,(aO x))],[(0,(.sl 106 [(.sl [TI])] (.dp 0 true []) rows))],1⟩
theorem QBQ(l:List (List Int))(x:Int)(rows:List (List Int)) (h :
 (aS (decide (x<(l.length:Int))) ((0<=x/\Int.toNat x<l.length)/\(((QA (α:=List Int) (aq ([]:List Int) l (Int.toNat x)))/\((rows.length=rows.length\/rows.length+1<=rows.length)/\rows.length+1<=bP))/\(NV K l (aI (x+1)) (List.take (rows.length+1) ((List.take rows.length rows)++([(List.take ((id (α:=List Int) (aq ([]:List Int) l (Int.toNat x))).length) (List.drop 0 (id (α:=List Int) (aq ([]:List Int) l (Int.toNat x)))))])))))) (K (Ay (List.take rows.length rows))))):NV K l x rows :=
 Loop.of h
theorem Q3n(l:List (List Int))(hp:QA (α:=List (List Int)) l):aR Tryz.prog 103 [(.c (.sl [(.sl [TI])]) l)] (Ay (id (α:=List (List Int)) l)):=by
 refine bD NU QSr QFp 0 0 22 wI (kc qg kn) (λK =>
 (NV K l 0 ([]:List (List Int)))) (λhb=>?_)
 refine Jm (Q:=λz=>Ay z=Ay (id (α:=List (List Int)) l)) hp (λk x v hk hl hg hv hx ih=>?_) (λhq=>?_) (au rfl)
 ·refine QBQ _ _ _ _ ⟨λ_=>?_,λh=>by simp at h;omega⟩
  try simp only[Q9,Q1,ZJ]at hx
  rw[Int.toNat_natCast,hg,dv (by omega),Zc,ub];exact⟨⟨by omega,hk⟩,⟨(show Sz.sz (_:List Int)<=2147483648 by omega),room (by omega)⟩,ih⟩
 ·refine QBQ _ _ _ _ ⟨λh=>by simp at h,λ_=>?_⟩;exact au (by simp)
theorem Ek:Qf Tryz.prog wI:=Qh λx h=>Q3n x.1 h
def Az(t:(List Qi)):aJ:=⟨(.r Qp 0 0 t.length),[(.sl 154 Qp (.dp 0 true []) t)],[],false,[]⟩
def El:aP:=Qg 126 [(.c (.sl Qp))] λx=>(some (QA (α:=List Qi) x.1),Az (id (α:=List Qi) x.1))
def NW:aN:=⟨[nt],true⟩
def QHa:af :=
 (ag [(.ae [az 10 .lss 9 8]),(.cond 10 .skip (.exit 0)),(.block 1 (ag [(.ae [bn 11 7 9 Qp,aZ 12 11 2,aD 5 (.new 154 (bC Qp)),a8 5 12 2]),(.draw [ab 13 3,an 14 5 0,ar 15 14 1,aL 16 104 [15],an 17 5 1,ar 18 17 1,aL 19 104 [18],aD 20 (.build (bC Qp) [(0,1,16),(1,1,19)]),aD 21 (.bO 154 Qp [20]),aD 22 (.app 13 21 154 Qp),ab 3 22] [(3,4),(3,5)])])),(.ae [az 23 .add 9 (aw 1),ab 9 23])])
def QBp:List (Nat × Md):=[(3,.one .f),(7,.one .d),(8,.one .d),(9,.one .d)]
def QAv:af :=
 (ag [(.ae [ab 24 3,ab 2 24]),.ret])
def Q2r:af :=
 (ag [(.ae [ab 2 (.k (.n Qp))]),(.ae [aD 6 (.bO 154 Qp []),ab 3 6]),(ag [(.ae [ab 7 0,bh 8 7,ab 9 (aw 0)]),(.block 0 (.loop QBp QHa))]),QAv])
def QB5:List (bw × Md):=[(.t 2,.one (.p 154))]
def Qwy:Qb:=TQ 0 0 QB5 K
def QXA:Qb:=ba (aU NW 0 QAv (Qwy K)) (Qwy K)
def QZ5:Qb:=bf 0 (QXA K)
def NX(b:List Qi)(x:Int)(Yu:List Qi):Prop:=Loop NW 0 QBp QHa (QZ5 K) ⟨[(3,(.r Qp 0 0 Yu.length)),(7,(bu Qp b)),(8,(aO (b.length:Int))),(9,(aO x))],[(0,(.sl 154 Qp (.dp 0 true []) Yu))],1⟩
theorem QzL(b:List Qi)(x:Int)(Yu:List Qi) (h :
 (aS (decide (x<(b.length:Int))) ((0<=x/\Int.toNat x<b.length)/\(((QA (α:=List Int) ((aq QP b (Int.toNat x)).1))/\((QA (α:=List Int) ((aq QP b (Int.toNat x)).2))/\((Yu.length=Yu.length\/Yu.length+1<=Yu.length)/\Yu.length+1<=bP)))/\(NX K b (aI (x+1)) (List.take (Yu.length+1) ((List.take Yu.length Yu)++([((List.take ((id (α:=List Int) ((aq QP b (Int.toNat x)).1)).length) (List.drop 0 (id (α:=List Int) ((aq QP b (Int.toNat x)).1)))),(List.take ((id (α:=List Int) ((aq QP b (Int.toNat x)).2)).length) (List.drop 0 (id (α:=List Int) ((aq QP b (Int.toNat x)).2)))))])))))) (K (Az (List.take Yu.length Yu))))):NX K b x Yu :=
 Loop.of h
theorem QJg(b:List Qi)(hp:QA (α:=List Qi) b):aR Tryz.prog 126 [(.c (.sl Qp) b)] (Az (id (α:=List Qi) b)):=by
 refine bD NW Q2r QB5 0 0 25 El (kc qg kn) (λK =>
 (NX K b 0 ([]:List Qi))) (λhb=>?_)
 refine Jm (Q:=λz=>Az z=Az (id (α:=List Qi) b)) hp (λk x v hk hl hg hv hx ih=>?_) (λhq=>?_) (au rfl)
 ·refine QzL _ _ _ _ ⟨λ_=>?_,λh=>by simp at h;omega⟩
  try simp only[Q9,Q1,ZJ]at hx
  rw[Int.toNat_natCast,hg,dv (by omega),Zc,ub,ub];exact⟨⟨by omega,hk⟩,⟨(show Sz.sz (_:List Int)<=2147483648 by omega),(show Sz.sz (_:List Int)<=2147483648 by omega),room (by omega)⟩,ih⟩
 ·refine QzL _ _ _ _ ⟨λh=>by simp at h,λ_=>?_⟩;exact au (by simp)
theorem QI0:Qf Tryz.prog El:=Qh λx h=>QJg x.1 h
def NY(t:QL):aJ:=⟨(.a [(.r [(.sl [TI])] 0 0 ((t.1).length)),(aO t.2.1),(bH t.2.2)]),[(.sl 106 [(.sl [TI])] (.dp 0 true []) t.1)],[],false,[]⟩
def NZ:aP:=Qg 166 [(.a Q2)] λx=>(some (QA (α:=QL) x.1),NY (id (α:=QL) x.1))
def Q3f:aN:=⟨[wI],true⟩
def QVk:af :=
 (ag [(.ae [aD 1 (.box 37 0 3),aD 2 (.new 37 (bC Q2))]),(.draw [an 3 1 0,ar 4 3 1,aL 5 103 [4],an 6 1 1,ar 7 6 1,an 8 1 2,ar 9 8 1,aD 10 (.build (bC Q2) [(0,1,5),(1,1,7),(2,1,9)]),a8 2 10 3] [(2,3),(2,4),(2,5),(2,6)]),.ret])
def QTK:List (bw × Md):=[(.l 2 3 true,.b [.p 106,.d,.d])]
theorem QXV(g:QL)(hp:QA (α:=QL) g):aR Tryz.prog 166 [(.a (aV.cells Q2 g))] (NY (id (α:=QL) g)):=by
 refine bD Q3f QVk QTK 0 0 11 NZ (kc Ek kn) (λK =>
 ((QA (α:=List (List Int)) g.1)/\K (NY ((List.take ((id (α:=List (List Int)) g.1).length) (id (α:=List (List Int)) g.1)),g.2.1,g.2.2)))) (λhb=>?_)
 unfold QA at hp;simp only[Q9,Q1,ZJ]at hp;exact⟨hp,au (by simp)⟩
theorem QXd:Qf Tryz.prog NZ:=Qh λx h=>QXV x.1 h
def AA(t:(List aE)):aJ:=f0 (bu aK t)
def Em:aP:=Qg 155 [(.c (.sl aK))] λx=>(some (QA (α:=List aE) x.1),AA (id (α:=List aE) x.1))
def N0:aN:=⟨[],false⟩
def QtM:af :=
 (ag [(ag [(.ae [ab 7 4,ab 8 0,bh 9 8,az 10 .lss 7 9]),(.cond 10 .skip (.exit 0))]),(.block 1 (ag [(.ae [ab 13 0,ab 14 4,bn 15 13 14 aK,aZ 16 15 4,aD 5 (.new 134 (bC aK)),a8 5 16 4]),(.ae [aD 17 (.bO 3 [TI] []),ab 18 0,ab 19 4,bn 20 18 19 aK,an 21 20 3,ar 22 21 1,aD 23 (.app 17 22 3 [TI]),an 24 5 3,a8 24 23 1]),(.ae [ab 25 3,aZ 26 5 4,aD 27 (.bO 134 aK [26]),aD 28 (.app 25 27 134 aK),ab 3 28])])),(.ae [ab 11 4,az 12 .add 11 (aw 1),ab 4 12])])
def QF8:List (Nat × Md):=[(0,.one .d),(3,.one .f),(4,.one .d)]
def QAK:af :=
 (ag [(.ae [ab 29 3,ab 2 29]),.ret])
def QQS:af :=
 (ag [(.ae [ab 2 (.k (.n aK))]),(.ae [aD 6 (.bO 134 aK []),ab 3 6]),(ag [(.ae [ab 4 (aw 0)]),(.block 0 (.loop QF8 QtM))]),QAK])
def QvO:List (bw × Md):=[(.t 2,.one .d)]
def QCF:Qb:=TQ 0 0 QvO K
def QNq:Qb:=ba (aU N0 0 QAK (QCF K)) (QCF K)
def QJc:Qb:=bf 0 (QNq K)
def N1(l:List aE)(i:Int)(out:List aE):Prop:=Loop N0 0 QF8 QtM (QJc K) ⟨[(0,(bu aK l)),(3,(.r aK 0 0 out.length)),(4,(aO i))],[(0,(.sl 134 aK .ow out))],1⟩
theorem Qzp(l:List aE)(i:Int)(out:List aE) (h :
 (aS (decide (i<(l.length:Int))) ((0<=i/\Int.toNat i<l.length)/\(((0<=i/\Int.toNat i<l.length)/\((0=0\/0+((aq bY l (Int.toNat i)).2.2.2).length<=0)/\0+((aq bY l (Int.toNat i)).2.2.2).length<=bP))/\(((out.length=out.length\/out.length+1<=out.length)/\out.length+1<=bP)/\(N1 K l (aI (i+1)) (List.take (out.length+1) ((List.take out.length out)++([((aq bY l (Int.toNat i)).1,(aq bY l (Int.toNat i)).2.1,(aq bY l (Int.toNat i)).2.2.1,(List.take (0+((aq bY l (Int.toNat i)).2.2.2).length) (List.drop 0 ((aq bY l (Int.toNat i)).2.2.2))))]))))))) (K (AA (List.take out.length (List.drop 0 out)))))):N1 K l i out :=
 Loop.of h
theorem QZQ(l:List aE)(hp:QA (α:=List aE) l):aR Tryz.prog 155 [(.c (.sl aK) l)] (AA (id (α:=List aE) l)):=by
 refine bD N0 QQS QvO 0 0 30 Em kn (λK =>
 (N1 K l 0 ([]:List aE))) (λhb=>?_)
 refine Jm (Q:=λz=>AA z=AA (id (α:=List aE) l)) hp (λk x v hk hl hg hv hx ih=>?_) (λhq=>?_) (au rfl)
 ·refine Qzp _ _ _ _ ⟨λ_=>?_,λh=>by simp at h;omega⟩
  try simp only[Q9,Q1,ZJ]at hx
  rw[Int.toNat_natCast,hg,dv (by omega),Zc,ru];exact⟨⟨by omega,hk⟩,⟨⟨by omega,hk⟩,.inl rfl,by have:=ZR x.2.2.2;rw[QY];omega⟩,room (by omega),ih⟩
 ·refine Qzp _ _ _ _ ⟨λh=>by simp at h,λ_=>?_⟩;exact au (by simp)
theorem QGC:Qf Tryz.prog Em:=Qh λx h=>QZQ x.1 h
def AB(t:(List (List Int))):aJ:=f0 (bu [(.sl [TI])] t)
def Eo:aP:=Qg 156 [(.c (.sl [(.sl [TI])]))] λx=>(some (QA (α:=List (List Int)) x.1),AB (id (α:=List (List Int)) x.1))
def N2:aN:=⟨[],false⟩
def QC5:af :=
 (ag [(ag [(.ae [ab 6 4,ab 7 0,bh 8 7,az 9 .lss 6 8]),(.cond 9 .skip (.exit 0))]),(.block 1 (.ae [ab 12 3,aD 13 (.bO 3 [TI] []),ab 14 0,ab 15 4,bn 16 14 15 [(.sl [TI])],an 17 16 0,ar 18 17 1,aD 19 (.app 13 18 3 [TI]),aD 20 (.build [(.n [TI])] [(0,1,19)]),aD 21 (.bO 106 [(.sl [TI])] [20]),aD 22 (.app 12 21 106 [(.sl [TI])]),ab 3 22])),(.ae [ab 10 4,az 11 .add 10 (aw 1),ab 4 11])])
def QHi:List (Nat × Md):=[(0,.one .d),(3,.one .f),(4,.one .d)]
def QuB:af :=
 (ag [(.ae [ab 23 3,ab 2 23]),.ret])
def QNk:af :=
 (ag [(.ae [ab 2 (.k (.n [(.sl [TI])]))]),(.ae [aD 5 (.bO 106 [(.sl [TI])] []),ab 3 5]),(ag [(.ae [ab 4 (aw 0)]),(.block 0 (.loop QHi QC5))]),QuB])
def QHp:List (bw × Md):=[(.t 2,.one .d)]
def QDX:Qb:=TQ 0 0 QHp K
def QQf:Qb:=ba (aU N2 0 QuB (QDX K)) (QDX K)
def QJ2:Qb:=bf 0 (QQf K)
def N3(l:List (List Int))(i:Int)(out:List (List Int)):Prop:=Loop N2 0 QHi QC5 (QJ2 K) ⟨[(0,(bu [(.sl [TI])] l)),(3,(.r [(.sl [TI])] 0 0 out.length)),(4,(aO i))],[(0,(.sl 106 [(.sl [TI])] .ow out))],1⟩
theorem QxW(l:List (List Int))(i:Int)(out:List (List Int)) (h :
 (aS (decide (i<(l.length:Int))) (((0<=i/\Int.toNat i<l.length)/\(((0=0\/0+(aq ([]:List Int) l (Int.toNat i)).length<=0)/\0+(aq ([]:List Int) l (Int.toNat i)).length<=bP)/\((out.length=out.length\/out.length+1<=out.length)/\out.length+1<=bP)))/\(N3 K l (aI (i+1)) (List.take (out.length+1) ((List.take out.length out)++([(List.take (0+(aq ([]:List Int) l (Int.toNat i)).length) (List.drop 0 (aq ([]:List Int) l (Int.toNat i))))]))))) (K (AB (List.take out.length (List.drop 0 out)))))):N3 K l i out :=
 Loop.of h
theorem Q3M(l:List (List Int))(hp:QA (α:=List (List Int)) l):aR Tryz.prog 156 [(.c (.sl [(.sl [TI])]) l)] (AB (id (α:=List (List Int)) l)):=by
 refine bD N2 QNk QHp 0 0 24 Eo kn (λK =>
 (N3 K l 0 ([]:List (List Int)))) (λhb=>?_)
 refine Jm (Q:=λz=>AB z=AB (id (α:=List (List Int)) l)) hp (λk x v hk hl hg hv hx ih=>?_) (λhq=>?_) (au rfl)
 ·refine QxW _ _ _ _ ⟨λ_=>?_,λh=>by simp at h;omega⟩
  try simp only[Q9,Q1,ZJ]at hx
  rw[Int.toNat_natCast,hg,dv (by omega),Zc,ru];exact⟨⟨⟨by omega,hk⟩,⟨.inl rfl,by have:=ZR x;rw[QY];omega⟩,room (by omega)⟩,ih⟩
 ·refine QxW _ _ _ _ ⟨λh=>by simp at h,λ_=>?_⟩;exact au (by simp)
theorem QEO:Qf Tryz.prog Eo:=Qh λx h=>Q3M x.1 h
def AD(t:QL):aJ:=⟨(.a [(.r [(.sl [TI])] 0 0 ((t.1).length)),(aO t.2.1),(bH t.2.2)]),[(.sl 106 [(.sl [TI])] (.dp 0 true []) t.1)],[],false,[]⟩
def N4:aP:=Qg 213 [(.a [(.sl aK)])] λx=>(none,AD (ZA x.1))
def N5:aN:=⟨[J4],true⟩
def QId:af :=
 (ag [(.ae [az 15 .lss 14 13]),(.cond 15 .skip (.exit 0)),(.block 1 (ag [(.ae [bn 16 12 14 aK,aZ 17 16 4,aD 5 (.new 134 (bC aK)),a8 5 17 4]),(.draw [an 18 3 0,ar 19 18 1,an 20 5 3,ar 21 20 1,bh 22 21,aD 23 (.mk 3 [TI] [(aO 0)] 22),aD 24 (.build [(.n [TI])] [(0,1,23)]),aD 25 (.bO 106 [(.sl [TI])] [24]),aD 26 (.app 19 25 106 [(.sl [TI])]),an 27 3 0,a8 27 26 1] [(0,5),(1,5),(0,7),(1,7)])])),(.ae [az 28 .add 14 (aw 1),ab 14 28])])
def QtX:List (Nat × Md):=[(2,.b [.f,.d,.d]),(3,.b [.p 106,.d,.d]),(12,.one .d),(13,.one .d),(14,.one .d)]
def Qv9:af :=
 (ag [(.ae [aZ 29 3 3,a8 2 29 3]),.ret])
def QUw:af :=
 (ag [(.ae [aD 1 (.box 77 0 1),aD 2 (.new 37 (bC Q2))]),(ag [(.ae [aZ 6 1 1,aL 7 167 [6],bL 8 7]),(.cond 8 (ag [(.ae [aD 9 (.build (bC Q2) []),a8 2 9 3]),.ret]) .skip)]),(.ae [aD 10 (.build (bC Q2) []),aD 3 (.new 37 (bC Q2)),a8 3 10 3]),(ag [(.ae [an 11 1 0,ar 12 11 1,bh 13 12,ab 14 (aw 0)]),(.block 0 (.loop QtX QId))]),Qv9])
def Qus:List (bw × Md):=[(.l 2 3 true,.b [.p 106,.d,.d])]
def QxN:Qb:=TQ 0 0 Qus K
def QYa:Qb:=ba (aU N5 0 Qv9 (QxN K)) (QxN K)
def QJm:Qb:=bf 0 (QYa K)
def Ep(m:List aE)(x:Int)(g0:List (List Int)):Prop:=Loop N5 0 QtX QId (QJm K) ⟨[(2,(.p 0 0 0)),(3,(.p 2 0 0)),(12,(bu aK m)),(13,(aO (m.length:Int))),(14,(aO x))],[(0,(.box [(.n [(.sl [TI])]),(aO 0),(bH false)])),(1,(.sl 106 [(.sl [TI])] (.dp 0 true []) g0)),(2,(.box [(.r [(.sl [TI])] 1 0 g0.length),(aO 0),(bH false)]))],3⟩
theorem QBv(m:List aE)(x:Int)(g0:List (List Int)) (h :
 (aS (decide (x<(m.length:Int))) ((0<=x/\Int.toNat x<m.length)/\(((0<=(((aq bY m (Int.toNat x)).2.2.2).length:Int)/\(((aq bY m (Int.toNat x)).2.2.2).length:Int)<=bP)/\((g0.length=g0.length\/g0.length+1<=g0.length)/\g0.length+1<=bP))/\(Ep K m (aI (x+1)) (List.take (g0.length+1) ((List.take g0.length g0)++([(List.take (Int.toNat (((aq bY m (Int.toNat x)).2.2.2).length:Int)) (List.drop 0 (List.replicate (Int.toNat (((aq bY m (Int.toNat x)).2.2.2).length:Int)) (0:Int))))])))))) (K (AD ((List.take g0.length g0),(0:Int),false))))):Ep K m x g0 :=
 Loop.of h
theorem QY2(m:List aE):aR Tryz.prog 213 [(.a [(.c (.sl aK) m)])] (AD (ZA m)):=by
 refine bD N5 QUw Qus 0 0 30 N4 (kc oG kn) (λK =>
 (aS (!(QS m)) (K (AD (([]:List (List Int)),(0:Int),false))) (Ep K m 0 ([]:List (List Int))))) (λhb=>?_)
 refine⟨λh=>au (by unfold ZA;rw[if_neg (by simpa using h)]),λh=>?_⟩;have hm:QS m=true:=by simpa using h
 have hl:=Yp hm;have hv:(ZA m)=(m.map λo=>List.replicate o.2.2.2.length (0:Int),0,false):=by unfold ZA;rw[if_pos hm]
 refine Zd m (λr k=>∀ v:List (List Int),v.length=k->v++r.map (λo=>List.replicate o.2.2.2.length (0:Int))=m.map (λo=>List.replicate o.2.2.2.length (0:Int))->Ep (λr'=>r'=AD (ZA m)) m k v) ?_ ?_ [] rfl rfl
 ·intro v hk he;refine QBv _ _ _ _ ⟨λh=>by simp at h,λ_=>au ?_⟩;rw[hv,<- he];simp
 ·intro k x r hk aY hg ih v kb he;have ho:=Dn (XE hm aY);rw[hg]at ho;refine QBv _ _ _ _ ⟨λ_=>?_,λh=>by simp[hm]at h;omega⟩;rw[Int.toNat_natCast,hg,dv (by omega),Int.toNat_natCast,Zc,XD];refine⟨⟨by omega,aY⟩,⟨⟨by omega,by rw[jV];omega⟩,room (by omega)⟩,ih _ (Yz kb) ?_⟩;rw[<- he];simp
theorem Q3d:Qf Tryz.prog N4:=Qh λx _=>QY2 x.1
def Er(t:QL):aJ:=f0 (.a (aV.cells Q2 t))
def N6:aP:=Qg 201 [(.a [(.sl aK)])] λx=>(none,Er (ZA x.1))
def N7:aN:=⟨[oF],false⟩
def Qwi:af :=
 (ag [(ag [(.ae [ab 6 4,an 7 1 0,ar 8 7 1,bh 9 8,az 10 .lss 6 9,ab 11 10,.bj 11 true [aZ 12 1 1,aL 13 157 [12]] 14 13]),(.cond 14 .skip (.exit 0))]),(.block 1 (.draw [an 17 3 0,ar 18 17 1,an 19 1 0,ar 20 19 1,ab 21 4,bn 22 20 21 aK,an 23 22 3,ar 24 23 1,bh 25 24,aD 26 (.mk 3 [TI] [(aO 0)] 25),aD 27 (.build [(.n [TI])] [(0,1,26)]),aD 28 (.bO 106 [(.sl [TI])] [27]),aD 29 (.app 18 28 106 [(.sl [TI])]),an 30 3 0,a8 30 29 1] [(0,9),(1,9),(0,11),(1,11)])),(.ae [ab 15 4,az 16 .add 15 (aw 1),ab 4 16])])
def QIk:List (Nat × Md):=[(1,.b [.d]),(2,.b [.d,.d,.d]),(3,.b [.o 106,.d,.d]),(4,.one .d)]
def QIt:af :=
 (ag [(.ae [aZ 31 3 3,a8 2 31 3]),.ret])
def QQe:af :=
 (ag [(.ae [aD 1 (.box 77 0 1),aD 2 (.new 37 (bC Q2))]),(.ae [aD 5 (.build (bC Q2) []),aD 3 (.new 37 (bC Q2)),a8 3 5 3]),(ag [(.ae [ab 4 (aw 0)]),(.block 0 (.loop QIk Qwi))]),QIt])
def QGj:List (bw × Md):=[(.l 2 3 true,.b [.d,.d,.d])]
def Qx0:Qb:=TQ 0 0 QGj K
def QZ0:Qb:=ba (aU N7 0 QIt (Qx0 K)) (Qx0 K)
def QVI:Qb:=bf 0 (QZ0 K)
def Es(m:List aE)(i:Int)(g0:List (List Int)):Prop:=Loop N7 0 QIk Qwi (QVI K) ⟨[(1,(.p 0 0 0)),(2,(.p 1 0 0)),(3,(.p 3 0 0)),(4,(aO i))],[(0,(.box [(bu aK m)])),(1,(.box (aV.cells Q2 ([],(0:Int),false)))),(2,(.sl 106 [(.sl [TI])] .ow g0)),(3,(.box [(.r [(.sl [TI])] 2 0 g0.length),(aO 0),(bH false)]))],4⟩
theorem N8(m:List aE)(i:Int)(g0:List (List Int)) (h :
 (aS ((decide (i<(m.length:Int)))&&(QS m)) (((0<=i/\Int.toNat i<m.length)/\((0<=(((aq bY m (Int.toNat i)).2.2.2).length:Int)/\(((aq bY m (Int.toNat i)).2.2.2).length:Int)<=bP)/\((g0.length=g0.length\/g0.length+1<=g0.length)/\g0.length+1<=bP)))/\(Es K m (aI (i+1)) (List.take (g0.length+1) ((List.take g0.length g0)++([(List.take (Int.toNat (((aq bY m (Int.toNat i)).2.2.2).length:Int)) (List.drop 0 (List.replicate (Int.toNat (((aq bY m (Int.toNat i)).2.2.2).length:Int)) (0:Int))))]))))) (K (Er ((List.take g0.length (List.drop 0 g0)),(0:Int),false))))):Es K m i g0 :=
 Loop.of h
theorem QVF(m:List aE):aR Tryz.prog 201 [(.a [(.c (.sl aK) m)])] (Er (ZA m)):=by
 refine bD N7 QQe QGj 0 0 32 N6 (kc rB kn) (λK =>
 (Es K m 0 ([]:List (List Int)))) (λhb=>?_)
 by_cases hm:QS m=true;rotate_left
 ·refine N8 _ _ _ _ ⟨λh=>by simp[hm]at h,λ_=>au (by unfold ZA;rw[if_neg hm];rfl)⟩
 have hl:=Yp hm;have hv:(ZA m)=(m.map λo=>List.replicate o.2.2.2.length (0:Int),0,false):=by unfold ZA;rw[if_pos hm]
 refine Zd m (λr k=>∀ v:List (List Int),v.length=k->v++r.map (λo=>List.replicate o.2.2.2.length (0:Int))=m.map (λo=>List.replicate o.2.2.2.length (0:Int))->Es (λr'=>r'=Er (ZA m)) m k v) ?_ ?_ [] rfl rfl
 ·intro v hk he;refine N8 _ _ _ _ ⟨λh=>by simp at h,λ_=>au ?_⟩;rw[hv,<- he];simp
 ·intro k x r hk aY hg ih v kb he;have ho:=Dn (XE hm aY);rw[hg]at ho;refine N8 _ _ _ _ ⟨λ_=>?_,λh=>by simp[hm]at h;omega⟩;rw[Int.toNat_natCast,hg,dv (by omega),Int.toNat_natCast,Zc,XD];refine⟨⟨⟨by omega,aY⟩,⟨by omega,by rw[jV];omega⟩,room (by omega)⟩,ih _ (Yz kb) ?_⟩;rw[<- he];simp
theorem QRS:Qf Tryz.prog N6:=Qh λx _=>QVF x.1
def Et(t:(List Int) × Bool):aJ:=f0 (.tp [(bu [TI] t.1),(bH t.2)])
def N9:aP:=Qg 194 [(.c (.sl [TI])),(.c (.sl [TI]))] λx=>(some (ZK (α:=List Int) (β:=List Int) x.1 x.2.1),Et (p5 x.1 x.2.1))
def Oa:aN:=⟨[uB],false⟩
def QFe:af :=
 (ag [(ag [(.ae [ab 12 8,ab 13 0,bh 14 13,az 15 .lss 12 14,ab 16 15,.bj 16 true [ab 17 8,ab 18 1,bh 19 18,az 20 .lss 17 19] 21 20]),(.cond 21 .skip (.exit 0))]),(.block 1 (ag [(.draw [ab 25 0,ab 26 8,bn 27 25 26 [TI],ar 28 27 1,ab 29 1,ab 30 8,bn 31 29 30 [TI],ar 32 31 1,aL 33 99 [28,32],ab 24 33,bF 34 24 0,bF 35 24 1,ab 9 34,ab 10 35] []),(.ae [ab 36 6,ab 37 9,aD 38 (.bO 3 [TI] [37]),aD 39 (.app 36 38 3 [TI]),ab 6 39]),(.ae [ab 40 7,ab 41 40,.bj 41 false [ab 42 10] 43 42,ab 7 43])])),(.ae [ab 22 8,az 23 .add 22 (aw 1),ab 8 23])])
def Qvu:List (Nat × Md):=[(0,.one .d),(1,.one .d),(6,.one .f),(7,.one .d),(8,.one .d)]
def QEr:af :=
 (ag [(.ae [ab 44 6,ab 45 7,ab 4 44,ab 5 45]),.ret])
def QWP:af :=
 (ag [(.ae [ab 4 (.k (.n [TI])),ab 5 (bm false)]),(.ae [aD 11 (.bO 3 [TI] []),ab 6 11]),(.ae [ab 7 (bm false)]),(ag [(.ae [ab 8 (aw 0)]),(.block 0 (.loop Qvu QFe))]),QEr])
def QDj:List (bw × Md):=[(.t 4,.one .d),(.t 5,.one .d)]
def QA2:Qb:=TQ 0 0 QDj K
def QW3:Qb:=ba (aU Oa 0 QEr (QA2 K)) (QA2 K)
def Q1b:Qb:=bf 0 (QW3 K)
def Eu(a:List Int)(b:List Int)(sat:Bool)(i:Int)(out:List Int):Prop:=Loop Oa 0 Qvu QFe (Q1b K) ⟨[(0,(bu [TI] a)),(1,(bu [TI] b)),(6,(.r [TI] 0 0 out.length)),(7,(bH sat)),(8,(aO i))],[(0,(.sl 3 [TI] .ow out))],1⟩
theorem Ob(a:List Int)(b:List Int)(sat:Bool)(i:Int)(out:List Int) (h :
 (aS ((decide (i<(a.length:Int)))&&(decide (i<(b.length:Int)))) (((0<=i/\Int.toNat i<a.length)/\(0<=i/\Int.toNat i<b.length))/\(((out.length=out.length\/out.length+1<=out.length)/\out.length+1<=bP)/\(Eu K a b (sat||((Q4 (aq (0:Int) a (Int.toNat i)) (aq (0:Int) b (Int.toNat i))).2)) (aI (i+1)) (List.take (out.length+1) ((List.take out.length out)++([(Q4 (aq (0:Int) a (Int.toNat i)) (aq (0:Int) b (Int.toNat i))).1])))))) (K (Et ((List.take out.length (List.drop 0 out)),sat))))):Eu K a b sat i out :=
 Loop.of h
theorem QNr(a:List Int)(b:List Int)(hp:ZK (α:=List Int) (β:=List Int) a b):aR Tryz.prog 194 [(.c (.sl [TI]) a),(.c (.sl [TI]) b)] (Et (p5 a b)):=by
 refine bD Oa QWP QDj 0 0 46 N9 (kc Au kn) (λK =>
 (Eu K a b false 0 ([]:List Int))) (λhb=>?_)
 unfold ZK at hp;have ha:=ZR a;have fY:=ZR b;refine Zd a (λr k=>∀(v:List Int)(s:Bool),v.length=k->(v++(vz Q4 r (b.drop k)).1,s||(vz Q4 r (b.drop k)).2)=(p5 a b)->Eu (λr'=>r'=Et (p5 a b)) a b s k v) ?_ ?_ [] false rfl (by unfold p5;simp)
 ·intro v s hv he;refine Ob _ _ _ _ _ _ ⟨λh=>by simp at h,λ_=>au ?_⟩;rw[<- he];simp[vz]
 ·intro k x r hk aY hg ih v s hv he;by_cases ju:k<b.length
  ·obtain⟨y,q,hq⟩:=Y1 (l:=b) (k:=k) ju;refine Ob _ _ _ _ _ _ ⟨λ_=>?_,λh=>by simp at h;omega⟩;rw[Int.toNat_natCast,hg,Z2 hq,dv (by omega),Zc];refine⟨⟨⟨by omega,aY⟩,by omega,ju⟩,room (by omega),ih _ _ (Yz hv) ?_⟩;rw[<- he,hq,vz,ZW hq];simp[Bool.or_assoc]
  ·refine Ob _ _ _ _ _ _ ⟨λh=>by simp at h;omega,λ_=>au ?_⟩;rw[<- he,drop_nil (l:=b) (by omega)];simp[vz]
theorem QOu:Qf Tryz.prog N9:=Qh λx h=>QNr x.1 x.2.1 h
def AE(t:QL):aJ:=⟨(.a [(.r [(.sl [TI])] 0 0 ((t.1).length)),(aO t.2.1),(bH t.2.2)]),[(.sl 106 [(.sl [TI])] (.dp 0 true []) t.1)],[],false,[]⟩
def Oc:aP:=Qg 113 [(.a Q2),(.a Q2)] λx=>(some (ZK (α:=QL) (β:=QL) x.1 x.2.1),AE (Z6 x.1 x.2.1))
def uC:aN:=⟨[wH],true⟩
def QBi:af :=
 (ag [(ag [(.ae [ab 35 8,an 36 2 0,ar 37 36 1,ab 38 6,bn 39 37 38 [(.sl [TI])],an 40 39 0,ar 41 40 1,bh 42 41,az 43 .lss 35 42,ab 44 43,.bj 44 true [ab 45 8,an 46 3 0,ar 47 46 1,ab 48 6,bn 49 47 48 [(.sl [TI])],an 50 49 0,ar 51 50 1,bh 52 51,az 53 .lss 45 52] 54 53]),(.cond 54 .skip (.exit 2))]),(.block 3 (ag [(.draw [an 58 2 0,ar 59 58 1,ab 60 6,bn 61 59 60 [(.sl [TI])],an 62 61 0,ar 63 62 1,ab 64 8,bn 65 63 64 [TI],ar 66 65 1,an 67 3 0,ar 68 67 1,ab 69 6,bn 70 68 69 [(.sl [TI])],an 71 70 0,ar 72 71 1,ab 73 8,bn 74 72 73 [TI],ar 75 74 1,aL 76 106 [66,75],ab 57 76,bF 77 57 0,bF 78 57 1,ab 9 77,ab 10 78] []),(.ae [an 79 7 0,ar 80 79 1,ab 81 9,aD 82 (.bO 3 [TI] [81]),aD 83 (.app 80 82 3 [TI]),an 84 7 0,a8 84 83 1]),(.ae [an 85 5 2,ar 86 85 1,ab 87 86,.bj 87 false [ab 88 10] 89 88,an 90 5 2,a8 90 89 1])])),(.ae [ab 55 8,az 56 .add 55 (aw 1),ab 8 56])])
def QBZ:List (Nat × Md):=[(2,.b [.d,.d,.d]),(3,.b [.d,.d,.d]),(4,.b [.f,.d,.d]),(5,.b [.f,.d,.d]),(6,.one .d),(7,.b [.p 3]),(8,.one .d)]
def QHc:af :=
 (.ae [an 91 5 0,ar 92 91 1,aZ 93 7 1,aD 94 (.bO 106 [(.sl [TI])] [93]),aD 95 (.app 92 94 106 [(.sl [TI])]),an 96 5 0,a8 96 95 1])
def Qvd:af :=
 (.ae [ab 32 6,az 33 .add 32 (aw 1),ab 6 33])
def Od:af :=
 (ag [(ag [(.ae [ab 20 6,an 21 2 0,ar 22 21 1,bh 23 22,az 24 .lss 20 23,ab 25 24,.bj 25 true [ab 26 6,an 27 3 0,ar 28 27 1,bh 29 28,az 30 .lss 26 29] 31 30]),(.cond 31 .skip (.exit 0))]),(.block 1 (ag [(.ae [aD 34 (.build [(.n [TI])] []),aD 7 (.new 106 [(.n [TI])]),a8 7 34 1]),(ag [(.ae [ab 8 (aw 0)]),(.block 2 (.loop QBZ QBi))]),QHc])),Qvd])
def Ev:List (Nat × Md):=[(2,.b [.d,.d,.d]),(3,.b [.d,.d,.d]),(4,.b [.f,.d,.d]),(5,.b [.p 106,.d,.d]),(6,.one .d)]
def Qvh:af :=
 (ag [(.ae [an 98 2 1,ar 99 98 1,an 100 3 1,ar 101 100 1,aL 102 106 [99,101],ab 97 102,bF 103 97 0,bF 104 97 1,ab 11 103,ab 12 104]),(.ae [ab 105 11,an 106 5 1,a8 106 105 1]),(.ae [an 107 5 2,ar 108 107 1,ab 109 108,.bj 109 false [ab 110 12] 111 110,an 112 5 2,a8 112 111 1]),(.ae [aZ 113 5 3,a8 4 113 3]),.ret])
def QTD:af :=
 (ag [(.ae [aD 2 (.box 37 0 3),aD 3 (.box 37 1 3),aD 4 (.new 37 (bC Q2))]),(.ae [an 13 2 2,ar 14 13 1,ab 15 14,.bj 15 false [an 16 3 2,ar 17 16 1] 18 17,aD 19 (.build (bC Q2) [(2,1,18)]),aD 5 (.new 37 (bC Q2)),a8 5 19 3]),(ag [(.ae [ab 6 (aw 0)]),(.block 0 (.loop Ev Od))]),Qvh])
def QBY:List (bw × Md):=[(.l 4 3 true,.b [.p 106,.d,.d])]
def QEQ:Qb:=TQ 0 0 QBY K
def QOA:Qb:=ba (aU uC 0 Qvh (QEQ K)) (QEQ K)
def Oe:Qb:=bf 0 (QOA K)
def QGB:Qb:=ba (λs'=>Loop uC 0 Ev Od (Oe K) (gc 0 Ev s')) (Oe K)
def QYt:Qb:=ba (aU uC 0 Qvd (QGB K)) (QGB K)
def QDu:Qb:=bf 1 (QYt K)
def QTm:Qb:=ba (aU uC 0 QHc (QDu K)) (QDu K)
def QVY:Qb:=bf 2 (QTm K)
def Ew(a:QL)(b:QL)(k:Int)(g2:Bool)(gF:List Int)(i:Int)(kZ:List (List Int)):Prop:=Loop uC 0 QBZ QBi (QVY K) ⟨[(2,(.p 0 0 0)),(3,(.p 1 0 0)),(4,(.p 2 0 0)),(5,(.p 4 0 0)),(6,(aO i)),(7,(.p 6 0 0)),(8,(aO k))],[(0,(.box (aV.cells Q2 a))),(1,(.box (aV.cells Q2 b))),(2,(.box [(.n [(.sl [TI])]),(aO 0),(bH false)])),(3,(.sl 106 [(.sl [TI])] (.dp 0 true []) kZ)),(4,(.box [(.r [(.sl [TI])] 3 0 kZ.length),(aO 0),(bH g2)])),(5,(.sl 3 [TI] (.dp 0 true []) gF)),(6,(.box [(.r [TI] 5 0 gF.length)]))],7⟩
def Ex(a:QL)(b:QL)(i:Int)(g0:List (List Int))(AF:Bool):Prop:=Loop uC 0 Ev Od (Oe K) ⟨[(2,(.p 0 0 0)),(3,(.p 1 0 0)),(4,(.p 2 0 0)),(5,(.p 4 0 0)),(6,(aO i))],[(0,(.box (aV.cells Q2 a))),(1,(.box (aV.cells Q2 b))),(2,(.box [(.n [(.sl [TI])]),(aO 0),(bH false)])),(3,(.sl 106 [(.sl [TI])] (.dp 0 true []) g0)),(4,(.box [(.r [(.sl [TI])] 3 0 g0.length),(aO 0),(bH AF)]))],5⟩
theorem QEn(a:QL)(b:QL)(k:Int)(g2:Bool)(gF:List Int)(i:Int)(kZ:List (List Int)) (h :
 (((0<=i/\Int.toNat i<(a.1).length)/\((decide (k<((aq ([]:List Int) a.1 (Int.toNat i)).length:Int)))=true->(0<=i/\Int.toNat i<(b.1).length)))/\(aS ((decide (k<((aq ([]:List Int) a.1 (Int.toNat i)).length:Int)))&&(decide (k<((aq ([]:List Int) b.1 (Int.toNat i)).length:Int)))) (((0<=i/\Int.toNat i<(a.1).length)/\((0<=k/\Int.toNat k<(aq ([]:List Int) a.1 (Int.toNat i)).length)/\((0<=i/\Int.toNat i<(b.1).length)/\(0<=k/\Int.toNat k<(aq ([]:List Int) b.1 (Int.toNat i)).length))))/\(((gF.length=gF.length\/gF.length+1<=gF.length)/\gF.length+1<=bP)/\(Ew K a b (aI (k+1)) (g2||((Q4 (aq (0:Int) (aq ([]:List Int) a.1 (Int.toNat i)) (Int.toNat k)) (aq (0:Int) (aq ([]:List Int) b.1 (Int.toNat i)) (Int.toNat k))).2)) (List.take (gF.length+1) ((List.take gF.length gF)++([(Q4 (aq (0:Int) (aq ([]:List Int) a.1 (Int.toNat i)) (Int.toNat k)) (aq (0:Int) (aq ([]:List Int) b.1 (Int.toNat i)) (Int.toNat k))).1]))) i (List.take kZ.length kZ)))) (((kZ.length=kZ.length\/kZ.length+1<=kZ.length)/\kZ.length+1<=bP)/\(Ex K a b (aI (i+1)) (List.take (kZ.length+1) ((List.take kZ.length kZ)++([(List.take gF.length (List.drop 0 gF))]))) g2))))):Ew K a b k g2 gF i kZ :=
 Loop.of h
theorem Of(a:QL)(b:QL)(i:Int)(g0:List (List Int))(AF:Bool) (h :
 (aS ((decide (i<((a.1).length:Int)))&&(decide (i<((b.1).length:Int)))) (Ew K a b 0 AF ([]:List Int) i (List.take g0.length g0)) (K (AE ((List.take g0.length g0),(Q4 a.2.1 b.2.1).1,(AF||((Q4 a.2.1 b.2.1).2))))))):Ex K a b i g0 AF :=
 Loop.of h
theorem QVa(a:QL)(b:QL)(hp:ZK (α:=QL) (β:=QL) a b):aR Tryz.prog 113 [(.a (aV.cells Q2 a)),(.a (aV.cells Q2 b))] (AE (Z6 a b)):=by
 refine bD uC QTD QBY 0 0 114 Oc (kc Ei kn) (λK =>
 (Ex K a b 0 ([]:List (List Int)) (a.2.2||b.2.2))) (λhb=>?_)
 unfold ZK at hp;simp only[Q9,Q1,ZJ]at hp;have ha:=Yk a.1;refine Zd a.1 (λr k=>∀(v:List (List Int))(z:Bool),v.length=k->v++(Zg r (b.1.drop k)).1=(Zg a.1 b.1).1->(z||(Zg r (b.1.drop k)).2)=(a.2.2||b.2.2||(Zg a.1 b.1).2)->Ex (λr'=>r'=AE (Z6 a b)) a b k v z) ?_ ?_ [] _ rfl (by simp) (by simp)
 ·intro v z hv he hz;refine Of _ _ _ _ _ _ ⟨λh=>by simp at h,λ_=>au ?_⟩;unfold Z6;rw[<- he,<- hz];simp[Zg]
 ·intro k x r hk aY hg ih v z hv he hz;by_cases ju:k<b.1.length
  ·obtain⟨y,q,hq⟩:=Y1 (l:=b.1) (k:=k) ju;have hx:=vU hk;have W5:=ZR x;refine Of _ _ _ _ _ _ ⟨λ_=>?_,λh=>by simp at h;omega⟩;rw[List.take_length];refine Zd x (λr2 j=>∀(w:List Int)(z2:Bool),w.length=j->w++(vz Q4 r2 (y.drop j)).1=(vz Q4 x y).1->(z2||(vz Q4 r2 (y.drop j)).2)=(z||(vz Q4 x y).2)->Ew (λr'=>r'=AE (Z6 a b)) a b j z2 w k v) ?_ ?_ [] z rfl (by simp) (by simp)
   ·intro w z2 hw eZ jX;refine QEn _ _ _ _ _ _ _ _ ?_;rw[Int.toNat_natCast,hg,Z2 hq];refine⟨⟨⟨by omega,aY⟩,λh=>by simp at h⟩,λh=>by simp at h,λ_=>⟨room (by omega),?_⟩⟩;rw[uc,dv (by omega),Zc];simp only[vz,List.append_nil,Bool.or_false]at eZ jX;refine ih _ _ (Yz hv) ?_ ?_
    ·rw[<- he,hq,Zg,ZW hq,eZ];simp
    ·rw[<- hz,hq,Zg,ZW hq,jX];simp[Bool.or_assoc]
   ·intro j e r2 hj mT iT nu w z2 hw eZ jX;refine QEn _ _ _ _ _ _ _ _ ?_;rw[Int.toNat_natCast,Int.toNat_natCast,hg,Z2 hq];by_cases hjy:j<y.length
    ·obtain⟨f,q2,lx⟩:=Y1 (l:=y) (k:=j) hjy;refine⟨⟨⟨by omega,aY⟩,λ_=>⟨by omega,ju⟩⟩,λ_=>?_,λh=>by simp at h;omega⟩;rw[iT,Z2 lx,dv (by omega),Zc,List.take_length];refine⟨⟨⟨by omega,aY⟩,⟨by omega,mT⟩,⟨by omega,ju⟩,by omega,hjy⟩,room (by omega),nu _ _ (Yz hw) ?_ ?_⟩
     ·rw[<- eZ,lx,vz,ZW lx];simp
     ·rw[<- jX,lx,vz,ZW lx];simp[Bool.or_assoc]
    ·refine⟨⟨⟨by omega,aY⟩,λ_=>⟨by omega,ju⟩⟩,λh=>by simp at h;omega,λ_=>⟨room (by omega),?_⟩⟩;rw[uc,dv (by omega),Zc];rw[drop_nil (l:=y) (by omega)]at eZ jX;simp only[vz,List.append_nil,Bool.or_false]at eZ jX;refine ih _ _ (Yz hv) ?_ ?_
     ·rw[<- he,hq,Zg,ZW hq,eZ];simp
     ·rw[<- hz,hq,Zg,ZW hq,jX];simp[Bool.or_assoc]
  ·refine Of _ _ _ _ _ _ ⟨λh=>by simp at h;omega,λ_=>au ?_⟩;unfold Z6;rw[<- he,<- hz,drop_nil (l:=b.1) (by omega)];simp[Zg]
theorem QJp:Qf Tryz.prog Oc:=Qh λx h=>QVa x.1 x.2.1 h
def Ey(t:QL):aJ:=f0 (.a (aV.cells Q2 t))
def Og:aP:=Qg 109 [(.a Q2),(.a Q2)] λx=>(some (ZK (α:=QL) (β:=QL) x.1 x.2.1),Ey (Z6 x.1 x.2.1))
def Oh:aN:=⟨[N9,uB],false⟩
def QtZ:af :=
 (ag [(ag [(.ae [ab 18 6,an 19 2 0,ar 20 19 1,bh 21 20,az 22 .lss 18 21,ab 23 22,.bj 23 true [ab 24 6,an 25 3 0,ar 26 25 1,bh 27 26,az 28 .lss 24 27] 29 28]),(.cond 29 .skip (.exit 0))]),(.block 1 (ag [(.draw [an 33 2 0,ar 34 33 1,ab 35 6,bn 36 34 35 [(.sl [TI])],an 37 36 0,ar 38 37 1,an 39 3 0,ar 40 39 1,ab 41 6,bn 42 40 41 [(.sl [TI])],an 43 42 0,ar 44 43 1,aL 45 194 [38,44],ab 32 45,bF 46 32 0,bF 47 32 1,ab 7 46,ab 8 47] []),(.ae [an 48 5 0,ar 49 48 1,ab 50 7,aD 51 (.build [(.n [TI])] [(0,1,50)]),aD 52 (.bO 106 [(.sl [TI])] [51]),aD 53 (.app 49 52 106 [(.sl [TI])]),an 54 5 0,a8 54 53 1]),(.ae [an 55 5 2,ar 56 55 1,ab 57 56,.bj 57 false [ab 58 8] 59 58,an 60 5 2,a8 60 59 1])])),(.ae [ab 30 6,az 31 .add 30 (aw 1),ab 6 31])])
def QyL:List (Nat × Md):=[(2,.b [.d,.d,.d]),(3,.b [.d,.d,.d]),(4,.b [.d,.d,.d]),(5,.b [.o 106,.d,.d]),(6,.one .d)]
def QtC:af :=
 (ag [(.ae [an 62 2 1,ar 63 62 1,an 64 3 1,ar 65 64 1,aL 66 99 [63,65],ab 61 66,bF 67 61 0,bF 68 61 1,ab 9 67,ab 10 68]),(.ae [ab 69 9,an 70 5 1,a8 70 69 1]),(.ae [an 71 5 2,ar 72 71 1,ab 73 72,.bj 73 false [ab 74 10] 75 74,an 76 5 2,a8 76 75 1]),(.ae [aZ 77 5 3,a8 4 77 3]),.ret])
def QWb:af :=
 (ag [(.ae [aD 2 (.box 37 0 3),aD 3 (.box 37 1 3),aD 4 (.new 37 (bC Q2))]),(.ae [an 11 2 2,ar 12 11 1,ab 13 12,.bj 13 false [an 14 3 2,ar 15 14 1] 16 15,aD 17 (.build (bC Q2) [(2,1,16)]),aD 5 (.new 37 (bC Q2)),a8 5 17 3]),(ag [(.ae [ab 6 (aw 0)]),(.block 0 (.loop QyL QtZ))]),QtC])
def QI4:List (bw × Md):=[(.l 4 3 true,.b [.d,.d,.d])]
def Qun:Qb:=TQ 0 0 QI4 K
def QVo:Qb:=ba (aU Oh 0 QtC (Qun K)) (Qun K)
def QZb:Qb:=bf 0 (QVo K)
def Ez(a:QL)(b:QL)(i:Int)(g0:List (List Int))(g2:Bool):Prop:=Loop Oh 0 QyL QtZ (QZb K) ⟨[(2,(.p 0 0 0)),(3,(.p 1 0 0)),(4,(.p 2 0 0)),(5,(.p 4 0 0)),(6,(aO i))],[(0,(.box (aV.cells Q2 a))),(1,(.box (aV.cells Q2 b))),(2,(.box (aV.cells Q2 ([],(0:Int),false)))),(3,(.sl 106 [(.sl [TI])] .ow g0)),(4,(.box [(.r [(.sl [TI])] 3 0 g0.length),(aO 0),(bH g2)]))],5⟩
theorem Oi(a:QL)(b:QL)(i:Int)(g0:List (List Int))(g2:Bool) (h :
 (aS ((decide (i<((a.1).length:Int)))&&(decide (i<((b.1).length:Int)))) (((0<=i/\Int.toNat i<(a.1).length)/\((0<=i/\Int.toNat i<(b.1).length)/\(ZK (α:=List Int) (β:=List Int) (aq ([]:List Int) a.1 (Int.toNat i)) (aq ([]:List Int) b.1 (Int.toNat i)))))/\(((g0.length=g0.length\/g0.length+1<=g0.length)/\g0.length+1<=bP)/\(Ez K a b (aI (i+1)) (List.take (g0.length+1) ((List.take g0.length g0)++([(p5 (aq ([]:List Int) a.1 (Int.toNat i)) (aq ([]:List Int) b.1 (Int.toNat i))).1]))) (g2||((p5 (aq ([]:List Int) a.1 (Int.toNat i)) (aq ([]:List Int) b.1 (Int.toNat i))).2))))) (K (Ey ((List.take g0.length (List.drop 0 g0)),(Q4 a.2.1 b.2.1).1,(g2||((Q4 a.2.1 b.2.1).2))))))):Ez K a b i g0 g2 :=
 Loop.of h
theorem Q3c(a:QL)(b:QL)(hp:ZK (α:=QL) (β:=QL) a b):aR Tryz.prog 109 [(.a (aV.cells Q2 a)),(.a (aV.cells Q2 b))] (Ey (Z6 a b)):=by
 refine bD Oh QWb QI4 0 0 78 Og (kc QOu (kc Au kn)) (λK =>
 (Ez K a b 0 ([]:List (List Int)) (a.2.2||b.2.2))) (λhb=>?_)
 unfold ZK at hp;simp only[Q9,Q1,ZJ]at hp;have ha:=Yk a.1;refine Zd a.1 (λr k=>∀(v:List (List Int))(z:Bool),v.length=k->v++(Zg r (b.1.drop k)).1=(Zg a.1 b.1).1->(z||(Zg r (b.1.drop k)).2)=(a.2.2||b.2.2||(Zg a.1 b.1).2)->Ez (λr'=>r'=Ey (Z6 a b)) a b k v z) ?_ ?_ [] _ rfl (by simp) (by simp)
 ·intro v z hv he hz;refine Oi _ _ _ _ _ _ ⟨λh=>by simp at h,λ_=>au ?_⟩;unfold Z6;rw[<- he,<- hz];simp[Zg]
 ·intro k x r hk aY hg ih v z hv he hz;by_cases ju:k<b.1.length
  ·obtain⟨y,q,hq⟩:=Y1 (l:=b.1) (k:=k) ju;have hx:=vU hk;have hy:=vU hq;refine Oi _ _ _ _ _ _ ⟨λ_=>?_,λh=>by simp at h;omega⟩;rw[Int.toNat_natCast,hg,Z2 hq,dv (by omega),Zc];refine⟨⟨⟨by omega,aY⟩,⟨by omega,ju⟩,by unfold ZK;omega⟩,room (by omega),ih _ _ (Yz hv) ?_ ?_⟩
   ·rw[<- he,hq,Zg,ZW hq];simp[p5]
   ·rw[<- hz,hq,Zg,ZW hq];simp[p5,Bool.or_assoc]
  ·refine Oi _ _ _ _ _ _ ⟨λh=>by simp at h;omega,λ_=>au ?_⟩;unfold Z6;rw[<- he,<- hz,drop_nil (l:=b.1) (by omega)];simp[Zg]
theorem Q3b:Qf Tryz.prog Og:=Qh λx h=>Q3c x.1 x.2.1 h
def Oj(t:Bool):aJ:=cd (bH t)
def EA:aP:=Qg 209 [(.c TI),(.c TI),(.c TI)] λx=>(none,Oj (ZV x.1 x.2.1 x.2.2.1))
def QUd:aN:=⟨[],false⟩
def QSw:af :=
 (ag [(.ae [ab 6 (bm false)]),(.ae [ab 7 0,az 8 .geq 7 (aw 1),ab 9 8,.bj 9 true [ab 10 0,az 11 .leq 10 (aw 4)] 12 11,ab 13 12,.bj 13 true [ab 14 1,az 15 .geq 14 (aw 0)] 16 15,ab 17 16,.bj 17 true [ab 18 1,ab 19 0,az 20 .lss 18 19] 21 20,ab 22 21,.bj 22 true [ab 23 2,az 24 .geq 23 (aw 1)] 25 24,ab 26 25,.bj 26 true [ab 27 2,az 28 .leq 27 (aw 5)] 29 28,ab 6 29]),.ret])
def QXr:List (bw × Md):=[(.t 6,.one .d)]
theorem Q3s(ak:Int)(s:Int)(aF:Int):aR Tryz.prog 209 [(.c TI ak),(.c TI s),(.c TI aF)] (Oj (ZV ak s aF)):=by
 refine bD QUd QSw QXr 0 0 30 EA kn (λK =>
 K (Oj ((((((decide (ak>=1))&&(decide (ak<=4)))&&(decide (s>=0)))&&(decide (s<ak)))&&(decide (aF>=1)))&&(decide (aF<=5))))) (λhb=>?_)
 exact au (by grind[ZV,aT])
theorem QIR:Qf Tryz.prog EA:=Qh λx _=>Q3s x.1 x.2.1 x.2.2.1
def AG(t:Int):aJ:=cd (aO t)
def Ol:aP:=Qg 202 [(.c TI),(.c TI),(.c TI),(.c TI)] λx=>(none,AG (ZS x.1 x.2.1 x.2.2.1 x.2.2.2.1))
def QYH:aN:=⟨[YF],false⟩
def QN7:af :=
 (ag [(.ae [ab 8 (aw 0)]),(ag [(.ae [ab 9 1,aL 10 158 [9,(aw 1),(aw 4)],bL 11 10,ab 12 11,.bj 12 false [ab 13 2,ab 14 1,az 15 .sub 14 (aw 1),aL 16 158 [13,(aw 0),15],bL 17 16] 18 17,ab 19 18,.bj 19 false [ab 20 3,aL 21 158 [20,(aw 1),(aw 5)],bL 22 21] 23 22]),(.cond 23 (ag [(.ae [ab 8 (aw 0)]),.ret]) .skip)]),(ag [(.ae [ab 24 0,az 25 .eql 24 (aw 2)]),(.cond 25 (ag [(.ae [ab 26 3,ab 27 1,az 28 .sub 27 (aw 1),ab 29 2,az 30 .sub 28 29,aD 31 (.mm false 26 30),ab 8 31]),.ret]) .skip)]),(.ae [ab 32 3,ab 8 32]),.ret])
def QQL:List (bw × Md):=[(.t 8,.one .d)]
theorem QZV(ds:Int)(ak:Int)(s:Int)(aF:Int):aR Tryz.prog 202 [(.c TI ds),(.c TI ak),(.c TI s),(.c TI aF)] (AG (ZS ds ak s aF)):=by
 refine bD QYH QN7 QQL 0 0 33 Ol (kc YV kn) (λK =>
 (aS (((!(aT ak (1:Int) (4:Int)))||(!(aT s (0:Int) (aI (ak-1)))))||(!(aT aF (1:Int) (5:Int)))) (K (AG (0:Int))) (aS (ds==2) (K (AG (if(aI ((aI (ak-1))-s))<aF then(aI ((aI (ak-1))-s)) else aF))) (K (AG aF))))) (λhb=>?_)
 by_cases h0:aT ak 1 4=true
 ·have h1:=QW.1 h0;rw[Qy (x:=ak-1) (by omega) (by omega)];refine⟨λh=>au (by grind[ZS,ZV]),λh=>?_⟩;have h2:aT s 0 (ak-1)=true:=by grind
  have h3:=QW.1 h2;rw[Qy (x:=ak-1-s) (by omega) (by omega)];grind[ZS,ZV,fB]
 ·refine⟨λh=>au (by grind[ZS,ZV]),λh=>by grind⟩
theorem Q0B:Qf Tryz.prog Ol:=Qh λx _=>QZV x.1 x.2.1 x.2.2.1 x.2.2.2.1
def AH(t:Int):aJ:=cd (aO t)
def Om:aP:=Qg 210 [(.c TI),(.c TI),(.c TI),(.c TI)] λx=>(none,AH (ZS x.1 x.2.1 x.2.2.1 x.2.2.2.1))
def QSL:aN:=⟨[EA],false⟩
def QW7:af :=
 (ag [(.ae [ab 8 (aw 0)]),(ag [(.ae [ab 9 1,ab 10 2,ab 11 3,aL 12 209 [9,10,11],bL 13 12]),(.cond 13 (ag [(.ae [ab 8 (aw 0)]),.ret]) .skip)]),(ag [(.ae [ab 14 0,az 15 .eql 14 (aw 2)]),(.cond 15 (ag [(.ae [ab 16 3,ab 17 1,az 18 .sub 17 (aw 1),ab 19 2,az 20 .sub 18 19,aD 21 (.mm false 16 20),ab 8 21]),.ret]) .skip)]),(.ae [ab 22 3,ab 8 22]),.ret])
def QWN:List (bw × Md):=[(.t 8,.one .d)]
theorem QZ1(ds:Int)(ak:Int)(s:Int)(aF:Int):aR Tryz.prog 210 [(.c TI ds),(.c TI ak),(.c TI s),(.c TI aF)] (AH (ZS ds ak s aF)):=by
 refine bD QSL QW7 QWN 0 0 23 Om (kc QIR kn) (λK =>
 (aS (!(ZV ak s aF)) (K (AH (0:Int))) (aS (ds==2) (K (AH (if(aI ((aI (ak-1))-s))<aF then(aI ((aI (ak-1))-s)) else aF))) (K (AH aF))))) (λhb=>?_)
 refine⟨λh=>au (by grind[ZS]),λh=>?_⟩;have hp:ZV ak s aF=true:=by simpa using h
 have h2:=hp;simp only[ZV,Bool.and_eq_true,QW]at h2;rw[Qy (x:=ak-1) (by omega) (by omega),Qy (x:=ak-1-s) (by omega) (by omega)];grind[ZS,fB]
theorem QRi:Qf Tryz.prog Om:=Qh λx _=>QZ1 x.1 x.2.1 x.2.2.1 x.2.2.2.1
end
end Go.Proofs.YtdplaepmjogjjaaGreat.Am

set_option linter.all false
namespace Go.Proofs.YtdplaepmjogjjaaGreat.Am
open Go Sz
theorem rE(st s m:Int):(Ya st s m).length<=3:=by unfold Ya;split <;> split <;> simp
theorem On(st s m:Int)(a0:Bool):(Yy st s m a0).length<=4:=by unfold Yy;split <;> split <;> split <;> simp
theorem QuI{α:Type}{f:Nat->List α}{R:Nat}(n:Nat)(h:∀ k,k<n->(f k).length<=R):((List.range n).flatMap f).length<=n*R:=by
 induction n with
 | zero=>simp
 | succ n ih =>
  have h1:=ih (λk hk=>h k (by omega));have h2:=h n (by omega);rw[v7,List.length_append,Nat.add_mul];omega
theorem EB{st s mi:Int}:ZV st s mi=true↔1<=st/\st<=4/\0<=s/\s<st/\1<=mi/\mi<=5:=by
 simp only[ZV,Bool.and_eq_true,QW];omega
theorem AJ{ds st s mi:Int}(h:ZV st s mi=true):0<=ZS ds st s mi/\ZS ds st s mi<=mi:=by
 have:=EB.1 h;unfold ZS;rw[if_pos h]
 split
 ·unfold fB;split <;> omega
 ·omega
def J6(st s:Int)(w:Nat):List bE:=(List.range w).flatMap λm:Nat=>Ya st s (m:Int)
def AK(st s mi:Int)(a0:Bool)(w m:Nat):List bE:=(if(m:Int)+w<mi then Ya st s ((m:Int)+w) else [])++Yy st s (m:Int) a0
def mo(st s mi:Int)(a0:Bool)(w k:Nat):List bE:=(List.range k).flatMap λm:Nat=>AK st s mi a0 w m
theorem Oo{ds st s mi:Int}{a0:Bool}(h:(aT ds 1 2&&ZV st s mi)=true) :
  Z7 ds st s mi a0=J6 st s (ZS ds st s mi).toNat++mo st s mi a0 (ZS ds st s mi).toNat mi.toNat++[(8,0)]:=by
 unfold Z7;rw[if_pos h];rfl
theorem Oq{ds st s mi:Int}{a0:Bool}(h:¬ (aT ds 1 2&&ZV st s mi)=true):Z7 ds st s mi a0=[]:=by
 unfold Z7;rw[if_neg h]
theorem uD(st s:Int)(w:Nat):(J6 st s w).length<=w*3:=QuI w (λk _=>rE st s k)
theorem AL(st s mi:Int)(a0:Bool)(w k:Nat):(mo st s mi a0 w k).length<=k*7:=by
 refine QuI k (λm _=>?_);have h1:=rE st s ((m:Int)+w);have h2:=On st s m a0;unfold AK;rw[List.length_append]
 split
 ·omega
 ·simp only[List.length_nil];omega
theorem QG8(st s:Int)(w:Nat):J6 st s (w+1)=J6 st s w++Ya st s w:=v7
theorem QE5(st s mi:Int)(a0:Bool)(w k:Nat):mo st s mi a0 w (k+1)=mo st s mi a0 w k++AK st s mi a0 w k:=v7
theorem QRs{ds st s mi:Int}:((((!(aT ds 1 2))||(!(aT st 1 4)))||(!(aT s 0 (aI (st-1)))))||(!(aT mi 1 5))) = !(aT ds 1 2&&ZV st s mi):=by
 by_cases fS:aT st 1 4=true
 ·have:=QW.1 fS;rw[Qy (by omega) (by omega)];unfold ZV
  cases aT ds 1 2 <;> cases aT st 1 4 <;> cases aT s 0 (st-1) <;> cases aT mi 1 5 <;> rfl
 ·simp only[Bool.not_eq_true]at fS;unfold ZV;rw[fS];cases aT ds 1 2 <;> rfl
theorem QOZ{ds st s mi:Int}:(((ds != 1)&&(ds != 2))||(!(ZV st s mi))) = !(aT ds 1 2&&ZV st s mi):=by
 have:((ds != 1)&&(ds != 2)) = !(aT ds 1 2):=by
  rw[Bool.eq_iff_iff];simp[aT];omega
 rw[this];cases aT ds 1 2 <;> cases ZV st s mi <;> rfl
theorem Ot{α:Type}{l x:List α}(h:l.length+x.length<=1000000):(l.length=l.length\/l.length+(List.take x.length (List.drop 0 x)).length<=l.length)/\l.length+(List.take x.length (List.drop 0 x)).length<=bP:=by
 rw[List.drop_zero,List.take_length];exact⟨.inl rfl,by rw[QY];omega⟩
theorem Ou{α:Type}(l x:List α):List.take (l.length+(List.take x.length (List.drop 0 x)).length) (List.take l.length l++List.take x.length (List.drop 0 x))=l++x:=by
 rw[List.drop_zero,List.take_length,Lx]
end Go.Proofs.YtdplaepmjogjjaaGreat.Am
namespace Go.Proofs.YtdplaepmjogjjaaGreat.Am
open Go Sz
theorem Ov(ds st s mi:Int)(a0:Bool):(Z7 ds st s mi a0).length<=51:=by
 by_cases h:(aT ds 1 2&&ZV st s mi)=true
 ·rw[Oo h];have hq:ZV st s mi=true:=by simp only[Bool.and_eq_true]at h;exact h.2
  have hr:=EB.1 hq;have hw:=AJ (ds:=ds) hq;have h1:=uD st s (ZS ds st s mi).toNat
  have h2:=AL st s mi a0 (ZS ds st s mi).toNat mi.toNat
  rw[List.length_append,List.length_append];simp only[List.length_cons,List.length_nil];omega
 ·rw[Oq h];simp
end Go.Proofs.YtdplaepmjogjjaaGreat.Am
namespace Go.Proofs.YtdplaepmjogjjaaGreat.Am
open Go Sz
end Go.Proofs.YtdplaepmjogjjaaGreat.Am
namespace Go.Proofs.YtdplaepmjogjjaaGreat.Am
open Go Sz
end Go.Proofs.YtdplaepmjogjjaaGreat.Am

namespace Go.Proofs.YtdplaepmjogjjaaGreat.Am
open Go Go.RowKit Go.Proofs.YtdplaepmjogjjaaGreat
set_option linter.all false
noncomputable section
variable (K:aJ->Prop)
def AN(t:(List bE)):aJ:=⟨(.r Qs 0 0 t.length),[(.sl 175 Qs .ow t)],[],false,[]⟩
def Ow:aP:=Qg 211 [(.c TI),(.c TI),(.c TI)] λx=>(some (lT x.1 x.2.1 x.2.2.1),AN (Ya x.1 x.2.1 x.2.2.1))
def QFQ:aN:=⟨[],false⟩
def Qza:af :=
 (ag [(.ae [ab 16 7,ab 17 2,aD 18 (.build (bC Qs) [(0,1,(aw 2)),(1,1,17)]),aD 19 (.bO 175 Qs [18]),aD 20 (.app 16 19 175 Qs),ab 7 20]),(ag [(.ae [ab 21 1,ab 22 0,az 23 .sub 22 (aw 1),az 24 .lss 21 23]),(.cond 24 (.ae [ab 25 7,ab 26 2,aD 27 (.build (bC Qs) [(0,1,(aw 3)),(1,1,26)]),aD 28 (.bO 175 Qs [27]),aD 29 (.app 25 28 175 Qs),ab 7 29]) .skip)]),(.ae [ab 30 7,ab 6 30]),.ret])
def Q0K:List (Nat × Md):=[(0,.one .d),(1,.one .d),(2,.one .d),(7,.one .f)]
def Q2s:af:=.wk Q0K Qza
def QYp:af :=
 (ag [(.ae [ab 6 (.k (.n Qs))]),(.ae [aD 8 (.bO 175 Qs []),ab 7 8]),(ag [(.ae [ab 9 1,az 10 .gtr 9 (aw 0)]),(.cond 10 (.ae [ab 11 7,ab 12 2,aD 13 (.build (bC Qs) [(0,1,(aw 1)),(1,1,12)]),aD 14 (.bO 175 Qs [13]),aD 15 (.app 11 14 175 Qs),ab 7 15]) .skip)]),Q2s])
def QIM:List (bw × Md):=[(.t 6,.one (.o 175))]
def QQm:Qb:=TQ 0 0 QIM K
@[irreducible] def EC(ak:Int)(s:Int)(m:Int)(l:List bE):Prop:=aU QFQ 0 Qza (QQm K) ⟨[(0,(aO ak)),(1,(aO s)),(2,(aO m)),(7,(.r Qs 0 0 l.length))],[(0,(.sl 175 Qs .ow l))],1⟩
theorem QUH(ak:Int)(s:Int)(m:Int)(l:List bE) (h :
 (((l.length=l.length\/l.length+1<=l.length)/\l.length+1<=bP)/\(aS (decide (s<(aI (ak-1)))) ((((l.length+1)=((List.take l.length l)++([((2:Int),m)])).length\/(l.length+1)+1<=((List.take l.length l)++([((2:Int),m)])).length)/\(l.length+1)+1<=bP)/\K (AN (List.take ((l.length+1)+1) ((List.take (l.length+1) ((List.take l.length l)++([((2:Int),m)])))++([((3:Int),m)]))))) (K (AN (List.take (l.length+1) ((List.take l.length l)++([((2:Int),m)])))))))):cz (EC K ak s m l) :=
 cz.of h
theorem QKO(ak:Int)(s:Int)(m:Int)(hp:lT ak s m):aR Tryz.prog 211 [(.c TI ak),(.c TI s),(.c TI m)] (AN (Ya ak s m)):=by
 refine bD QFQ QYp QIM 0 0 31 Ow kn (λK =>
 (aS (decide (s>0)) (((0=0\/0+1<=0)/\0+1<=bP)/\(EC K ak s m (List.take (0+1) ([((1:Int),m)]:List bE)))) (EC K ak s m ([]:List bE)))) (λhb=>?_)
 obtain⟨h1,h2⟩:=hp;have hw:aI (ak-1)=ak-1:=Qy (by omega) (by omega);have key:∀ l:List bE,l.length<=1->l++[(2,m)]++(if s<ak-1 then [(3,m)] else [])=(Ya ak s m)->EC (λr'=>r'=AN (Ya ak s m)) ak s m l:=by
  intro l hl he;refine(QUH _ _ _ _ _ ?_).h;rw[hw,<- he];simp only[Zc];refine⟨⟨by simp,by rw[QY];omega⟩,λh=>⟨⟨.inl (by simp),by rw[QY];omega⟩,au ?_⟩,λh=>au ?_⟩
  ·simp at h;simp[h,List.take_of_length_le]
  ·simp at h;simp[Int.not_lt.2 h]
 refine⟨λh=>⟨⟨.inl rfl,by rw[QY];omega⟩,key _ (by simp) ?_⟩,λh=>key _ (by simp) ?_⟩
 ·simp at h;simp[Ya,h]
 ·simp at h;simp[Ya,Int.not_lt.2 h]
theorem QUc:Qf Tryz.prog Ow:=Qh λx h=>QKO x.1 x.2.1 x.2.2.1 h
def wJ(t:(List bE)):aJ:=⟨(.r Qs 0 0 t.length),[(.sl 175 Qs .ow t)],[],false,[]⟩
def Ox:aP:=Qg 212 [(.c TI),(.c TI),(.c TI),(.c .bool)] λx=>(some (Lt x.1 x.2.1 x.2.2.1 x.2.2.2.1),wJ (Yy x.1 x.2.1 x.2.2.1 x.2.2.2.1))
def Oy:aN:=⟨[],false⟩
def QtP:af :=
 (ag [(.ae [ab 26 9,ab 27 2,aD 28 (.build (bC Qs) [(0,1,(aw 6)),(1,1,27)]),aD 29 (.bO 175 Qs [28]),aD 30 (.app 26 29 175 Qs),ab 9 30]),(ag [(.ae [ab 31 1,az 32 .gtr 31 (aw 0)]),(.cond 32 (.ae [ab 33 9,ab 34 2,aD 35 (.build (bC Qs) [(0,1,(aw 7)),(1,1,34)]),aD 36 (.bO 175 Qs [35]),aD 37 (.app 33 36 175 Qs),ab 9 37]) .skip)]),(.ae [ab 38 9,ab 8 38]),.ret])
def QPh:List (Nat × Md):=[(1,.one .d),(2,.one .d),(9,.one .f)]
def Q3t:af:=.wk QPh QtP
def Qud:af :=
 (ag [(ag [(.ae [ab 20 3]),(.cond 20 (.ae [ab 21 9,ab 22 2,aD 23 (.build (bC Qs) [(0,1,(aw 5)),(1,1,22)]),aD 24 (.bO 175 Qs [23]),aD 25 (.app 21 24 175 Qs),ab 9 25]) .skip)]),Q3t])
def Q0U:List (Nat × Md):=[(1,.one .d),(2,.one .d),(3,.one .d),(9,.one .f)]
def QU4:af:=.wk Q0U Qud
def QMN:af :=
 (ag [(.ae [ab 8 (.k (.n Qs))]),(.ae [aD 10 (.bO 175 Qs []),ab 9 10]),(ag [(.ae [ab 11 1,ab 12 0,az 13 .sub 12 (aw 1),az 14 .lss 11 13]),(.cond 14 (.ae [ab 15 9,ab 16 2,aD 17 (.build (bC Qs) [(0,1,(aw 4)),(1,1,16)]),aD 18 (.bO 175 Qs [17]),aD 19 (.app 15 18 175 Qs),ab 9 19]) .skip)]),QU4])
def QyB:List (bw × Md):=[(.t 8,.one (.o 175))]
def QHY:Qb:=TQ 0 0 QyB K
@[irreducible] def ED(s:Int)(m:Int)(l1:List bE):Prop:=aU Oy 0 QtP (QHY K) ⟨[(1,(aO s)),(2,(aO m)),(9,(.r Qs 0 0 l1.length))],[(0,(.sl 175 Qs .ow l1))],1⟩
@[irreducible] def EE(s:Int)(m:Int)(a0:Bool)(l:List bE):Prop:=aU Oy 0 Qud (QHY K) ⟨[(1,(aO s)),(2,(aO m)),(3,(bH a0)),(9,(.r Qs 0 0 l.length))],[(0,(.sl 175 Qs .ow l))],1⟩
theorem QOj(s:Int)(m:Int)(l1:List bE) (h :
 (((l1.length=l1.length\/l1.length+1<=l1.length)/\l1.length+1<=bP)/\(aS (decide (s>0)) ((((l1.length+1)=((List.take l1.length l1)++([((6:Int),m)])).length\/(l1.length+1)+1<=((List.take l1.length l1)++([((6:Int),m)])).length)/\(l1.length+1)+1<=bP)/\K (wJ (List.take ((l1.length+1)+1) ((List.take (l1.length+1) ((List.take l1.length l1)++([((6:Int),m)])))++([((7:Int),m)]))))) (K (wJ (List.take (l1.length+1) ((List.take l1.length l1)++([((6:Int),m)])))))))):cz (ED K s m l1) :=
 cz.of h
theorem QL7(s:Int)(m:Int)(a0:Bool)(l:List bE) (h :
 (aS a0 (((l.length=l.length\/l.length+1<=l.length)/\l.length+1<=bP)/\(ED K s m (List.take (l.length+1) ((List.take l.length l)++([((5:Int),m)]))))) (ED K s m (List.take l.length l)))):cz (EE K s m a0 l) :=
 cz.of h
theorem QPm(ak:Int)(s:Int)(m:Int)(a0:Bool)(hp:Lt ak s m a0):aR Tryz.prog 212 [(.c TI ak),(.c TI s),(.c TI m),(.c .bool a0)] (wJ (Yy ak s m a0)):=by
 refine bD Oy QMN QyB 0 0 39 Ox kn (λK =>
 (aS (decide (s<(aI (ak-1)))) (((0=0\/0+1<=0)/\0+1<=bP)/\(EE K s m a0 (List.take (0+1) ([((4:Int),m)]:List bE)))) (EE K s m a0 ([]:List bE)))) (λhb=>?_)
 obtain⟨h1,h2⟩:=hp;have hw:aI (ak-1)=ak-1:=Qy (by omega) (by omega);have AP:∀ l:List bE,l.length<=2->l++[(6,m)]++(if 0<s then [(7,m)] else [])=(Yy ak s m a0)->ED (λr'=>r'=wJ (Yy ak s m a0)) s m l:=by
  intro l hl he;refine(QOj _ _ _ _ ?_).h;rw[<- he];simp only[Zc];refine⟨⟨by simp,by rw[QY];omega⟩,λh=>⟨⟨.inl (by simp),by rw[QY];omega⟩,au ?_⟩,λh=>au ?_⟩
  ·simp at h;simp[h,List.take_of_length_le]
  ·simp at h;simp[Int.not_lt.2 h]
 have key:∀ l:List bE,l.length<=1->l++(if a0 then [(5,m)] else [])++[(6,m)]++(if 0<s then [(7,m)] else [])=(Yy ak s m a0)->EE (λr'=>r'=wJ (Yy ak s m a0)) s m a0 l:=by
  intro l hl he;refine(QL7 _ _ _ _ _ ⟨λh=>⟨⟨.inl rfl,by rw[QY];omega⟩,AP _ (by simp;omega) ?_⟩,λh=>AP _ (by simp;omega) ?_⟩).h
  ·rw[<- he,Zc,h];simp
  ·rw[<- he,List.take_length,h];simp
 rw[hw];refine⟨λh=>⟨⟨.inl rfl,by rw[QY];omega⟩,key _ (by simp) ?_⟩,λh=>key _ (by simp) ?_⟩
 ·simp at h;simp[Yy,h]
 ·simp at h;simp[Yy,Int.not_lt.2 h]
theorem QJ0:Qf Tryz.prog Ox:=Qh λx h=>QPm x.1 x.2.1 x.2.2.1 x.2.2.2.1 h
def wK(t:(List bE)):aJ:=⟨(.r Qs 0 0 t.length),[(.sl 175 Qs .ow t)],[],true,[.dead]⟩
def Oz:aP:=Qg 203 [(.o 175 Qs),(.c TI),(.c TI),(.c TI)] λx=>(some (nm x.1 x.2.1 x.2.2.1 x.2.2.2.1),wK (t9 x.1 x.2.1 x.2.2.1 x.2.2.2.1))
def QSh:aN:=⟨[],false⟩
def QRQ:af :=
 (ag [(.ae [ab 8 (.k (.n Qs))]),(ag [(.ae [ab 9 2,az 10 .gtr 9 (aw 0)]),(.cond 10 (.ae [ab 11 0,ab 12 3,aD 13 (.build (bC Qs) [(0,1,(aw 1)),(1,1,12)]),aD 14 (.bO 175 Qs [13]),aD 15 (.app 11 14 175 Qs),ab 0 15]) .skip)]),(.ae [ab 16 0,ab 17 3,aD 18 (.build (bC Qs) [(0,1,(aw 2)),(1,1,17)]),aD 19 (.bO 175 Qs [18]),aD 20 (.app 16 19 175 Qs),ab 0 20]),(ag [(.ae [ab 21 2,ab 22 1,az 23 .sub 22 (aw 1),az 24 .lss 21 23]),(.cond 24 (.ae [ab 25 0,ab 26 3,aD 27 (.build (bC Qs) [(0,1,(aw 3)),(1,1,26)]),aD 28 (.bO 175 Qs [27]),aD 29 (.app 25 28 175 Qs),ab 0 29]) .skip)]),(.ae [ab 30 0,ab 8 30]),.ret])
def QU9:List (bw × Md):=[(.t 8,.one (.o 175))]
theorem Q1G(l:List bE)(ak:Int)(s:Int)(m:Int)(hp:nm l ak s m):aR Tryz.prog 203 [(.ow 175 Qs .ow l),(.c TI ak),(.c TI s),(.c TI m)] (wK (t9 l ak s m)):=by
 refine bD QSh QRQ QU9 0 1 31 Oz kn (λK =>
 (aS (decide (s>0)) (((l.length=l.length\/l.length+1<=l.length)/\l.length+1<=bP)/\((((l.length+1)=((List.take l.length l)++([((1:Int),m)])).length\/(l.length+1)+1<=((List.take l.length l)++([((1:Int),m)])).length)/\(l.length+1)+1<=bP)/\(aS (decide (s<(aI (ak-1)))) (((((l.length+1)+1)=((List.take (l.length+1) ((List.take l.length l)++([((1:Int),m)])))++([((2:Int),m)])).length\/((l.length+1)+1)+1<=((List.take (l.length+1) ((List.take l.length l)++([((1:Int),m)])))++([((2:Int),m)])).length)/\((l.length+1)+1)+1<=bP)/\K (wK (List.take (((l.length+1)+1)+1) ((List.take ((l.length+1)+1) ((List.take (l.length+1) ((List.take l.length l)++([((1:Int),m)])))++([((2:Int),m)])))++([((3:Int),m)]))))) (K (wK (List.take ((l.length+1)+1) ((List.take (l.length+1) ((List.take l.length l)++([((1:Int),m)])))++([((2:Int),m)])))))))) (((l.length=l.length\/l.length+1<=l.length)/\l.length+1<=bP)/\(aS (decide (s<(aI (ak-1)))) ((((l.length+1)=((List.take l.length l)++([((2:Int),m)])).length\/(l.length+1)+1<=((List.take l.length l)++([((2:Int),m)])).length)/\(l.length+1)+1<=bP)/\K (wK (List.take ((l.length+1)+1) ((List.take (l.length+1) ((List.take l.length l)++([((2:Int),m)])))++([((3:Int),m)]))))) (K (wK (List.take (l.length+1) ((List.take l.length l)++([((2:Int),m)]))))))))) (λhb=>?_)
 obtain⟨⟨h1,h2⟩,hl⟩:=hp;have hw:aI (ak-1)=ak-1:=Qy (by omega) (by omega);have hb:l.length+100<=bP:=by rw[QY];omega
 rw[hw];unfold t9 Ya;refine⟨λh=>?_,λh=>?_⟩
 all_goals
  simp at h
  first | have h0:0<s:=h | have h0:¬ 0<s:=by omega
  refine⟨⟨.inl rfl,by omega⟩,?_⟩
  first
  | refine⟨⟨.inl (by simp),by omega⟩,λh3=>⟨⟨.inl (by simp),by omega⟩,au ?_⟩,λh3=>au ?_⟩
  | refine⟨λh3=>⟨⟨.inl (by simp),by omega⟩,au ?_⟩,λh3=>au ?_⟩
  all_goals
   simp at h3
   first | have h4:s<ak-1:=h3 | have h4:¬ s<ak-1:=by omega
   simp[h0,h4,List.take_of_length_le]
theorem Q2k:Qf Tryz.prog Oz:=Qh λx h=>Q1G x.1 x.2.1 x.2.2.1 x.2.2.2.1 h
def oI(t:(List bE)):aJ:=⟨(.r Qs 0 0 t.length),[(.sl 175 Qs .ow t)],[],true,[.dead]⟩
def OA:aP:=Qg 204 [(.o 175 Qs),(.c TI),(.c TI),(.c TI),(.c .bool)] λx=>(some (Lu x.1 x.2.1 x.2.2.1 x.2.2.2.1 x.2.2.2.2.1),oI (v5 x.1 x.2.1 x.2.2.1 x.2.2.2.1 x.2.2.2.2.1))
def QRI:aN:=⟨[],false⟩
def QSJ:af :=
 (ag [(.ae [ab 10 (.k (.n Qs))]),(ag [(.ae [ab 11 2,ab 12 1,az 13 .sub 12 (aw 1),az 14 .lss 11 13]),(.cond 14 (.ae [ab 15 0,ab 16 3,aD 17 (.build (bC Qs) [(0,1,(aw 4)),(1,1,16)]),aD 18 (.bO 175 Qs [17]),aD 19 (.app 15 18 175 Qs),ab 0 19]) .skip)]),(ag [(.ae [ab 20 4]),(.cond 20 (.ae [ab 21 0,ab 22 3,aD 23 (.build (bC Qs) [(0,1,(aw 5)),(1,1,22)]),aD 24 (.bO 175 Qs [23]),aD 25 (.app 21 24 175 Qs),ab 0 25]) .skip)]),(.ae [ab 26 0,ab 27 3,aD 28 (.build (bC Qs) [(0,1,(aw 6)),(1,1,27)]),aD 29 (.bO 175 Qs [28]),aD 30 (.app 26 29 175 Qs),ab 0 30]),(ag [(.ae [ab 31 2,az 32 .gtr 31 (aw 0)]),(.cond 32 (.ae [ab 33 0,ab 34 3,aD 35 (.build (bC Qs) [(0,1,(aw 7)),(1,1,34)]),aD 36 (.bO 175 Qs [35]),aD 37 (.app 33 36 175 Qs),ab 0 37]) .skip)]),(.ae [ab 38 0,ab 10 38]),.ret])
def QN0:List (bw × Md):=[(.t 10,.one (.o 175))]
theorem QOg(l:List bE)(ak:Int)(s:Int)(m:Int)(a0:Bool)(hp:Lu l ak s m a0):aR Tryz.prog 204 [(.ow 175 Qs .ow l),(.c TI ak),(.c TI s),(.c TI m),(.c .bool a0)] (oI (v5 l ak s m a0)):=by
 refine bD QRI QSJ QN0 0 1 39 OA kn (λK =>
 let z1:=List.take l.length l
 (aS (decide (s<(aI (ak-1)))) (((l.length=l.length\/l.length+1<=l.length)/\l.length+1<=bP)/\(aS a0 ((((l.length+1)=(z1++([((4:Int),m)])).length\/(l.length+1)+1<=(z1++([((4:Int),m)])).length)/\(l.length+1)+1<=bP)/\(((((l.length+1)+1)=((List.take (l.length+1) (z1++([((4:Int),m)])))++([((5:Int),m)])).length\/((l.length+1)+1)+1<=((List.take (l.length+1) (z1++([((4:Int),m)])))++([((5:Int),m)])).length)/\((l.length+1)+1)+1<=bP)/\(aS (decide (s>0)) ((((((l.length+1)+1)+1)=((List.take ((l.length+1)+1) ((List.take (l.length+1) (z1++([((4:Int),m)])))++([((5:Int),m)])))++([((6:Int),m)])).length\/(((l.length+1)+1)+1)+1<=((List.take ((l.length+1)+1) ((List.take (l.length+1) (z1++([((4:Int),m)])))++([((5:Int),m)])))++([((6:Int),m)])).length)/\(((l.length+1)+1)+1)+1<=bP)/\K (oI (List.take ((((l.length+1)+1)+1)+1) ((List.take (((l.length+1)+1)+1) ((List.take ((l.length+1)+1) ((List.take (l.length+1) (z1++([((4:Int),m)])))++([((5:Int),m)])))++([((6:Int),m)])))++([((7:Int),m)]))))) (K (oI (List.take (((l.length+1)+1)+1) ((List.take ((l.length+1)+1) ((List.take (l.length+1) (z1++([((4:Int),m)])))++([((5:Int),m)])))++([((6:Int),m)])))))))) ((((l.length+1)=(z1++([((4:Int),m)])).length\/(l.length+1)+1<=(z1++([((4:Int),m)])).length)/\(l.length+1)+1<=bP)/\(aS (decide (s>0)) (((((l.length+1)+1)=((List.take (l.length+1) (z1++([((4:Int),m)])))++([((6:Int),m)])).length\/((l.length+1)+1)+1<=((List.take (l.length+1) (z1++([((4:Int),m)])))++([((6:Int),m)])).length)/\((l.length+1)+1)+1<=bP)/\K (oI (List.take (((l.length+1)+1)+1) ((List.take ((l.length+1)+1) ((List.take (l.length+1) (z1++([((4:Int),m)])))++([((6:Int),m)])))++([((7:Int),m)]))))) (K (oI (List.take ((l.length+1)+1) ((List.take (l.length+1) (z1++([((4:Int),m)])))++([((6:Int),m)]))))))))) (aS a0 (((l.length=l.length\/l.length+1<=l.length)/\l.length+1<=bP)/\((((l.length+1)=(z1++([((5:Int),m)])).length\/(l.length+1)+1<=(z1++([((5:Int),m)])).length)/\(l.length+1)+1<=bP)/\(aS (decide (s>0)) (((((l.length+1)+1)=((List.take (l.length+1) (z1++([((5:Int),m)])))++([((6:Int),m)])).length\/((l.length+1)+1)+1<=((List.take (l.length+1) (z1++([((5:Int),m)])))++([((6:Int),m)])).length)/\((l.length+1)+1)+1<=bP)/\K (oI (List.take (((l.length+1)+1)+1) ((List.take ((l.length+1)+1) ((List.take (l.length+1) (z1++([((5:Int),m)])))++([((6:Int),m)])))++([((7:Int),m)]))))) (K (oI (List.take ((l.length+1)+1) ((List.take (l.length+1) (z1++([((5:Int),m)])))++([((6:Int),m)])))))))) (((l.length=l.length\/l.length+1<=l.length)/\l.length+1<=bP)/\(aS (decide (s>0)) ((((l.length+1)=(z1++([((6:Int),m)])).length\/(l.length+1)+1<=(z1++([((6:Int),m)])).length)/\(l.length+1)+1<=bP)/\K (oI (List.take ((l.length+1)+1) ((List.take (l.length+1) (z1++([((6:Int),m)])))++([((7:Int),m)]))))) (K (oI (List.take (l.length+1) (z1++([((6:Int),m)])))))))))) (λhb=>?_)
 conv=>zeta
 obtain⟨⟨h1,h2⟩,hl⟩:=hp;have hw:aI (ak-1)=ak-1:=Qy (by omega) (by omega);have hb:l.length+100<=bP:=by rw[QY];omega
 rw[hw];unfold v5 Yy;have hd:∀ k,List.take k (l++[])=List.take k l:=by intro k;rw[List.append_nil]
 by_cases c1:s<ak-1
 all_goals
  cases a0
  all_goals
   by_cases c3:0<s
   all_goals
    simp only[aS,gt_iff_lt,c1,c3,decide_true,decide_false,Bool.false_eq_true,true_implies,false_implies,true_and,and_true,reduceCtorEq,if_true,if_false,List.nil_append,List.append_nil];simp[aS,List.take_of_length_le,QY]
    try omega
    try exact au (by simp[List.take_of_length_le])
theorem QSF:Qf Tryz.prog OA:=Qh λx h=>QOg x.1 x.2.1 x.2.2.1 x.2.2.2.1 x.2.2.2.2.1 h
def rF(t:(List bE)):aJ:=⟨(.r Qs 0 0 t.length),[(.sl 175 Qs .ow t)],[],false,[]⟩
def OB:aP:=Qg 129 [(.c TI),(.c TI),(.c TI),(.c TI),(.c .bool)] λx=>(none,rF (Z7 x.1 x.2.1 x.2.2.1 x.2.2.2.1 x.2.2.2.2.1))
def rG:aN:=⟨[EA,Om,Ow,Ox],false⟩
def Quk:af :=
 (ag [(ag [(.ae [ab 34 13,ab 35 11,az 36 .lss 34 35]),(.cond 36 .skip (.exit 0))]),(.block 1 (.ae [ab 39 12,ab 40 1,ab 41 2,ab 42 13,aL 43 211 [40,41,42],aD 44 (.app 39 43 175 Qs),ab 12 44])),(.ae [ab 37 13,az 38 .add 37 (aw 1),ab 13 38])])
def Qxl:List (Nat × Md):=[(1,.one .d),(2,.one .d),(3,.one .d),(4,.one .d),(11,.one .d),(12,.one .f),(13,.one .d)]
def QBz:af :=
 (.ae [ab 63 12,ab 64 1,ab 65 2,ab 66 14,ab 67 4,aL 68 212 [64,65,66,67],aD 69 (.app 63 68 175 Qs),ab 12 69])
def QNM:List (Nat × Md):=[(1,.one .d),(2,.one .d),(3,.one .d),(4,.one .d),(11,.one .d),(12,.one .f),(14,.one .d)]
def QSa:af:=.wk QNM QBz
def QCr:af :=
 (.ae [ab 48 14,az 49 .add 48 (aw 1),ab 14 49])
def OC:af :=
 (ag [(ag [(.ae [ab 45 14,ab 46 3,az 47 .lss 45 46]),(.cond 47 .skip (.exit 2))]),(.block 3 (ag [(ag [(.ae [ab 50 14,ab 51 11,az 52 .add 50 51,ab 53 3,az 54 .lss 52 53]),(.cond 54 (.ae [ab 55 12,ab 56 1,ab 57 2,ab 58 14,ab 59 11,az 60 .add 58 59,aL 61 211 [56,57,60],aD 62 (.app 55 61 175 Qs),ab 12 62]) .skip)]),QSa])),QCr])
def EF:List (Nat × Md):=[(1,.one .d),(2,.one .d),(3,.one .d),(4,.one .d),(11,.one .d),(12,.one .f),(14,.one .d)]
def QDq:af :=
 (ag [(.ae [ab 70 12,aD 71 (.build (bC Qs) [(0,1,(aw 8)),(1,1,(aw 0))]),aD 72 (.bO 175 Qs [71]),aD 73 (.app 70 72 175 Qs),ab 10 73]),.ret])
def QGP:af :=
 (ag [(ag [(.ae [ab 14 (aw 0)]),(.block 2 (.loop EF OC))]),QDq])
def QVM:af :=
 (ag [(.ae [ab 10 (.k (.n Qs))]),(ag [(.ae [ab 15 0,az 16 .neq 15 (aw 1),ab 17 16,.bj 17 true [ab 18 0,az 19 .neq 18 (aw 2)] 20 19,ab 21 20,.bj 21 false [ab 22 1,ab 23 2,ab 24 3,aL 25 209 [22,23,24],bL 26 25] 27 26]),(.cond 27 (ag [(.ae [ab 10 (.k (.n Qs))]),.ret]) .skip)]),(.ae [ab 28 0,ab 29 1,ab 30 2,ab 31 3,aL 32 210 [28,29,30,31],ab 11 32]),(.ae [aD 33 (.bO 175 Qs []),ab 12 33]),(ag [(.ae [ab 13 (aw 0)]),(.block 0 (.loop Qxl Quk))]),QGP])
def QFz:List (bw × Md):=[(.t 10,.one (.o 175))]
def EG:Qb:=TQ 0 0 QFz K
def QN1:Qb:=ba (aU rG 0 QDq (EG K)) (EG K)
def OD:Qb:=bf 2 (QN1 K)
def QA5:Qb:=ba (λs'=>Loop rG 0 EF OC (OD K) (gc 0 EF s')) (OD K)
def QME:Qb:=ba (aU rG 0 QCr (QA5 K)) (QA5 K)
def QYc:Qb:=bf 3 (QME K)
@[irreducible] def EH(ds:Int)(ak:Int)(s:Int)(aF:Int)(a0:Bool)(l1:List bE)(m1:Int):Prop:=aU rG 0 QBz (QYc K) ⟨[(1,(aO ak)),(2,(aO s)),(3,(aO aF)),(4,(bH a0)),(11,(aO (ZS ds ak s aF))),(12,(.r Qs 0 0 l1.length)),(14,(aO m1))],[(0,(.sl 175 Qs .ow l1))],1⟩
def AQ(ds:Int)(ak:Int)(s:Int)(aF:Int)(a0:Bool)(m1:Int)(l2:List bE):Prop:=Loop rG 0 EF OC (OD K) ⟨[(1,(aO ak)),(2,(aO s)),(3,(aO aF)),(4,(bH a0)),(11,(aO (ZS ds ak s aF))),(12,(.r Qs 0 0 l2.length)),(14,(aO m1))],[(0,(.sl 175 Qs .ow l2))],1⟩
def QSA:Qb:=ba (aU rG 0 QGP (EG K)) (EG K)
def QU8:Qb:=bf 0 (QSA K)
def EI(ds:Int)(ak:Int)(s:Int)(aF:Int)(a0:Bool)(m:Int)(l:List bE):Prop:=Loop rG 0 Qxl Quk (QU8 K) ⟨[(1,(aO ak)),(2,(aO s)),(3,(aO aF)),(4,(bH a0)),(11,(aO (ZS ds ak s aF))),(12,(.r Qs 0 0 l.length)),(13,(aO m))],[(0,(.sl 175 Qs .ow l))],1⟩
theorem QJG(ds:Int)(ak:Int)(s:Int)(aF:Int)(a0:Bool)(l1:List bE)(m1:Int) (h :
 (((Lt ak s m1 a0)/\((l1.length=l1.length\/l1.length+(List.take ((Yy ak s m1 a0).length) (List.drop 0 (Yy ak s m1 a0))).length<=l1.length)/\l1.length+(List.take ((Yy ak s m1 a0).length) (List.drop 0 (Yy ak s m1 a0))).length<=bP))/\(AQ K ds ak s aF a0 (aI (m1+1)) (List.take (l1.length+(List.take ((Yy ak s m1 a0).length) (List.drop 0 (Yy ak s m1 a0))).length) ((List.take l1.length l1)++(List.take ((Yy ak s m1 a0).length) (List.drop 0 (Yy ak s m1 a0)))))))):cz (EH K ds ak s aF a0 l1 m1) :=
 cz.of h
theorem QvF(ds:Int)(ak:Int)(s:Int)(aF:Int)(a0:Bool)(m1:Int)(l2:List bE) (h :
 let z2:=aI (m1+(ZS ds ak s aF))
 let z1:=List.take ((Ya ak s z2).length) (List.drop 0 (Ya ak s z2))
 let z3:=List.take l2.length l2
 (aS (decide (m1<aF)) (aS (decide (z2<aF)) (((lT ak s z2)/\((l2.length=l2.length\/l2.length+z1.length<=l2.length)/\l2.length+z1.length<=bP))/\(EH K ds ak s aF a0 (List.take (l2.length+z1.length) (z3++z1)) m1)) (EH K ds ak s aF a0 z3 m1)) (((l2.length=l2.length\/l2.length+1<=l2.length)/\l2.length+1<=bP)/\K (rF (List.take (l2.length+1) (z3++([((8:Int),(0:Int))]))))))):AQ K ds ak s aF a0 m1 l2 :=
 Loop.of h
theorem QEB(ds:Int)(ak:Int)(s:Int)(aF:Int)(a0:Bool)(m:Int)(l:List bE) (h :
 (aS (decide (m<(ZS ds ak s aF))) (((lT ak s m)/\((l.length=l.length\/l.length+(List.take ((Ya ak s m).length) (List.drop 0 (Ya ak s m))).length<=l.length)/\l.length+(List.take ((Ya ak s m).length) (List.drop 0 (Ya ak s m))).length<=bP))/\(EI K ds ak s aF a0 (aI (m+1)) (List.take (l.length+(List.take ((Ya ak s m).length) (List.drop 0 (Ya ak s m))).length) ((List.take l.length l)++(List.take ((Ya ak s m).length) (List.drop 0 (Ya ak s m))))))) (AQ K ds ak s aF a0 0 (List.take l.length l)))):EI K ds ak s aF a0 m l :=
 Loop.of h
theorem Q3i(ds:Int)(ak:Int)(s:Int)(aF:Int)(a0:Bool):aR Tryz.prog 129 [(.c TI ds),(.c TI ak),(.c TI s),(.c TI aF),(.c .bool a0)] (rF (Z7 ds ak s aF a0)):=by
 refine bD rG QVM QFz 0 0 74 OB (kc QIR (kc QRi (kc QUc (kc QJ0 kn)))) (λK =>
 (aS (((ds != 1)&&(ds != 2))||(!(ZV ak s aF))) (K (rF ([]:List bE))) (EI K ds ak s aF a0 0 ([]:List bE)))) (λhb=>?_)
 rw[QOZ];by_cases hp:(aT ds 1 2&&ZV ak s aF)=true
 case neg =>
  rw[show(aT ds 1 2&&ZV ak s aF)=false by simpa using hp];exact⟨λ_=>au (Oq hp).symm,λh=>by simp at h⟩
 rw[hp];refine⟨λh=>by simp at h,λ_=>?_⟩;have hq:ZV ak s aF=true:=by simp only[Bool.and_eq_true]at hp;exact hp.2
 have hr:=EB.1 hq;have hM:=Oo (a0:=a0) hp;obtain⟨w,hw⟩:∃ w:Nat,ZS ds ak s aF=w:=⟨_,(Int.toNat_of_nonneg (AJ hq).1).symm⟩
 have OE:=(AJ (ds:=ds) hq).2;rw[hw]at hM OE;rw[Int.toNat_natCast]at hM;refine JN w (λk=>EI (λr'=>r'=rF (Z7 ds ak s aF a0)) ds ak s aF a0 (k:Int) (J6 ak s k)) ?_ ?_
 ·refine QEB _ _ _ _ _ _ _ _ ⟨λh=>by simp[hw]at h,λ_=>?_⟩;rw[List.take_length];suffices h:AQ (λr'=>r'=rF (Z7 ds ak s aF a0)) ds ak s aF a0 ((0:Nat):Int) (J6 ak s w++mo ak s aF a0 w 0) by
   rw[show mo ak s aF a0 w 0=[] from rfl,List.append_nil]at h;exact h
  refine JN aF.toNat (λk=>AQ (λr'=>r'=rF (Z7 ds ak s aF a0)) ds ak s aF a0 (k:Int) (J6 ak s w++mo ak s aF a0 w k)) ?_ ?_
  ·have h1:=uD ak s w;have h2:=AL ak s aF a0 w aF.toNat
   refine QvF _ _ _ _ _ _ _ _ ⟨λh=>by simp at h;omega,λ_=>⟨⟨.inl rfl,by rw[List.length_append,QY];omega⟩,au ?_⟩⟩;rw[Zc,hM]
  ·intro k hk ih;have h1:=uD ak s w;have h2:=AL ak s aF a0 w k;have key:∀ l:List bE,l=J6 ak s w++mo ak s aF a0 w k++(if(k:Int)+w<aF then Ya ak s ((k:Int)+w) else [])->EH (λr'=>r'=rF (Z7 ds ak s aF a0)) ds ak s aF a0 l (k:Int):=by
    intro l hl;have h3:=On ak s k a0;have h4:=rE ak s ((k:Int)+w);have h5:l.length<=1000:=by rw[hl];split <;> simp only[List.length_append,List.length_nil] <;> omega
    refine(QJG _ _ _ _ _ _ _ _ ⟨⟨⟨by omega,by omega⟩,Ot (by omega)⟩,?_⟩).h;rw[Ou,dv (by omega)];rw[QE5]at ih;rw[hl,List.append_assoc,List.append_assoc];unfold AK at ih;exact ih
   refine QvF _ _ _ _ _ _ _ _ ⟨λ_=>?_,λh=>by simp at h;omega⟩;rw[hw,Qy (x:=(k:Int)+w) (by omega) (by omega)];have h4:=rE ak s ((k:Int)+w);refine⟨λh=>⟨⟨⟨by omega,by omega⟩,Ot (by rw[List.length_append];omega)⟩,key _ ?_⟩,λh=>key _ ?_⟩
   ·rw[Ou,if_pos (of_decide_eq_true h)]
   ·rw[if_neg (of_decide_eq_false h),List.take_length,List.append_nil]
 ·intro k hk ih;have h1:=uD ak s k;have h4:=rE ak s k;refine QEB _ _ _ _ _ _ _ _ ⟨λ_=>⟨⟨⟨by omega,by omega⟩,Ot (by omega)⟩,?_⟩,λh=>by simp[hw]at h;omega⟩;rw[Ou,dv (by omega),<- QG8];exact ih
theorem QZ2:Qf Tryz.prog OB:=Qh λx _=>Q3i x.1 x.2.1 x.2.2.1 x.2.2.2.1 x.2.2.2.2.1
def rH(t:(List bE)):aJ:=⟨(.r Qs 0 0 t.length),[(.sl 175 Qs .ow t)],[],false,[]⟩
def OG:aP:=Qg 121 [(.c TI),(.c TI),(.c TI),(.c TI),(.c .bool)] λx=>(none,rH (Z7 x.1 x.2.1 x.2.2.1 x.2.2.2.1 x.2.2.2.2.1))
def rI:aN:=⟨[YF,Ol,Oz,OA],false⟩
def QIZ:af :=
 (ag [(ag [(.ae [ab 42 13,ab 43 12,az 44 .lss 42 43]),(.cond 44 .skip (.exit 0))]),(.block 1 (.ae [ab 47 11,ab 48 1,ab 49 2,ab 50 13,aL 51 203 [47,48,49,50],ab 11 51])),(.ae [ab 45 13,az 46 .add 45 (aw 1),ab 13 46])])
def QFx:List (Nat × Md):=[(1,.one .d),(2,.one .d),(3,.one .d),(4,.one .d),(11,.one .f),(12,.one .d),(13,.one .d)]
def Qx4:af :=
 (.ae [ab 69 11,ab 70 1,ab 71 2,ab 72 14,ab 73 4,aL 74 204 [69,70,71,72,73],ab 11 74])
def QQO:List (Nat × Md):=[(1,.one .d),(2,.one .d),(3,.one .d),(4,.one .d),(11,.one .f),(12,.one .d),(14,.one .d)]
def QYL:af:=.wk QQO Qx4
def QBy:af :=
 (.ae [ab 55 14,az 56 .add 55 (aw 1),ab 14 56])
def OH:af :=
 (ag [(ag [(.ae [ab 52 14,ab 53 3,az 54 .lss 52 53]),(.cond 54 .skip (.exit 2))]),(.block 3 (ag [(ag [(.ae [ab 57 12,ab 58 14,az 59 .add 57 58,ab 60 3,az 61 .lss 59 60]),(.cond 61 (.ae [ab 62 11,ab 63 1,ab 64 2,ab 65 12,ab 66 14,az 67 .add 65 66,aL 68 203 [62,63,64,67],ab 11 68]) .skip)]),QYL])),QBy])
def EJ:List (Nat × Md):=[(1,.one .d),(2,.one .d),(3,.one .d),(4,.one .d),(11,.one .f),(12,.one .d),(14,.one .d)]
def QE6:af :=
 (ag [(.ae [ab 75 11,aD 76 (.build (bC Qs) [(0,1,(aw 8))]),aD 77 (.bO 175 Qs [76]),aD 78 (.app 75 77 175 Qs),ab 10 78]),.ret])
def QyW:af :=
 (ag [(ag [(.ae [ab 14 (aw 0)]),(.block 2 (.loop EJ OH))]),QE6])
def QQZ:af :=
 (ag [(.ae [ab 10 (.k (.n Qs))]),(.ae [aD 15 (.bO 175 Qs []),ab 11 15]),(ag [(.ae [ab 16 0,aL 17 158 [16,(aw 1),(aw 2)],bL 18 17,ab 19 18,.bj 19 false [ab 20 1,aL 21 158 [20,(aw 1),(aw 4)],bL 22 21] 23 22,ab 24 23,.bj 24 false [ab 25 2,ab 26 1,az 27 .sub 26 (aw 1),aL 28 158 [25,(aw 0),27],bL 29 28] 30 29,ab 31 30,.bj 31 false [ab 32 3,aL 33 158 [32,(aw 1),(aw 5)],bL 34 33] 35 34]),(.cond 35 (ag [(.ae [ab 36 11,ab 10 36]),.ret]) .skip)]),(.ae [ab 37 0,ab 38 1,ab 39 2,ab 40 3,aL 41 202 [37,38,39,40],ab 12 41]),(ag [(.ae [ab 13 (aw 0)]),(.block 0 (.loop QFx QIZ))]),QyW])
def Qz4:List (bw × Md):=[(.t 10,.one (.o 175))]
def EK:Qb:=TQ 0 0 Qz4 K
def QRT:Qb:=ba (aU rI 0 QE6 (EK K)) (EK K)
def OI:Qb:=bf 2 (QRT K)
def QAT:Qb:=ba (λs'=>Loop rI 0 EJ OH (OI K) (gc 0 EJ s')) (OI K)
def QTc:Qb:=ba (aU rI 0 QBy (QAT K)) (QAT K)
def QZU:Qb:=bf 3 (QTc K)
@[irreducible] def EL(ds:Int)(ak:Int)(s:Int)(aF:Int)(a0:Bool)(l1:List bE)(m1:Int):Prop:=aU rI 0 Qx4 (QZU K) ⟨[(1,(aO ak)),(2,(aO s)),(3,(aO aF)),(4,(bH a0)),(11,(.r Qs 0 0 l1.length)),(12,(aO (ZS ds ak s aF))),(14,(aO m1))],[(0,(.sl 175 Qs .ow l1))],1⟩
def AR(ds:Int)(ak:Int)(s:Int)(aF:Int)(a0:Bool)(m1:Int)(l2:List bE):Prop:=Loop rI 0 EJ OH (OI K) ⟨[(1,(aO ak)),(2,(aO s)),(3,(aO aF)),(4,(bH a0)),(11,(.r Qs 0 0 l2.length)),(12,(aO (ZS ds ak s aF))),(14,(aO m1))],[(0,(.sl 175 Qs .ow l2))],1⟩
def QXo:Qb:=ba (aU rI 0 QyW (EK K)) (EK K)
def QJZ:Qb:=bf 0 (QXo K)
def EM(ds:Int)(ak:Int)(s:Int)(aF:Int)(a0:Bool)(m:Int)(l:List bE):Prop:=Loop rI 0 QFx QIZ (QJZ K) ⟨[(1,(aO ak)),(2,(aO s)),(3,(aO aF)),(4,(bH a0)),(11,(.r Qs 0 0 l.length)),(12,(aO (ZS ds ak s aF))),(13,(aO m))],[(0,(.sl 175 Qs .ow l))],1⟩
theorem QKc(ds:Int)(ak:Int)(s:Int)(aF:Int)(a0:Bool)(l1:List bE)(m1:Int) (h :
 (((l1.length=l1.length)/\(Lu l1 ak s m1 a0))/\(AR K ds ak s aF a0 (aI (m1+1)) (List.take ((v5 l1 ak s m1 a0).length) (v5 l1 ak s m1 a0))))):cz (EL K ds ak s aF a0 l1 m1) :=
 cz.of h
theorem QEL(ds:Int)(ak:Int)(s:Int)(aF:Int)(a0:Bool)(m1:Int)(l2:List bE) (h :
 (aS (decide (m1<aF)) (aS (decide ((aI ((ZS ds ak s aF)+m1))<aF)) (((l2.length=l2.length)/\(nm l2 ak s (aI ((ZS ds ak s aF)+m1))))/\(EL K ds ak s aF a0 (List.take ((t9 l2 ak s (aI ((ZS ds ak s aF)+m1))).length) (t9 l2 ak s (aI ((ZS ds ak s aF)+m1)))) m1)) (EL K ds ak s aF a0 (List.take l2.length l2) m1)) (((l2.length=l2.length\/l2.length+1<=l2.length)/\l2.length+1<=bP)/\K (rH (List.take (l2.length+1) ((List.take l2.length l2)++([((8:Int),(0:Int))]))))))):AR K ds ak s aF a0 m1 l2 :=
 Loop.of h
theorem QFO(ds:Int)(ak:Int)(s:Int)(aF:Int)(a0:Bool)(m:Int)(l:List bE) (h :
 (aS (decide (m<(ZS ds ak s aF))) (((l.length=l.length)/\(nm l ak s m))/\(EM K ds ak s aF a0 (aI (m+1)) (List.take ((t9 l ak s m).length) (t9 l ak s m)))) (AR K ds ak s aF a0 0 (List.take l.length l)))):EM K ds ak s aF a0 m l :=
 Loop.of h
theorem QTE(ds:Int)(ak:Int)(s:Int)(aF:Int)(a0:Bool):aR Tryz.prog 121 [(.c TI ds),(.c TI ak),(.c TI s),(.c TI aF),(.c .bool a0)] (rH (Z7 ds ak s aF a0)):=by
 refine bD rI QQZ Qz4 0 0 79 OG (kc YV (kc Q0B (kc Q2k (kc QSF kn)))) (λK =>
 (aS ((((!(aT ds (1:Int) (2:Int)))||(!(aT ak (1:Int) (4:Int))))||(!(aT s (0:Int) (aI (ak-1)))))||(!(aT aF (1:Int) (5:Int)))) (K (rH ([]:List bE))) (EM K ds ak s aF a0 0 ([]:List bE)))) (λhb=>?_)
 rw[QRs];by_cases hp:(aT ds 1 2&&ZV ak s aF)=true
 case neg =>
  rw[show(aT ds 1 2&&ZV ak s aF)=false by simpa using hp];exact⟨λ_=>au (Oq hp).symm,λh=>by simp at h⟩
 rw[hp];refine⟨λh=>by simp at h,λ_=>?_⟩;have hq:ZV ak s aF=true:=by simp only[Bool.and_eq_true]at hp;exact hp.2
 have hr:=EB.1 hq;have hM:=Oo (a0:=a0) hp;obtain⟨w,hw⟩:∃ w:Nat,ZS ds ak s aF=w:=⟨_,(Int.toNat_of_nonneg (AJ hq).1).symm⟩
 have OE:=(AJ (ds:=ds) hq).2;rw[hw]at hM OE;rw[Int.toNat_natCast]at hM;refine JN w (λk=>EM (λr'=>r'=rH (Z7 ds ak s aF a0)) ds ak s aF a0 (k:Int) (J6 ak s k)) ?_ ?_
 ·refine QFO _ _ _ _ _ _ _ _ ⟨λh=>by simp[hw]at h,λ_=>?_⟩;rw[List.take_length];suffices h:AR (λr'=>r'=rH (Z7 ds ak s aF a0)) ds ak s aF a0 ((0:Nat):Int) (J6 ak s w++mo ak s aF a0 w 0) by
   rw[show mo ak s aF a0 w 0=[] from rfl,List.append_nil]at h;exact h
  refine JN aF.toNat (λk=>AR (λr'=>r'=rH (Z7 ds ak s aF a0)) ds ak s aF a0 (k:Int) (J6 ak s w++mo ak s aF a0 w k)) ?_ ?_
  ·have h1:=uD ak s w;have h2:=AL ak s aF a0 w aF.toNat
   refine QEL _ _ _ _ _ _ _ _ ⟨λh=>by simp at h;omega,λ_=>⟨⟨.inl rfl,by rw[List.length_append,QY];omega⟩,au ?_⟩⟩;rw[Zc,hM]
  ·intro k hk ih;have h1:=uD ak s w;have h2:=AL ak s aF a0 w k;have key:∀ l:List bE,l=J6 ak s w++mo ak s aF a0 w k++(if(k:Int)+w<aF then Ya ak s ((k:Int)+w) else [])->EL (λr'=>r'=rH (Z7 ds ak s aF a0)) ds ak s aF a0 l (k:Int):=by
    intro l hl;have h3:=On ak s k a0;have h4:=rE ak s ((k:Int)+w);have h5:l.length<=1000:=by rw[hl];split <;> simp only[List.length_append,List.length_nil] <;> omega
    refine(QKc _ _ _ _ _ _ _ _ ⟨⟨rfl,⟨by omega,by omega⟩,by omega⟩,?_⟩).h;rw[List.take_length,dv (by omega)];rw[QE5]at ih;unfold v5;rw[hl,List.append_assoc,List.append_assoc];unfold AK at ih;exact ih
   refine QEL _ _ _ _ _ _ _ _ ⟨λ_=>?_,λh=>by simp at h;omega⟩;rw[hw,Int.add_comm (w:Int) k,Qy (x:=(k:Int)+w) (by omega) (by omega)];have h4:=rE ak s ((k:Int)+w);refine⟨λh=>⟨⟨rfl,⟨by omega,by omega⟩,by rw[List.length_append];omega⟩,key _ ?_⟩,λh=>key _ ?_⟩
   ·rw[List.take_length,if_pos (of_decide_eq_true h)];rfl
   ·rw[if_neg (of_decide_eq_false h),List.take_length,List.append_nil]
 ·intro k hk ih;have h1:=uD ak s k;have h4:=rE ak s k;refine QFO _ _ _ _ _ _ _ _ ⟨λ_=>⟨⟨rfl,⟨by omega,by omega⟩,by omega⟩,?_⟩,λh=>by simp[hw]at h;omega⟩;rw[List.take_length,dv (by omega)];rw[QG8]at ih;exact ih
theorem QKC:Qf Tryz.prog OG:=Qh λx _=>QTE x.1 x.2.1 x.2.2.1 x.2.2.2.1 x.2.2.2.2.1
end
end Go.Proofs.YtdplaepmjogjjaaGreat.Am

