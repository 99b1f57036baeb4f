/- -/
import Derived.Test.YtdplaepmjogjjaaGreatVHM3
namespace Go.Proofs.YtdplaepmjogjjaaGreat.Am
open Go Go.RowKit Go.Proofs.YtdplaepmjogjjaaGreat
set_option linter.all false
noncomputable section
variable (K:aB->Prop)
def tT(t:Int):aB:=b6 (aL t)
def Hg:aI:=Qg 55 [(.c (.sl QP)),(.c TI)] λx=>(some (bJ (α:=List bu) x.1 x.2.1),tT (bh (α:=List bu) x.1 x.2.1))
def QLM:aF:=⟨[],false⟩
def QKm:af :=
 (ag [(.ae [ab 4 (aq 0)]),(.ae [ab 5 1,ab 6 0,ba 7 6,aw 8 .sub 5 7,ab 1 8]),(ag [(.ae [ab 9 1,aw 10 .lss 9 (aq 0)]),(.cond 10 (ag [(.ae [ab 4 (aq (-1))]),.ret]) .skip)]),(.ae [ab 11 1,ab 4 11]),.ret])
def QPc:List (bn × Md):=[(.t 4,.one .d)]
theorem QRp(a:List bu)(left:Int)(hp:bJ (α:=List bu) a left):aK Tryz.prog 55 [(.c (.sl QP) a),(.c TI left)] (tT (bh (α:=List bu) a left)):=by
 refine bz QLM QKm QPc 0 0 12 Hg kn (λK =>
 (aJ (decide ((aG (left-(a.length:Int)))<0)) (K (tT (-1:Int))) (K (tT (aG (left-(a.length:Int))))))) (λhb=>?_)
 exact S6 (Q:=λx=>tT x=tT (bh (α:=List bu) a left)) (λ_=>rfl) hp hb.1.1 rfl
theorem QTG:Qf Tryz.prog Hg:=Qi λx h=>QRp x.1 x.2.1 h
def AL(t:Int):aB:=b6 (aL t)
def Hh:aI:=Qg 153 [(.a QE),(.c TI)] λx=>(some (bJ (α:=QD) x.1 x.2.1),AL (bh (α:=QD) x.1 x.2.1))
def QMi:aF:=⟨[xr],false⟩
def QI0:af :=
 (ag [(.ae [aC 2 (.box 187 0 2),ab 4 (aq 0)]),(.ae [ak 5 2 1,an 6 5 1,ab 7 1,aD 8 58 [6,7],ab 1 8]),(ag [(.ae [ab 9 1,aw 10 .lss 9 (aq 0)]),(.cond 10 (ag [(.ae [ab 4 (aq (-1))]),.ret]) .skip)]),(.ae [ab 11 1,ab 4 11]),.ret])
def QGy:List (bn × Md):=[(.t 4,.one .d)]
theorem QHT(a:QD)(left:Int)(hp:bJ (α:=QD) a left):aK Tryz.prog 153 [(.a [(.c TI a.1),(.c (.sl [(.sl [TI])]) a.2)]),(.c TI left)] (AL (bh (α:=QD) a left)):=by
 refine bz QMi QI0 QGy 0 0 12 Hh (kc GK kn) (λK =>
 ((bJ (α:=List (List Int)) a.2 left)/\(aJ (decide ((bh (α:=List (List Int)) a.2 left)<0)) (K (AL (-1:Int))) (K (AL (bh (α:=List (List Int)) a.2 left)))))) (λhb=>?_)
 refine⟨hp,λh=>au (Z2 (of_decide_eq_true h) (by first | omega | (simp only[QR,QL,QY];omega)) hp.1),λh=>?_⟩;exact au (congrArg (Yb · _) (by first | rfl | omega | (simp only[QR,QL,QY];omega)))
theorem QVM:Qf Tryz.prog Hh:=Qi λx h=>QHT x.1 x.2.1 h
def rO(t:Int):aB:=b6 (aL t)
def Hi:aI:=Qg 57 [(.c (.sl QE)),(.c TI)] λx=>(some (bJ (α:=List QD) x.1 x.2.1),rO (bh (α:=List QD) x.1 x.2.1))
def Hj:aF:=⟨[Hh],false⟩
def Up:af :=
 (ag [(ag [(.ae [ab 12 5,ab 13 0,ba 14 13,aw 15 .lss 12 14]),(.cond 15 .skip (.exit 0))]),(.block 1 (ag [(.ae [ab 18 0,ab 19 5,a0 20 18 19 QE,a8 21 20 2,ab 22 1,aD 23 153 [21,22],ab 1 23]),(.ae [ab 24 1,aw 25 .lss 24 (aq 0)]),(.cond 25 (ag [(.ae [ab 4 (aq (-1))]),.ret]) .skip)])),(.ae [ab 16 5,aw 17 .add 16 (aq 1),ab 5 17])])
def Uq:List (Nat × Md):=eV [0,1,5]
def Ur:af :=
 (ag [(.ae [ab 26 1,ab 4 26]),.ret])
def QWG:af :=
 (ag [(.ae [ab 4 (aq 0)]),(.ae [ab 6 1,ab 7 0,ba 8 7,aw 9 .sub 6 8,ab 1 9]),(ag [(.ae [ab 10 1,aw 11 .lss 10 (aq 0)]),(.cond 11 (ag [(.ae [ab 4 (aq (-1))]),.ret]) .skip)]),(ag [(.ae [ab 5 (aq 0)]),(.block 0 (.loop Uq Up))]),Ur])
def Us:List (bn × Md):=[(.t 4,.one .d)]
def Ut:Qb:=TQ 0 0 Us K
def QJP:Qb:=aY (aO Hj 0 Ur (Ut K)) (Ut K)
def QLm:Qb:=a7 0 (QJP K)
def Hk(a:List QD)(bC:Int)(i:Int):Prop:=Loop Hj 0 Uq Up (QLm K) ⟨[(0,(bg QE a)),(1,(aL bC)),(5,(aL i))],[],0⟩
theorem QFm(a:List QD)(bC:Int)(i:Int) (h :
 (aJ (decide (i<(a.length:Int))) (((0<=i/\Int.toNat i<a.length)/\(bJ (α:=QD) (ar QS a (Int.toNat i)) bC))/\(aJ (decide ((bh (α:=QD) (ar QS a (Int.toNat i)) bC)<0)) (K (rO (-1:Int))) (Hk K a (bh (α:=QD) (ar QS a (Int.toNat i)) bC) (aG (i+1))))) (K (rO bC)))):Hk K a bC i :=
 Loop.of h
theorem QOY(a:List QD)(left:Int)(hp:bJ (α:=List QD) a left):aK Tryz.prog 57 [(.c (.sl QE) a),(.c TI left)] (rO (bh (α:=List QD) a left)):=by
 refine bz Hj QWG Us 0 0 27 Hi (kc QVM kn) (λK =>
 (aJ (decide ((aG (left-(a.length:Int)))<0)) (K (rO (-1:Int))) (Hk K a (aG (left-(a.length:Int))) 0))) (λhb=>?_)
 exact rl (Q:=λx=>rO x=rO (bh (α:=List QD) a left)) QS hp hb.1.1 (λl i h=>QFm _ a l i h) rfl
theorem QID:Qf Tryz.prog Hi:=Qi λx h=>QOY x.1 x.2.1 h
def Hl(t:bu):aB:=b6 (.a [(aL t.1),(aL t.2)])
def Hm:aI:=Qg 161 [(.a QP)] λx=>(some (bB (α:=bu) x.1),Hl (id (α:=bu) x.1))
def QND:aF:=⟨[],true⟩
def QS9:af :=
 (ag [(.ae [aC 1 (.box 195 0 2),aC 2 (.new 175 (bG QP))]),(.ae [aC 3 (.new 175 (bG QP))]),(.ae [ak 4 1 0,an 5 4 1,ak 6 3 0,aU 6 5 1]),(.ae [ak 7 1 1,an 8 7 1,ak 9 3 1,aU 9 8 1]),(.ae [a8 10 3 2,aU 2 10 2]),.ret])
def QNi:List (bn × Md):=[(.l 2 2 true,.b [.d,.d])]
theorem QTr(a:bu)(hp:bB (α:=bu) a):aK Tryz.prog 161 [(.a [(.c TI a.1),(.c TI a.2)])] (Hl (id (α:=bu) a)):=by
 refine bz QND QS9 QNi 0 0 11 Hm kn (λK =>
 K (Hl a)) (λhb=>?_)
 exact au rfl
theorem QT2:Qf Tryz.prog Hm:=Qi λx h=>QTr x.1 h
def tU(t:(List bu)):aB:=⟨(.r QP 0 0 t.length),[(.sl 175 QP (.dp 0 true []) t)],[],false,[]⟩
def Hn:aI:=Qg 65 [(.c (.sl QP))] λx=>(some (bB (α:=List bu) x.1),tU (id (α:=List bu) x.1))
def Ho:aF:=⟨[Hm],true⟩
def Uu:af :=
 (ag [(ag [(.ae [ab 8 4,ab 9 0,ba 10 9,aw 11 .lss 8 10]),(.cond 11 .skip (.exit 0))]),(.block 1 (.ae [ab 14 3,ab 15 4,ab 16 0,ab 17 4,a0 18 16 17 QP,a8 19 18 2,aD 20 161 [19],a0 21 14 15 QP,aU 21 20 2])),(.ae [ab 12 4,aw 13 .add 12 (aq 1),ab 4 13])])
def Uv:List (Nat × Md):=[(0,.one .d),(3,.one .f),(4,.one .d)]
def Uw:af :=
 (ag [(.ae [ab 22 3,ab 2 22]),.ret])
def QGT:af :=
 (ag [(.ae [ab 2 (.k (.n QP))]),(.ae [ab 5 0,ba 6 5,aC 7 (.mk 175 QP (bG QP) 6),ab 3 7]),(ag [(.ae [ab 4 (aq 0)]),(.block 0 (.loop Uv Uu))]),Uw])
def Ux:List (bn × Md):=[(.t 2,.one (.p 175))]
def Uy:Qb:=TQ 0 0 Ux K
def QIc:Qb:=aY (aO Ho 0 Uw (Uy K)) (Uy K)
def QMy:Qb:=a7 0 (QIc K)
def AN(a:List bu)(i:Int)(out:List bu):Prop:=Loop Ho 0 Uv Uu (QMy K) ⟨[(0,(bg QP a)),(3,(.r QP 0 0 out.length)),(4,(aL i))],[(0,(.sl 175 QP (.dp 0 true []) out))],1⟩
theorem Uz(a:List bu)(i:Int)(out:List bu) (h :
 (aJ (decide (i<(a.length:Int))) (((0<=i/\Int.toNat i<a.length)/\((bB (α:=bu) (ar eF a (Int.toNat i)))/\((0<=i/\Int.toNat i<out.length)/\((0+(Int.toNat i))<out.length))))/\(AN K a (aG (i+1)) (List.take out.length ((out).set (0+(Int.toNat i)) (id (α:=bu) (ar eF a (Int.toNat i))))))) (K (tU (List.take out.length out))))):AN K a i out :=
 Loop.of h
theorem QYM(a:List bu)(hp:bB (α:=List bu) a):aK Tryz.prog 65 [(.c (.sl QP) a)] (tU (id (α:=List bu) a)):=by
 refine bz Ho QGT Ux 0 0 23 Hn (kc QT2 kn) (λK =>
 ((0<=(a.length:Int)/\(a.length:Int)<=ca)/\(AN K a 0 (List.take (Int.toNat (a.length:Int)) (List.replicate (Int.toNat (a.length:Int)) ((0:Int),(0:Int))))))) (λhb=>?_)
 refine⟨⟨by omega,by rw[gS];have:=Ys hp;omega⟩,?_⟩;refine nI a (A:=λii ll=>AN (λr'=>r'=tU (id (α:=List bu) a)) a ii ll) (Q:=λz=>tU z=tU (id (α:=List bu) a)) hp ?_ ?_ rfl
 ·intro k x out aW hg ho hx hA;have hw:aG (((k:Nat):Int)+1)=((k+1:Nat):Int):=by have:=Ys hp;rw[QG (by omega) (by omega)];omega
  have g8:k<out.length:=by omega
  refine Uz _ _ _ _ ?_;refine⟨λ_=>?_,λh=>absurd h (by simp;omega)⟩;simp only[Int.toNat_natCast,Nat.zero_add,hg,hw,aW,g8,nH,List.drop_zero,List.take_length,id_eq,and_true,true_and,Int.natCast_nonneg]
  first | exact hA | exact⟨hx,hA⟩
 ·intro out ho hq;refine Uz _ _ _ _ ?_;refine⟨λh=>absurd h (by simp),λ_=>?_⟩;simp only[List.drop_zero,List.take_length];exact hq
theorem QRB:Qf Tryz.prog Hn:=Qi λx h=>QYM x.1 h
def Hp(t:QD):aB:=⟨(.a [(aL t.1),(.r [(.sl [TI])] 0 0 ((t.2).length))]),[(.sl 106 [(.sl [TI])] (.dp 0 true []) t.2)],[],false,[]⟩
def Hq:aI:=Qg 163 [(.a QE)] λx=>(some (bB (α:=QD) x.1),Hp (id (α:=QD) x.1))
def QP3:aF:=⟨[xw],true⟩
def QKx:af :=
 (ag [(.ae [aC 1 (.box 187 0 2),aC 2 (.new 108 (bG QE))]),(.ae [aC 3 (.new 108 (bG QE))]),(.ae [ak 4 1 0,an 5 4 1,ak 6 3 0,aU 6 5 1]),(.ae [ak 7 1 1,an 8 7 1,aD 9 68 [8],ak 10 3 1,aU 10 9 1]),(.ae [a8 11 3 2,aU 2 11 2]),.ret])
def QUX:List (bn × Md):=[(.l 2 2 true,.b [.d,.p 106])]
theorem QVK(a:QD)(hp:bB (α:=QD) a):aK Tryz.prog 163 [(.a [(.c TI a.1),(.c (.sl [(.sl [TI])]) a.2)])] (Hp (id (α:=QD) a)):=by
 refine bz QP3 QKx QUX 0 0 12 Hq (kc GV kn) (λK =>
 ((bB (α:=List (List Int)) a.2)/\K (Hp (a.1,(List.take ((id (α:=List (List Int)) a.2).length) (id (α:=List (List Int)) a.2)))))) (λhb=>?_)
 repeat' (first | refine And.intro ?_ ?_ | exact au (by simp))
 all_goals (simp only[bB,QR,QL,QY,List.drop_zero,List.take_length,id_eq]at hp ⊢;omega)
theorem QVq:Qf Tryz.prog Hq:=Qi λx h=>QVK x.1 h
def tV(t:(List QD)):aB:=⟨(.r QE 0 0 t.length),[(.sl 108 QE (.dp 0 true []) t)],[],false,[]⟩
def Hr:aI:=Qg 67 [(.c (.sl QE))] λx=>(some (bB (α:=List QD) x.1),tV (id (α:=List QD) x.1))
def Hs:aF:=⟨[Hq],true⟩
def UA:af :=
 (ag [(ag [(.ae [ab 8 4,ab 9 0,ba 10 9,aw 11 .lss 8 10]),(.cond 11 .skip (.exit 0))]),(.block 1 (.ae [ab 14 3,ab 15 4,ab 16 0,ab 17 4,a0 18 16 17 QE,a8 19 18 2,aD 20 163 [19],a0 21 14 15 QE,aU 21 20 2])),(.ae [ab 12 4,aw 13 .add 12 (aq 1),ab 4 13])])
def UB:List (Nat × Md):=[(0,.one .d),(3,.one .f),(4,.one .d)]
def UC:af :=
 (ag [(.ae [ab 22 3,ab 2 22]),.ret])
def QUm:af :=
 (ag [(.ae [ab 2 (.k (.n QE))]),(.ae [ab 5 0,ba 6 5,aC 7 (.mk 108 QE (bG QE) 6),ab 3 7]),(ag [(.ae [ab 4 (aq 0)]),(.block 0 (.loop UB UA))]),UC])
def UD:List (bn × Md):=[(.t 2,.one (.p 108))]
def UE:Qb:=TQ 0 0 UD K
def QHE:Qb:=aY (aO Hs 0 UC (UE K)) (UE K)
def QTH:Qb:=a7 0 (QHE K)
def AP(a:List QD)(i:Int)(out:List QD):Prop:=Loop Hs 0 UB UA (QTH K) ⟨[(0,(bg QE a)),(3,(.r QE 0 0 out.length)),(4,(aL i))],[(0,(.sl 108 QE (.dp 0 true []) out))],1⟩
theorem UF(a:List QD)(i:Int)(out:List QD) (h :
 (aJ (decide (i<(a.length:Int))) (((0<=i/\Int.toNat i<a.length)/\((bB (α:=QD) (ar QS a (Int.toNat i)))/\((0<=i/\Int.toNat i<out.length)/\((0+(Int.toNat i))<out.length))))/\(AP K a (aG (i+1)) (List.take out.length ((out).set (0+(Int.toNat i)) ((id (α:=QD) (ar QS a (Int.toNat i))).1,(List.take (((id (α:=QD) (ar QS a (Int.toNat i))).2).length) (List.drop 0 ((id (α:=QD) (ar QS a (Int.toNat i))).2)))))))) (K (tV (List.take out.length out))))):AP K a i out :=
 Loop.of h
theorem QXE(a:List QD)(hp:bB (α:=List QD) a):aK Tryz.prog 67 [(.c (.sl QE) a)] (tV (id (α:=List QD) a)):=by
 refine bz Hs QUm UD 0 0 23 Hr (kc QVq kn) (λK =>
 ((0<=(a.length:Int)/\(a.length:Int)<=ca)/\(AP K a 0 (List.take (Int.toNat (a.length:Int)) (List.replicate (Int.toNat (a.length:Int)) ((0:Int),[])))))) (λhb=>?_)
 refine⟨⟨by omega,by rw[gS];have:=Ys hp;omega⟩,?_⟩;refine nI a (A:=λii ll=>AP (λr'=>r'=tV (id (α:=List QD) a)) a ii ll) (Q:=λz=>tV z=tV (id (α:=List QD) a)) hp ?_ ?_ rfl
 ·intro k x out aW hg ho hx hA;have hw:aG (((k:Nat):Int)+1)=((k+1:Nat):Int):=by have:=Ys hp;rw[QG (by omega) (by omega)];omega
  have g8:k<out.length:=by omega
  refine UF _ _ _ _ ?_;refine⟨λ_=>?_,λh=>absurd h (by simp;omega)⟩;simp only[Int.toNat_natCast,Nat.zero_add,hg,hw,aW,g8,nH,List.drop_zero,List.take_length,id_eq,and_true,true_and,Int.natCast_nonneg]
  first | exact hA | exact⟨hx,hA⟩
 ·intro out ho hq;refine UF _ _ _ _ ?_;refine⟨λh=>absurd h (by simp),λ_=>?_⟩;simp only[List.drop_zero,List.take_length];exact hq
theorem QO8:Qf Tryz.prog Hr:=Qi λx h=>QXE x.1 h
def xA(t:Bool):aB:=b6 (bE t)
def Ht:aI:=Qg 171 [(.a QP),(.a QP)] λx=>(none,xA (aZ (α:=bu) x.1 x.2.1))
def QFA:aF:=⟨[],false⟩
def QKP:af :=
 (ag [(.ae [aC 2 (.box 175 0 2),aC 3 (.box 175 1 2),ab 4 (a6 false)]),(ag [(.ae [ak 5 2 0,an 6 5 1,ak 7 3 0,an 8 7 1,aw 9 .neq 6 8]),(.cond 9 (ag [(.ae [ab 4 (a6 false)]),.ret]) .skip)]),(ag [(.ae [ak 10 2 1,an 11 10 1,ak 12 3 1,an 13 12 1,aw 14 .neq 11 13]),(.cond 14 (ag [(.ae [ab 4 (a6 false)]),.ret]) .skip)]),(.ae [ab 4 (a6 true)]),.ret])
def QOb:List (bn × Md):=[(.t 4,.one .d)]
theorem QLv(a:bu)(b:bu):aK Tryz.prog 171 [(.a [(.c TI a.1),(.c TI a.2)]),(.a [(.c TI b.1),(.c TI b.2)])] (xA (aZ (α:=bu) a b)):=by
 refine bz QFA QKP QOb 0 0 15 Ht kn (λK =>
 (aJ (a.1 != b.1) (K (xA false)) (aJ (a.2 != b.2) (K (xA false)) (K (xA true))))) (λhb=>?_)
 refine⟨λh=>au (Eq.symm (decide_eq_false (by rintro rfl;simp[aZ]at h))),λh0=>?_⟩;refine⟨λh=>au (Eq.symm (decide_eq_false (by rintro rfl;simp[aZ]at h))),λh1=>?_⟩;refine au (Eq.symm (decide_eq_true ?_));simp[aZ]at h0 h1;simp[Prod.ext_iff, *]
theorem QKc:Qf Tryz.prog Ht:=Qi λx _=>QLv x.1 x.2.1
def rP(t:Bool):aB:=b6 (bE t)
def Hu:aI:=Qg 75 [(.c (.sl QP)),(.c (.sl QP))] λx=>(none,rP (aZ (α:=List bu) x.1 x.2.1))
def Hv:aF:=⟨[Ht],false⟩
def UG:af :=
 (ag [(ag [(.ae [ab 11 5,ab 12 0,ba 13 12,aw 14 .lss 11 13]),(.cond 14 .skip (.exit 0))]),(.block 1 (ag [(.draw [ab 17 0,ab 18 5,a0 19 17 18 QP,a8 20 19 2,ab 21 1,ab 22 5,a0 23 21 22 QP,a8 24 23 2,aD 25 171 [20,24],bL 26 25] []),(.cond 26 (ag [(.ae [ab 4 (a6 false)]),.ret]) .skip)])),(.ae [ab 15 5,aw 16 .add 15 (aq 1),ab 5 16])])
def UH:List (Nat × Md):=eV [0,1,5]
def UI:af :=
 (ag [(.ae [ab 4 (a6 true)]),.ret])
def QPT:af :=
 (ag [(.ae [ab 4 (a6 false)]),(ag [(.ae [ab 6 0,ba 7 6,ab 8 1,ba 9 8,aw 10 .neq 7 9]),(.cond 10 (ag [(.ae [ab 4 (a6 false)]),.ret]) .skip)]),(ag [(.ae [ab 5 (aq 0)]),(.block 0 (.loop UH UG))]),UI])
def UJ:List (bn × Md):=[(.t 4,.one .d)]
def UK:Qb:=TQ 0 0 UJ K
def QOB:Qb:=aY (aO Hv 0 UI (UK K)) (UK K)
def QXy:Qb:=a7 0 (QOB K)
def Hw(a:List bu)(b:List bu)(i:Int):Prop:=Loop Hv 0 UH UG (QXy K) ⟨[(0,(bg QP a)),(1,(bg QP b)),(5,(aL i))],[],0⟩
theorem QHI(a:List bu)(b:List bu)(i:Int) (h :
 (aJ (decide (i<(a.length:Int))) (((0<=i/\Int.toNat i<a.length)/\(0<=i/\Int.toNat i<b.length))/\(aJ (!(aZ (α:=bu) (ar eF a (Int.toNat i)) (ar eF b (Int.toNat i)))) (K (rP false)) (Hw K a b (aG (i+1))))) (K (rP true)))):Hw K a b i :=
 Loop.of h
theorem QHM(a:List bu)(b:List bu):aK Tryz.prog 75 [(.c (.sl QP) a),(.c (.sl QP) b)] (rP (aZ (α:=List bu) a b)):=by
 refine bz Hv QPT UJ 0 0 27 Hu (kc QKc kn) (λK =>
 (aJ ((a.length:Int) != (b.length:Int)) (K (rP false)) (Hw K a b 0))) (λhb=>?_)
 exact J2 eF (E:=aZ) (λ_ _=>rfl) hb.1.1 (λi h=>QHI _ a b i h) (Q:=λx=>rP x=rP (aZ (α:=List bu) a b)) rfl
theorem QRn:Qf Tryz.prog Hu:=Qi λx _=>QHM x.1 x.2.1
def xB(t:Bool):aB:=b6 (bE t)
def Hx:aI:=Qg 173 [(.a QE),(.a QE)] λx=>(none,xB (aZ (α:=QD) x.1 x.2.1))
def QRj:aF:=⟨[xy],false⟩
def QW7:af :=
 (ag [(.ae [aC 2 (.box 108 0 2),aC 3 (.box 108 1 2),ab 4 (a6 false)]),(ag [(.ae [ak 5 2 0,an 6 5 1,ak 7 3 0,an 8 7 1,aw 9 .neq 6 8]),(.cond 9 (ag [(.ae [ab 4 (a6 false)]),.ret]) .skip)]),(ag [(.ae [ak 10 2 1,an 11 10 1,ak 12 3 1,an 13 12 1,aD 14 78 [11,13],bL 15 14]),(.cond 15 (ag [(.ae [ab 4 (a6 false)]),.ret]) .skip)]),(.ae [ab 4 (a6 true)]),.ret])
def QQQ:List (bn × Md):=[(.t 4,.one .d)]
theorem QRq(a:QD)(b:QD):aK Tryz.prog 173 [(.a [(.c TI a.1),(.c (.sl [(.sl [TI])]) a.2)]),(.a [(.c TI b.1),(.c (.sl [(.sl [TI])]) b.2)])] (xB (aZ (α:=QD) a b)):=by
 refine bz QRj QW7 QQQ 0 0 16 Hx (kc G9 kn) (λK =>
 (aJ (a.1 != b.1) (K (xB false)) (aJ (!(aZ (α:=List (List Int)) a.2 b.2)) (K (xB false)) (K (xB true))))) (λhb=>?_)
 refine⟨λh=>au (Eq.symm (decide_eq_false (by rintro rfl;simp[aZ]at h))),λh0=>?_⟩;refine⟨λh=>au (Eq.symm (decide_eq_false (by rintro rfl;simp[aZ]at h))),λh1=>?_⟩;refine au (Eq.symm (decide_eq_true ?_));simp[aZ]at h0 h1;simp[Prod.ext_iff, *]
theorem QJC:Qf Tryz.prog Hx:=Qi λx _=>QRq x.1 x.2.1
def rQ(t:Bool):aB:=b6 (bE t)
def Hy:aI:=Qg 77 [(.c (.sl QE)),(.c (.sl QE))] λx=>(none,rQ (aZ (α:=List QD) x.1 x.2.1))
def Hz:aF:=⟨[Hx],false⟩
def UL:af :=
 (ag [(ag [(.ae [ab 11 5,ab 12 0,ba 13 12,aw 14 .lss 11 13]),(.cond 14 .skip (.exit 0))]),(.block 1 (ag [(.draw [ab 17 0,ab 18 5,a0 19 17 18 QE,a8 20 19 2,ab 21 1,ab 22 5,a0 23 21 22 QE,a8 24 23 2,aD 25 173 [20,24],bL 26 25] []),(.cond 26 (ag [(.ae [ab 4 (a6 false)]),.ret]) .skip)])),(.ae [ab 15 5,aw 16 .add 15 (aq 1),ab 5 16])])
def UM:List (Nat × Md):=eV [0,1,5]
def UN:af :=
 (ag [(.ae [ab 4 (a6 true)]),.ret])
def QQ1:af :=
 (ag [(.ae [ab 4 (a6 false)]),(ag [(.ae [ab 6 0,ba 7 6,ab 8 1,ba 9 8,aw 10 .neq 7 9]),(.cond 10 (ag [(.ae [ab 4 (a6 false)]),.ret]) .skip)]),(ag [(.ae [ab 5 (aq 0)]),(.block 0 (.loop UM UL))]),UN])
def UO:List (bn × Md):=[(.t 4,.one .d)]
def UP:Qb:=TQ 0 0 UO K
def QTA:Qb:=aY (aO Hz 0 UN (UP K)) (UP K)
def QKT:Qb:=a7 0 (QTA K)
def HA(a:List QD)(b:List QD)(i:Int):Prop:=Loop Hz 0 UM UL (QKT K) ⟨[(0,(bg QE a)),(1,(bg QE b)),(5,(aL i))],[],0⟩
theorem QVf(a:List QD)(b:List QD)(i:Int) (h :
 (aJ (decide (i<(a.length:Int))) (((0<=i/\Int.toNat i<a.length)/\(0<=i/\Int.toNat i<b.length))/\(aJ (!(aZ (α:=QD) (ar QS a (Int.toNat i)) (ar QS b (Int.toNat i)))) (K (rQ false)) (HA K a b (aG (i+1))))) (K (rQ true)))):HA K a b i :=
 Loop.of h
theorem QJO(a:List QD)(b:List QD):aK Tryz.prog 77 [(.c (.sl QE) a),(.c (.sl QE) b)] (rQ (aZ (α:=List QD) a b)):=by
 refine bz Hz QQ1 UO 0 0 27 Hy (kc QJC kn) (λK =>
 (aJ ((a.length:Int) != (b.length:Int)) (K (rQ false)) (HA K a b 0))) (λhb=>?_)
 exact J2 QS (E:=aZ) (λ_ _=>rfl) hb.1.1 (λi h=>QVf _ a b i h) (Q:=λx=>rQ x=rQ (aZ (α:=List QD) a b)) rfl
theorem QRY:Qf Tryz.prog Hy:=Qi λx _=>QJO x.1 x.2.1
def AQ(t:Int):aB:=b6 (aL t)
def HC:aI:=Qg 152 [(.a aM),(.c TI)] λx=>(some (bJ (α:=aH) x.1 x.2.1),AQ (bh (α:=aH) x.1 x.2.1))
def QJg:aF:=⟨[rG],false⟩
def QIb:af :=
 (ag [(.ae [aC 2 (.box 184 0 4),ab 4 (aq 0)]),(.ae [ak 5 2 3,an 6 5 1,ab 7 1,aD 8 59 [6,7],ab 1 8]),(ag [(.ae [ab 9 1,aw 10 .lss 9 (aq 0)]),(.cond 10 (ag [(.ae [ab 4 (aq (-1))]),.ret]) .skip)]),(.ae [ab 11 1,ab 4 11]),.ret])
def QPO:List (bn × Md):=[(.t 4,.one .d)]
theorem QTR(a:aH)(left:Int)(hp:bJ (α:=aH) a left):aK Tryz.prog 152 [(.a (aS.cells aM a)),(.c TI left)] (AQ (bh (α:=aH) a left)):=by
 refine bz QJg QIb QPO 0 0 12 HC (kc xq kn) (λK =>
 ((bJ (α:=List Int) a.2.2.2 left)/\(aJ (decide ((bh (α:=List Int) a.2.2.2 left)<0)) (K (AQ (-1:Int))) (K (AQ (bh (α:=List Int) a.2.2.2 left)))))) (λhb=>?_)
 refine⟨hp,λh=>au (Z2 (of_decide_eq_true h) (by first | omega | (simp only[QR,QL,QY];omega)) hp.1),λh=>?_⟩;exact au (congrArg (Yb · _) (by first | rfl | omega | (simp only[QR,QL,QY];omega)))
theorem QLd:Qf Tryz.prog HC:=Qi λx h=>QTR x.1 x.2.1 h
def rR(t:Int):aB:=b6 (aL t)
def HD:aI:=Qg 56 [(.c (.sl aM)),(.c TI)] λx=>(some (bJ (α:=List aH) x.1 x.2.1),rR (bh (α:=List aH) x.1 x.2.1))
def HE:aF:=⟨[HC],false⟩
def UQ:af :=
 (ag [(ag [(.ae [ab 12 5,ab 13 0,ba 14 13,aw 15 .lss 12 14]),(.cond 15 .skip (.exit 0))]),(.block 1 (ag [(.ae [ab 18 0,ab 19 5,a0 20 18 19 aM,a8 21 20 4,ab 22 1,aD 23 152 [21,22],ab 1 23]),(.ae [ab 24 1,aw 25 .lss 24 (aq 0)]),(.cond 25 (ag [(.ae [ab 4 (aq (-1))]),.ret]) .skip)])),(.ae [ab 16 5,aw 17 .add 16 (aq 1),ab 5 17])])
def UR:List (Nat × Md):=eV [0,1,5]
def US:af :=
 (ag [(.ae [ab 26 1,ab 4 26]),.ret])
def QLJ:af :=
 (ag [(.ae [ab 4 (aq 0)]),(.ae [ab 6 1,ab 7 0,ba 8 7,aw 9 .sub 6 8,ab 1 9]),(ag [(.ae [ab 10 1,aw 11 .lss 10 (aq 0)]),(.cond 11 (ag [(.ae [ab 4 (aq (-1))]),.ret]) .skip)]),(ag [(.ae [ab 5 (aq 0)]),(.block 0 (.loop UR UQ))]),US])
def UT:List (bn × Md):=[(.t 4,.one .d)]
def UU:Qb:=TQ 0 0 UT K
def QQu:Qb:=aY (aO HE 0 US (UU K)) (UU K)
def QVz:Qb:=a7 0 (QQu K)
def HF(a:List aH)(bC:Int)(i:Int):Prop:=Loop HE 0 UR UQ (QVz K) ⟨[(0,(bg aM a)),(1,(aL bC)),(5,(aL i))],[],0⟩
theorem QHl(a:List aH)(bC:Int)(i:Int) (h :
 (aJ (decide (i<(a.length:Int))) (((0<=i/\Int.toNat i<a.length)/\(bJ (α:=aH) (ar b5 a (Int.toNat i)) bC))/\(aJ (decide ((bh (α:=aH) (ar b5 a (Int.toNat i)) bC)<0)) (K (rR (-1:Int))) (HF K a (bh (α:=aH) (ar b5 a (Int.toNat i)) bC) (aG (i+1))))) (K (rR bC)))):HF K a bC i :=
 Loop.of h
theorem QGY(a:List aH)(left:Int)(hp:bJ (α:=List aH) a left):aK Tryz.prog 56 [(.c (.sl aM) a),(.c TI left)] (rR (bh (α:=List aH) a left)):=by
 refine bz HE QLJ UT 0 0 27 HD (kc QLd kn) (λK =>
 (aJ (decide ((aG (left-(a.length:Int)))<0)) (K (rR (-1:Int))) (HF K a (aG (left-(a.length:Int))) 0))) (λhb=>?_)
 exact rl (Q:=λx=>rR x=rR (bh (α:=List aH) a left)) b5 hp hb.1.1 (λl i h=>QHl _ a l i h) rfl
theorem QQ9:Qf Tryz.prog HD:=Qi λx h=>QGY x.1 x.2.1 h
def HG(t:aH):aB:=⟨(.a [(aL t.1),(aL t.2.1),(aL t.2.2.1),(.r [TI] 0 0 ((t.2.2.2).length))]),[(.sl 3 [TI] (.dp 0 true []) t.2.2.2)],[],false,[]⟩
def HI:aI:=Qg 162 [(.a aM)] λx=>(some (bB (α:=aH) x.1),HG (id (α:=aH) x.1))
def QVn:aF:=⟨[rJ],true⟩
def QS7:af :=
 (ag [(.ae [aC 1 (.box 184 0 4),aC 2 (.new 134 (bG aM))]),(.ae [aC 3 (.new 134 (bG aM))]),(.ae [ak 4 1 0,an 5 4 1,ak 6 3 0,aU 6 5 1]),(.ae [ak 7 1 1,an 8 7 1,ak 9 3 1,aU 9 8 1]),(.ae [ak 10 1 2,an 11 10 1,ak 12 3 2,aU 12 11 1]),(.ae [ak 13 1 3,an 14 13 1,aD 15 29 [14],ak 16 3 3,aU 16 15 1]),(.ae [a8 17 3 4,aU 2 17 4]),.ret])
def QFP:List (bn × Md):=[(.l 2 4 true,.b [.d,.d,.d,.p 3])]
theorem QFL(a:aH)(hp:bB (α:=aH) a):aK Tryz.prog 162 [(.a (aS.cells aM a))] (HG (id (α:=aH) a)):=by
 refine bz QVn QS7 QFP 0 0 18 HI (kc xu kn) (λK =>
 ((bB (α:=List Int) a.2.2.2)/\K (HG (a.1,a.2.1,a.2.2.1,(List.take ((id (α:=List Int) a.2.2.2).length) (id (α:=List Int) a.2.2.2)))))) (λhb=>?_)
 repeat' (first | refine And.intro ?_ ?_ | exact au (by simp))
 all_goals (simp only[bB,QR,QL,QY,List.drop_zero,List.take_length,id_eq]at hp ⊢;omega)
theorem QS8:Qf Tryz.prog HI:=Qi λx h=>QFL x.1 h
def tW(t:(List aH)):aB:=⟨(.r aM 0 0 t.length),[(.sl 134 aM (.dp 0 true []) t)],[],false,[]⟩
def HJ:aI:=Qg 66 [(.c (.sl aM))] λx=>(some (bB (α:=List aH) x.1),tW (id (α:=List aH) x.1))
def HK:aF:=⟨[HI],true⟩
def UW:af :=
 (ag [(ag [(.ae [ab 8 4,ab 9 0,ba 10 9,aw 11 .lss 8 10]),(.cond 11 .skip (.exit 0))]),(.block 1 (.ae [ab 14 3,ab 15 4,ab 16 0,ab 17 4,a0 18 16 17 aM,a8 19 18 4,aD 20 162 [19],a0 21 14 15 aM,aU 21 20 4])),(.ae [ab 12 4,aw 13 .add 12 (aq 1),ab 4 13])])
def UX:List (Nat × Md):=[(0,.one .d),(3,.one .f),(4,.one .d)]
def UY:af :=
 (ag [(.ae [ab 22 3,ab 2 22]),.ret])
def QS5:af :=
 (ag [(.ae [ab 2 (.k (.n aM))]),(.ae [ab 5 0,ba 6 5,aC 7 (.mk 134 aM (bG aM) 6),ab 3 7]),(ag [(.ae [ab 4 (aq 0)]),(.block 0 (.loop UX UW))]),UY])
def UZ:List (bn × Md):=[(.t 2,.one (.p 134))]
def U0:Qb:=TQ 0 0 UZ K
def QUp:Qb:=aY (aO HK 0 UY (U0 K)) (U0 K)
def QHm:Qb:=a7 0 (QUp K)
def AR(a:List aH)(i:Int)(out:List aH):Prop:=Loop HK 0 UX UW (QHm K) ⟨[(0,(bg aM a)),(3,(.r aM 0 0 out.length)),(4,(aL i))],[(0,(.sl 134 aM (.dp 0 true []) out))],1⟩
theorem U1(a:List aH)(i:Int)(out:List aH) (h :
 (aJ (decide (i<(a.length:Int))) (((0<=i/\Int.toNat i<a.length)/\((bB (α:=aH) (ar b5 a (Int.toNat i)))/\((0<=i/\Int.toNat i<out.length)/\((0+(Int.toNat i))<out.length))))/\(AR K a (aG (i+1)) (List.take out.length ((out).set (0+(Int.toNat i)) ((id (α:=aH) (ar b5 a (Int.toNat i))).1,(id (α:=aH) (ar b5 a (Int.toNat i))).2.1,(id (α:=aH) (ar b5 a (Int.toNat i))).2.2.1,(List.take (((id (α:=aH) (ar b5 a (Int.toNat i))).2.2.2).length) (List.drop 0 ((id (α:=aH) (ar b5 a (Int.toNat i))).2.2.2)))))))) (K (tW (List.take out.length out))))):AR K a i out :=
 Loop.of h
theorem QFn(a:List aH)(hp:bB (α:=List aH) a):aK Tryz.prog 66 [(.c (.sl aM) a)] (tW (id (α:=List aH) a)):=by
 refine bz HK QS5 UZ 0 0 23 HJ (kc QS8 kn) (λK =>
 ((0<=(a.length:Int)/\(a.length:Int)<=ca)/\(AR K a 0 (List.take (Int.toNat (a.length:Int)) (List.replicate (Int.toNat (a.length:Int)) ((0:Int),(0:Int),(0:Int),[])))))) (λhb=>?_)
 refine⟨⟨by omega,by rw[gS];have:=Ys hp;omega⟩,?_⟩;refine nI a (A:=λii ll=>AR (λr'=>r'=tW (id (α:=List aH) a)) a ii ll) (Q:=λz=>tW z=tW (id (α:=List aH) a)) hp ?_ ?_ rfl
 ·intro k x out aW hg ho hx hA;have hw:aG (((k:Nat):Int)+1)=((k+1:Nat):Int):=by have:=Ys hp;rw[QG (by omega) (by omega)];omega
  have g8:k<out.length:=by omega
  refine U1 _ _ _ _ ?_;refine⟨λ_=>?_,λh=>absurd h (by simp;omega)⟩;simp only[Int.toNat_natCast,Nat.zero_add,hg,hw,aW,g8,nH,List.drop_zero,List.take_length,id_eq,and_true,true_and,Int.natCast_nonneg]
  first | exact hA | exact⟨hx,hA⟩
 ·intro out ho hq;refine U1 _ _ _ _ ?_;refine⟨λh=>absurd h (by simp),λ_=>?_⟩;simp only[List.drop_zero,List.take_length];exact hq
theorem QPB:Qf Tryz.prog HJ:=Qi λx h=>QFn x.1 h
def rS(t:Bool):aB:=b6 (bE t)
def HL:aI:=Qg 172 [(.a aM),(.a aM)] λx=>(none,rS (aZ (α:=aH) x.1 x.2.1))
def QHN:aF:=⟨[rL],false⟩
def QPk:af :=
 (ag [(.ae [aC 2 (.box 134 0 4),aC 3 (.box 134 1 4),ab 4 (a6 false)]),(ag [(.ae [ak 5 2 0,an 6 5 1,ak 7 3 0,an 8 7 1,aw 9 .neq 6 8]),(.cond 9 (ag [(.ae [ab 4 (a6 false)]),.ret]) .skip)]),(ag [(.ae [ak 10 2 1,an 11 10 1,ak 12 3 1,an 13 12 1,aw 14 .neq 11 13]),(.cond 14 (ag [(.ae [ab 4 (a6 false)]),.ret]) .skip)]),(ag [(.ae [ak 15 2 2,an 16 15 1,ak 17 3 2,an 18 17 1,aw 19 .neq 16 18]),(.cond 19 (ag [(.ae [ab 4 (a6 false)]),.ret]) .skip)]),(ag [(.ae [ak 20 2 3,an 21 20 1,ak 22 3 3,an 23 22 1,aD 24 23 [21,23],bL 25 24]),(.cond 25 (ag [(.ae [ab 4 (a6 false)]),.ret]) .skip)]),(.ae [ab 4 (a6 true)]),.ret])
def QI1:List (bn × Md):=[(.t 4,.one .d)]
theorem QMY(a:aH)(b:aH):aK Tryz.prog 172 [(.a (aS.cells aM a)),(.a (aS.cells aM b))] (rS (aZ (α:=aH) a b)):=by
 refine bz QHN QPk QI1 0 0 26 HL (kc xx kn) (λK =>
 (aJ (a.1 != b.1) (K (rS false)) (aJ (a.2.1 != b.2.1) (K (rS false)) (aJ (a.2.2.1 != b.2.2.1) (K (rS false)) (aJ (!(aZ (α:=List Int) a.2.2.2 b.2.2.2)) (K (rS false)) (K (rS true))))))) (λhb=>?_)
 refine⟨λh=>au (Eq.symm (decide_eq_false (by rintro rfl;simp[aZ]at h))),λh0=>?_⟩;refine⟨λh=>au (Eq.symm (decide_eq_false (by rintro rfl;simp[aZ]at h))),λh1=>?_⟩;refine⟨λh=>au (Eq.symm (decide_eq_false (by rintro rfl;simp[aZ]at h))),λh2=>?_⟩;refine⟨λh=>au (Eq.symm (decide_eq_false (by rintro rfl;simp[aZ]at h))),λh3=>?_⟩;refine au (Eq.symm (decide_eq_true ?_));simp[aZ]at h0 h1 h2 h3;simp[Prod.ext_iff, *]
theorem QQM:Qf Tryz.prog HL:=Qi λx _=>QMY x.1 x.2.1
def rT(t:Bool):aB:=b6 (bE t)
def HM:aI:=Qg 76 [(.c (.sl aM)),(.c (.sl aM))] λx=>(none,rT (aZ (α:=List aH) x.1 x.2.1))
def HN:aF:=⟨[HL],false⟩
def U2:af :=
 (ag [(ag [(.ae [ab 11 5,ab 12 0,ba 13 12,aw 14 .lss 11 13]),(.cond 14 .skip (.exit 0))]),(.block 1 (ag [(.draw [ab 17 0,ab 18 5,a0 19 17 18 aM,a8 20 19 4,ab 21 1,ab 22 5,a0 23 21 22 aM,a8 24 23 4,aD 25 172 [20,24],bL 26 25] []),(.cond 26 (ag [(.ae [ab 4 (a6 false)]),.ret]) .skip)])),(.ae [ab 15 5,aw 16 .add 15 (aq 1),ab 5 16])])
def U3:List (Nat × Md):=eV [0,1,5]
def U4:af :=
 (ag [(.ae [ab 4 (a6 true)]),.ret])
def QI2:af :=
 (ag [(.ae [ab 4 (a6 false)]),(ag [(.ae [ab 6 0,ba 7 6,ab 8 1,ba 9 8,aw 10 .neq 7 9]),(.cond 10 (ag [(.ae [ab 4 (a6 false)]),.ret]) .skip)]),(ag [(.ae [ab 5 (aq 0)]),(.block 0 (.loop U3 U2))]),U4])
def U5:List (bn × Md):=[(.t 4,.one .d)]
def U6:Qb:=TQ 0 0 U5 K
def QSa:Qb:=aY (aO HN 0 U4 (U6 K)) (U6 K)
def QIP:Qb:=a7 0 (QSa K)
def HO(a:List aH)(b:List aH)(i:Int):Prop:=Loop HN 0 U3 U2 (QIP K) ⟨[(0,(bg aM a)),(1,(bg aM b)),(5,(aL i))],[],0⟩
theorem QV0(a:List aH)(b:List aH)(i:Int) (h :
 (aJ (decide (i<(a.length:Int))) (((0<=i/\Int.toNat i<a.length)/\(0<=i/\Int.toNat i<b.length))/\(aJ (!(aZ (α:=aH) (ar b5 a (Int.toNat i)) (ar b5 b (Int.toNat i)))) (K (rT false)) (HO K a b (aG (i+1))))) (K (rT true)))):HO K a b i :=
 Loop.of h
theorem QGd(a:List aH)(b:List aH):aK Tryz.prog 76 [(.c (.sl aM) a),(.c (.sl aM) b)] (rT (aZ (α:=List aH) a b)):=by
 refine bz HN QI2 U5 0 0 27 HM (kc QQM kn) (λK =>
 (aJ ((a.length:Int) != (b.length:Int)) (K (rT false)) (HO K a b 0))) (λhb=>?_)
 exact J2 b5 (E:=aZ) (λ_ _=>rfl) hb.1.1 (λi h=>QV0 _ a b i h) (Q:=λx=>rT x=rT (aZ (α:=List aH) a b)) rfl
theorem QXC:Qf Tryz.prog HM:=Qi λx _=>QGd x.1 x.2.1
def Jt(t:Int):aB:=b6 (aL t)
def HP:aI:=Qg 12 [(.a Qe),(.c TI)] λx=>(some (bJ (α:=Qc) x.1 x.2.1),Jt (bh (α:=Qc) x.1 x.2.1))
def QHb:aF:=⟨[Hg,HD,Hi,xr,rG,GL],false⟩
def QQX:af :=
 (ag [(.ae [aC 2 (.box 30 0 14),ab 4 (aq 0)]),(.ae [ak 5 2 1,an 6 5 1,ab 7 1,aD 8 55 [6,7],ab 1 8]),(ag [(.ae [ab 9 1,aw 10 .lss 9 (aq 0)]),(.cond 10 (ag [(.ae [ab 4 (aq (-1))]),.ret]) .skip)]),(.ae [ak 11 2 2,an 12 11 1,ab 13 1,aD 14 56 [12,13],ab 1 14]),(ag [(.ae [ab 15 1,aw 16 .lss 15 (aq 0)]),(.cond 16 (ag [(.ae [ab 4 (aq (-1))]),.ret]) .skip)]),(.ae [ak 17 2 5,an 18 17 1,ab 19 1,aD 20 57 [18,19],ab 1 20]),(ag [(.ae [ab 21 1,aw 22 .lss 21 (aq 0)]),(.cond 22 (ag [(.ae [ab 4 (aq (-1))]),.ret]) .skip)]),(.ae [ak 23 2 6,an 24 23 1,ab 25 1,aD 26 58 [24,25],ab 1 26]),(ag [(.ae [ab 27 1,aw 28 .lss 27 (aq 0)]),(.cond 28 (ag [(.ae [ab 4 (aq (-1))]),.ret]) .skip)]),(.ae [ak 29 2 7,an 30 29 1,ab 31 1,aD 32 59 [30,31],ab 1 32]),(ag [(.ae [ab 33 1,aw 34 .lss 33 (aq 0)]),(.cond 34 (ag [(.ae [ab 4 (aq (-1))]),.ret]) .skip)]),(.ae [ak 35 2 8,an 36 35 1,ab 37 1,aD 38 59 [36,37],ab 1 38]),(ag [(.ae [ab 39 1,aw 40 .lss 39 (aq 0)]),(.cond 40 (ag [(.ae [ab 4 (aq (-1))]),.ret]) .skip)]),(.ae [ak 41 2 9,an 42 41 1,ab 43 1,aD 44 59 [42,43],ab 1 44]),(ag [(.ae [ab 45 1,aw 46 .lss 45 (aq 0)]),(.cond 46 (ag [(.ae [ab 4 (aq (-1))]),.ret]) .skip)]),(.ae [ak 47 2 10,an 48 47 1,ab 49 1,aD 50 59 [48,49],ab 1 50]),(ag [(.ae [ab 51 1,aw 52 .lss 51 (aq 0)]),(.cond 52 (ag [(.ae [ab 4 (aq (-1))]),.ret]) .skip)]),(.ae [ak 53 2 11,a8 54 53 3,ab 55 1,aD 56 60 [54,55],ab 1 56]),(ag [(.ae [ab 57 1,aw 58 .lss 57 (aq 0)]),(.cond 58 (ag [(.ae [ab 4 (aq (-1))]),.ret]) .skip)]),(.ae [ab 59 1,ab 4 59]),.ret])
def QGc:List (bn × Md):=[(.t 4,.one .d)]
theorem QFa(a:Qc)(left:Int)(hp:bJ (α:=Qc) a left):aK Tryz.prog 12 [(.a (aS.cells Qe a)),(.c TI left)] (Jt (bh (α:=Qc) a left)):=by
 refine bz QHb QQX QGc 0 0 60 HP (kc QTG (kc QQ9 (kc QID (kc GK (kc xq (kc QVS kn)))))) (λK =>
 let z8:=bh (α:=List bu) a.2.1 left
 let z5:=bh (α:=List aH) a.2.2.1 z8
 let z3:=bh (α:=List QD) a.2.2.2.2.2.1 z5
 let z6:=bh (α:=List (List Int)) a.2.2.2.2.2.2.1 z3
 let z1:=bh (α:=List Int) a.2.2.2.2.2.2.2.1 z6
 let z7:=bh (α:=List Int) a.2.2.2.2.2.2.2.2.1 z1
 let z2:=bh (α:=List Int) a.2.2.2.2.2.2.2.2.2.1 z7
 let z4:=bh (α:=List Int) a.2.2.2.2.2.2.2.2.2.2.1 z2
 let z9:=bh (α:=QO) a.2.2.2.2.2.2.2.2.2.2.2 z4
 ((bJ (α:=List bu) a.2.1 left)/\(aJ (decide (z8<0)) (K (Jt (-1:Int))) ((bJ (α:=List aH) a.2.2.1 z8)/\(aJ (decide (z5<0)) (K (Jt (-1:Int))) ((bJ (α:=List QD) a.2.2.2.2.2.1 z5)/\(aJ (decide (z3<0)) (K (Jt (-1:Int))) ((bJ (α:=List (List Int)) a.2.2.2.2.2.2.1 z3)/\(aJ (decide (z6<0)) (K (Jt (-1:Int))) ((bJ (α:=List Int) a.2.2.2.2.2.2.2.1 z6)/\(aJ (decide (z1<0)) (K (Jt (-1:Int))) ((bJ (α:=List Int) a.2.2.2.2.2.2.2.2.1 z1)/\(aJ (decide (z7<0)) (K (Jt (-1:Int))) ((bJ (α:=List Int) a.2.2.2.2.2.2.2.2.2.1 z7)/\(aJ (decide (z2<0)) (K (Jt (-1:Int))) ((bJ (α:=List Int) a.2.2.2.2.2.2.2.2.2.2.1 z2)/\(aJ (decide (z4<0)) (K (Jt (-1:Int))) ((bJ (α:=QO) a.2.2.2.2.2.2.2.2.2.2.2 z4)/\(aJ (decide (z9<0)) (K (Jt (-1:Int))) (K (Jt z9))))))))))))))))))))) (λhb=>?_)
 refine⟨hp,λh=>au (Z2 (of_decide_eq_true h) (by first | omega | (simp only[QR,QL,QY];omega)) hp.1),λh=>?_⟩;rw[Jr (Int.not_lt.1 (of_decide_eq_false h))];refine⟨Jw hp,λh=>au (Z2 (of_decide_eq_true h) (by first | omega | (simp only[QR,QL,QY];omega)) hp.1),λh=>?_⟩;rw[Jr (Int.not_lt.1 (of_decide_eq_false h))];refine⟨Jw hp,λh=>au (Z2 (of_decide_eq_true h) (by first | omega | (simp only[QR,QL,QY];omega)) hp.1),λh=>?_⟩;rw[Jr (Int.not_lt.1 (of_decide_eq_false h))];refine⟨Jw hp,λh=>au (Z2 (of_decide_eq_true h) (by first | omega | (simp only[QR,QL,QY];omega)) hp.1),λh=>?_⟩;rw[Jr (Int.not_lt.1 (of_decide_eq_false h))];refine⟨Jw hp,λh=>au (Z2 (of_decide_eq_true h) (by first | omega | (simp only[QR,QL,QY];omega)) hp.1),λh=>?_⟩;rw[Jr (Int.not_lt.1 (of_decide_eq_false h))];refine⟨Jw hp,λh=>au (Z2 (of_decide_eq_true h) (by first | omega | (simp only[QR,QL,QY];omega)) hp.1),λh=>?_⟩;rw[Jr (Int.not_lt.1 (of_decide_eq_false h))];refine⟨Jw hp,λh=>au (Z2 (of_decide_eq_true h) (by first | omega | (simp only[QR,QL,QY];omega)) hp.1),λh=>?_⟩;rw[Jr (Int.not_lt.1 (of_decide_eq_false h))];refine⟨Jw hp,λh=>au (Z2 (of_decide_eq_true h) (by first | omega | (simp only[QR,QL,QY];omega)) hp.1),λh=>?_⟩;rw[Jr (Int.not_lt.1 (of_decide_eq_false h))];refine⟨Jw hp,λh=>au (Z2 (of_decide_eq_true h) (by first | omega | (simp only[QR,QL,QY];omega)) hp.1),λh=>?_⟩;exact au (congrArg (Yb · _) (by first | rfl | omega | (simp only[QR,QL,QY];omega)))
theorem QLX:Qf Tryz.prog HP:=Qi λx h=>QFa x.1 x.2.1 h
def rU(t:Int):aB:=b6 (aL t)
def HQ:aI:=Qg 87 [(.c (.sl Qe)),(.c TI)] λx=>(some (bJ (α:=List Qc) x.1 x.2.1),rU (bh (α:=List Qc) x.1 x.2.1))
def HR:aF:=⟨[HP],false⟩
def U7:af :=
 (ag [(ag [(.ae [ab 12 5,ab 13 0,ba 14 13,aw 15 .lss 12 14]),(.cond 15 .skip (.exit 0))]),(.block 1 (ag [(.ae [ab 18 0,ab 19 5,a0 20 18 19 Qe,a8 21 20 14,ab 22 1,aD 23 12 [21,22],ab 1 23]),(.ae [ab 24 1,aw 25 .lss 24 (aq 0)]),(.cond 25 (ag [(.ae [ab 4 (aq (-1))]),.ret]) .skip)])),(.ae [ab 16 5,aw 17 .add 16 (aq 1),ab 5 17])])
def U8:List (Nat × Md):=eV [0,1,5]
def U9:af :=
 (ag [(.ae [ab 26 1,ab 4 26]),.ret])
def QGX:af :=
 (ag [(.ae [ab 4 (aq 0)]),(.ae [ab 6 1,ab 7 0,ba 8 7,aw 9 .sub 6 8,ab 1 9]),(ag [(.ae [ab 10 1,aw 11 .lss 10 (aq 0)]),(.cond 11 (ag [(.ae [ab 4 (aq (-1))]),.ret]) .skip)]),(ag [(.ae [ab 5 (aq 0)]),(.block 0 (.loop U8 U7))]),U9])
def Va:List (bn × Md):=[(.t 4,.one .d)]
def Vb:Qb:=TQ 0 0 Va K
def QOs:Qb:=aY (aO HR 0 U9 (Vb K)) (Vb K)
def QSp:Qb:=a7 0 (QOs K)
def HS(a:List Qc)(bC:Int)(i:Int):Prop:=Loop HR 0 U8 U7 (QSp K) ⟨[(0,(bg Qe a)),(1,(aL bC)),(5,(aL i))],[],0⟩
theorem QFQ(a:List Qc)(bC:Int)(i:Int) (h :
 (aJ (decide (i<(a.length:Int))) (((0<=i/\Int.toNat i<a.length)/\(bJ (α:=Qc) (ar Qz a (Int.toNat i)) bC))/\(aJ (decide ((bh (α:=Qc) (ar Qz a (Int.toNat i)) bC)<0)) (K (rU (-1:Int))) (HS K a (bh (α:=Qc) (ar Qz a (Int.toNat i)) bC) (aG (i+1))))) (K (rU bC)))):HS K a bC i :=
 Loop.of h
theorem QUd(a:List Qc)(left:Int)(hp:bJ (α:=List Qc) a left):aK Tryz.prog 87 [(.c (.sl Qe) a),(.c TI left)] (rU (bh (α:=List Qc) a left)):=by
 refine bz HR QGX Va 0 0 27 HQ (kc QLX kn) (λK =>
 (aJ (decide ((aG (left-(a.length:Int)))<0)) (K (rU (-1:Int))) (HS K a (aG (left-(a.length:Int))) 0))) (λhb=>?_)
 exact rl (Q:=λx=>rU x=rU (bh (α:=List Qc) a left)) Qz hp hb.1.1 (λl i h=>QFQ _ a l i h) rfl
theorem QKq:Qf Tryz.prog HQ:=Qi λx h=>QUd x.1 x.2.1 h
def HT(t:Qc):aB:=⟨(.a [(aL t.1),(.r QP 0 0 ((t.2.1).length)),(.r aM 1 0 ((t.2.2.1).length)),(bE t.2.2.2.1),(bE t.2.2.2.2.1),(.r QE 2 0 ((t.2.2.2.2.2.1).length)),(.r [(.sl [TI])] 3 0 ((t.2.2.2.2.2.2.1).length)),(.r [TI] 4 0 ((t.2.2.2.2.2.2.2.1).length)),(.r [TI] 5 0 ((t.2.2.2.2.2.2.2.2.1).length)),(.r [TI] 6 0 ((t.2.2.2.2.2.2.2.2.2.1).length)),(.r [TI] 7 0 ((t.2.2.2.2.2.2.2.2.2.2.1).length)),(.r [(.sl [TI])] 8 0 ((t.2.2.2.2.2.2.2.2.2.2.2.1).length)),(aL t.2.2.2.2.2.2.2.2.2.2.2.2.1),(bE t.2.2.2.2.2.2.2.2.2.2.2.2.2)]),[(.sl 175 QP (.dp 0 true []) t.2.1),(.sl 134 aM (.dp 0 true []) t.2.2.1),(.sl 108 QE (.dp 0 true []) t.2.2.2.2.2.1),(.sl 106 [(.sl [TI])] (.dp 0 true []) t.2.2.2.2.2.2.1),(.sl 3 [TI] (.dp 0 true []) t.2.2.2.2.2.2.2.1),(.sl 3 [TI] (.dp 0 true []) t.2.2.2.2.2.2.2.2.1),(.sl 3 [TI] (.dp 0 true []) t.2.2.2.2.2.2.2.2.2.1),(.sl 3 [TI] (.dp 0 true []) t.2.2.2.2.2.2.2.2.2.2.1),(.sl 106 [(.sl [TI])] (.dp 0 true []) t.2.2.2.2.2.2.2.2.2.2.2.1)],[],false,[]⟩
def HU:aI:=Qg 14 [(.a Qe)] λx=>(some (bB (α:=Qc) x.1),HT (id (α:=Qc) x.1))
def QOt:aF:=⟨[Hn,HJ,Hr,xw,rJ,GY],true⟩
def QGN:af :=
 (ag [(.ae [aC 1 (.box 30 0 14),aC 2 (.new 39 (bG Qe))]),(.ae [aC 3 (.new 39 (bG Qe))]),(.ae [ak 4 1 0,an 5 4 1,ak 6 3 0,aU 6 5 1]),(.ae [ak 7 1 1,an 8 7 1,aD 9 65 [8],ak 10 3 1,aU 10 9 1]),(.ae [ak 11 1 2,an 12 11 1,aD 13 66 [12],ak 14 3 2,aU 14 13 1]),(.ae [ak 15 1 3,an 16 15 1,ak 17 3 3,aU 17 16 1]),(.ae [ak 18 1 4,an 19 18 1,ak 20 3 4,aU 20 19 1]),(.ae [ak 21 1 5,an 22 21 1,aD 23 67 [22],ak 24 3 5,aU 24 23 1]),(.ae [ak 25 1 6,an 26 25 1,aD 27 68 [26],ak 28 3 6,aU 28 27 1]),(.ae [ak 29 1 7,an 30 29 1,aD 31 29 [30],ak 32 3 7,aU 32 31 1]),(.ae [ak 33 1 8,an 34 33 1,aD 35 29 [34],ak 36 3 8,aU 36 35 1]),(.ae [ak 37 1 9,an 38 37 1,aD 39 29 [38],ak 40 3 9,aU 40 39 1]),(.ae [ak 41 1 10,an 42 41 1,aD 43 29 [42],ak 44 3 10,aU 44 43 1]),(.ae [ak 45 1 11,a8 46 45 3,aD 47 69 [46],ak 48 3 11,aU 48 47 3]),(.ae [a8 49 3 14,aU 2 49 14]),.ret])
def QF7:List (bn × Md):=[(.l 2 14 true,.b [.d,.p 175,.p 134,.d,.d,.p 108,.p 106,.p 3,.p 3,.p 3,.p 3,.p 106,.d,.d])]
theorem QM4(a:Qc)(hp:bB (α:=Qc) a):aK Tryz.prog 14 [(.a (aS.cells Qe a))] (HT (id (α:=Qc) a)):=by
 refine bz QOt QGN QF7 0 0 50 HU (kc QRB (kc QPB (kc QO8 (kc GV (kc xu (kc QX7 kn)))))) (λK =>
 ((bB (α:=List bu) a.2.1)/\((bB (α:=List aH) a.2.2.1)/\((bB (α:=List QD) a.2.2.2.2.2.1)/\((bB (α:=List (List Int)) a.2.2.2.2.2.2.1)/\((bB (α:=List Int) a.2.2.2.2.2.2.2.1)/\((bB (α:=List Int) a.2.2.2.2.2.2.2.2.1)/\((bB (α:=List Int) a.2.2.2.2.2.2.2.2.2.1)/\((bB (α:=List Int) a.2.2.2.2.2.2.2.2.2.2.1)/\((bB (α:=QO) a.2.2.2.2.2.2.2.2.2.2.2)/\K (HT (a.1,(List.take ((id (α:=List bu) a.2.1).length) (id (α:=List bu) a.2.1)),(List.take ((id (α:=List aH) a.2.2.1).length) (id (α:=List aH) a.2.2.1)),a.2.2.2.1,a.2.2.2.2.1,(List.take ((id (α:=List QD) a.2.2.2.2.2.1).length) (id (α:=List QD) a.2.2.2.2.2.1)),(List.take ((id (α:=List (List Int)) a.2.2.2.2.2.2.1).length) (id (α:=List (List Int)) a.2.2.2.2.2.2.1)),(List.take ((id (α:=List Int) a.2.2.2.2.2.2.2.1).length) (id (α:=List Int) a.2.2.2.2.2.2.2.1)),(List.take ((id (α:=List Int) a.2.2.2.2.2.2.2.2.1).length) (id (α:=List Int) a.2.2.2.2.2.2.2.2.1)),(List.take ((id (α:=List Int) a.2.2.2.2.2.2.2.2.2.1).length) (id (α:=List Int) a.2.2.2.2.2.2.2.2.2.1)),(List.take ((id (α:=List Int) a.2.2.2.2.2.2.2.2.2.2.1).length) (id (α:=List Int) a.2.2.2.2.2.2.2.2.2.2.1)),(List.take (((id (α:=QO) a.2.2.2.2.2.2.2.2.2.2.2).1).length) ((id (α:=QO) a.2.2.2.2.2.2.2.2.2.2.2).1)),(id (α:=QO) a.2.2.2.2.2.2.2.2.2.2.2).2.1,(id (α:=QO) a.2.2.2.2.2.2.2.2.2.2.2).2.2)))))))))))) (λhb=>?_)
 repeat' (first | refine And.intro ?_ ?_ | exact au (by simp))
 all_goals (simp only[bB,QR,QL,QY,List.drop_zero,List.take_length,id_eq]at hp ⊢;omega)
theorem QWl:Qf Tryz.prog HU:=Qi λx h=>QM4 x.1 h
def tX(t:(List Qc)):aB:=⟨(.r Qe 0 0 t.length),[(.sl 39 Qe (.dp 0 true []) t)],[],false,[]⟩
def HV:aI:=Qg 90 [(.c (.sl Qe))] λx=>(some (bB (α:=List Qc) x.1),tX (id (α:=List Qc) x.1))
def HW:aF:=⟨[HU],true⟩
def Vc:af :=
 (ag [(ag [(.ae [ab 8 4,ab 9 0,ba 10 9,aw 11 .lss 8 10]),(.cond 11 .skip (.exit 0))]),(.block 1 (.ae [ab 14 3,ab 15 4,ab 16 0,ab 17 4,a0 18 16 17 Qe,a8 19 18 14,aD 20 14 [19],a0 21 14 15 Qe,aU 21 20 14])),(.ae [ab 12 4,aw 13 .add 12 (aq 1),ab 4 13])])
def Vd:List (Nat × Md):=[(0,.one .d),(3,.one .f),(4,.one .d)]
def Ve:af :=
 (ag [(.ae [ab 22 3,ab 2 22]),.ret])
def QTm:af :=
 (ag [(.ae [ab 2 (.k (.n Qe))]),(.ae [ab 5 0,ba 6 5,aC 7 (.mk 39 Qe (bG Qe) 6),ab 3 7]),(ag [(.ae [ab 4 (aq 0)]),(.block 0 (.loop Vd Vc))]),Ve])
def Vf:List (bn × Md):=[(.t 2,.one (.p 39))]
def Vg:Qb:=TQ 0 0 Vf K
def QOg:Qb:=aY (aO HW 0 Ve (Vg K)) (Vg K)
def QYj:Qb:=a7 0 (QOg K)
def AS(a:List Qc)(i:Int)(out:List Qc):Prop:=Loop HW 0 Vd Vc (QYj K) ⟨[(0,(bg Qe a)),(3,(.r Qe 0 0 out.length)),(4,(aL i))],[(0,(.sl 39 Qe (.dp 0 true []) out))],1⟩
theorem Vh(a:List Qc)(i:Int)(out:List Qc) (h :
 let z1:=id (α:=Qc) (ar Qz a (Int.toNat i))
 (aJ (decide (i<(a.length:Int))) (((0<=i/\Int.toNat i<a.length)/\((bB (α:=Qc) (ar Qz a (Int.toNat i)))/\((0<=i/\Int.toNat i<out.length)/\((0+(Int.toNat i))<out.length))))/\(AS K a (aG (i+1)) (List.take out.length ((out).set (0+(Int.toNat i)) (z1.1,(List.take ((z1.2.1).length) (List.drop 0 (z1.2.1))),(List.take ((z1.2.2.1).length) (List.drop 0 (z1.2.2.1))),z1.2.2.2.1,z1.2.2.2.2.1,(List.take ((z1.2.2.2.2.2.1).length) (List.drop 0 (z1.2.2.2.2.2.1))),(List.take ((z1.2.2.2.2.2.2.1).length) (List.drop 0 (z1.2.2.2.2.2.2.1))),(List.take ((z1.2.2.2.2.2.2.2.1).length) (List.drop 0 (z1.2.2.2.2.2.2.2.1))),(List.take ((z1.2.2.2.2.2.2.2.2.1).length) (List.drop 0 (z1.2.2.2.2.2.2.2.2.1))),(List.take ((z1.2.2.2.2.2.2.2.2.2.1).length) (List.drop 0 (z1.2.2.2.2.2.2.2.2.2.1))),(List.take ((z1.2.2.2.2.2.2.2.2.2.2.1).length) (List.drop 0 (z1.2.2.2.2.2.2.2.2.2.2.1))),(List.take ((z1.2.2.2.2.2.2.2.2.2.2.2.1).length) (List.drop 0 (z1.2.2.2.2.2.2.2.2.2.2.2.1))),z1.2.2.2.2.2.2.2.2.2.2.2.2.1,z1.2.2.2.2.2.2.2.2.2.2.2.2.2))))) (K (tX (List.take out.length out))))):AS K a i out :=
 Loop.of h
theorem QOX(a:List Qc)(hp:bB (α:=List Qc) a):aK Tryz.prog 90 [(.c (.sl Qe) a)] (tX (id (α:=List Qc) a)):=by
 refine bz HW QTm Vf 0 0 23 HV (kc QWl kn) (λK =>
 ((0<=(a.length:Int)/\(a.length:Int)<=ca)/\(AS K a 0 (List.take (Int.toNat (a.length:Int)) (List.replicate (Int.toNat (a.length:Int)) ((0:Int),[],[],false,false,[],[],[],[],[],[],[],(0:Int),false)))))) (λhb=>?_)
 refine⟨⟨by omega,by rw[gS];have:=Ys hp;omega⟩,?_⟩;refine nI a (A:=λii ll=>AS (λr'=>r'=tX (id (α:=List Qc) a)) a ii ll) (Q:=λz=>tX z=tX (id (α:=List Qc) a)) hp ?_ ?_ rfl
 ·intro k x out aW hg ho hx hA;have hw:aG (((k:Nat):Int)+1)=((k+1:Nat):Int):=by have:=Ys hp;rw[QG (by omega) (by omega)];omega
  have g8:k<out.length:=by omega
  refine Vh _ _ _ _ ?_
  conv=>zeta
  refine⟨λ_=>?_,λh=>absurd h (by simp;omega)⟩;simp only[Int.toNat_natCast,Nat.zero_add,hg,hw,aW,g8,nH,List.drop_zero,List.take_length,id_eq,and_true,true_and,Int.natCast_nonneg]
  first | exact hA | exact⟨hx,hA⟩
 ·intro out ho hq;refine Vh _ _ _ _ ?_
  conv=>zeta
  refine⟨λh=>absurd h (by simp),λ_=>?_⟩;simp only[List.drop_zero,List.take_length];exact hq
theorem QYr:Qf Tryz.prog HV:=Qi λx h=>QOX x.1 h
def YI(t:Bool):aB:=b6 (bE t)
def HX:aI:=Qg 16 [(.a Qe),(.a Qe)] λx=>(none,YI (aZ (α:=Qc) x.1 x.2.1))
def QQh:aF:=⟨[Hu,HM,Hy,xy,rL,Ha],false⟩
def QWj:af :=
 (ag [(.ae [aC 2 (.box 39 0 14),aC 3 (.box 39 1 14),ab 4 (a6 false)]),(ag [(.ae [ak 5 2 0,an 6 5 1,ak 7 3 0,an 8 7 1,aw 9 .neq 6 8]),(.cond 9 (ag [(.ae [ab 4 (a6 false)]),.ret]) .skip)]),(ag [(.ae [ak 10 2 1,an 11 10 1,ak 12 3 1,an 13 12 1,aD 14 75 [11,13],bL 15 14]),(.cond 15 (ag [(.ae [ab 4 (a6 false)]),.ret]) .skip)]),(ag [(.ae [ak 16 2 2,an 17 16 1,ak 18 3 2,an 19 18 1,aD 20 76 [17,19],bL 21 20]),(.cond 21 (ag [(.ae [ab 4 (a6 false)]),.ret]) .skip)]),(ag [(.ae [ak 22 2 3,an 23 22 1,ak 24 3 3,an 25 24 1,aC 26 (.ic true 23 25)]),(.cond 26 (ag [(.ae [ab 4 (a6 false)]),.ret]) .skip)]),(ag [(.ae [ak 27 2 4,an 28 27 1,ak 29 3 4,an 30 29 1,aC 31 (.ic true 28 30)]),(.cond 31 (ag [(.ae [ab 4 (a6 false)]),.ret]) .skip)]),(ag [(.ae [ak 32 2 5,an 33 32 1,ak 34 3 5,an 35 34 1,aD 36 77 [33,35],bL 37 36]),(.cond 37 (ag [(.ae [ab 4 (a6 false)]),.ret]) .skip)]),(ag [(.ae [ak 38 2 6,an 39 38 1,ak 40 3 6,an 41 40 1,aD 42 78 [39,41],bL 43 42]),(.cond 43 (ag [(.ae [ab 4 (a6 false)]),.ret]) .skip)]),(ag [(.ae [ak 44 2 7,an 45 44 1,ak 46 3 7,an 47 46 1,aD 48 23 [45,47],bL 49 48]),(.cond 49 (ag [(.ae [ab 4 (a6 false)]),.ret]) .skip)]),(ag [(.ae [ak 50 2 8,an 51 50 1,ak 52 3 8,an 53 52 1,aD 54 23 [51,53],bL 55 54]),(.cond 55 (ag [(.ae [ab 4 (a6 false)]),.ret]) .skip)]),(ag [(.ae [ak 56 2 9,an 57 56 1,ak 58 3 9,an 59 58 1,aD 60 23 [57,59],bL 61 60]),(.cond 61 (ag [(.ae [ab 4 (a6 false)]),.ret]) .skip)]),(ag [(.ae [ak 62 2 10,an 63 62 1,ak 64 3 10,an 65 64 1,aD 66 23 [63,65],bL 67 66]),(.cond 67 (ag [(.ae [ab 4 (a6 false)]),.ret]) .skip)]),(ag [(.ae [ak 68 2 11,a8 69 68 3,ak 70 3 11,a8 71 70 3,aD 72 46 [69,71],bL 73 72]),(.cond 73 (ag [(.ae [ab 4 (a6 false)]),.ret]) .skip)]),(.ae [ab 4 (a6 true)]),.ret])
def QQK:List (bn × Md):=[(.t 4,.one .d)]
theorem QJr(a:Qc)(b:Qc):aK Tryz.prog 16 [(.a (aS.cells Qe a)),(.a (aS.cells Qe b))] (YI (aZ (α:=Qc) a b)):=by
 refine bz QQh QWj QQK 0 0 74 HX (kc QRn (kc QXC (kc QRY (kc G9 (kc xx (kc QRf kn)))))) (λK =>
 (aJ (a.1 != b.1) (K (YI false)) (aJ (!(aZ (α:=List bu) a.2.1 b.2.1)) (K (YI false)) (aJ (!(aZ (α:=List aH) a.2.2.1 b.2.2.1)) (K (YI false)) (aJ (!(a.2.2.2.1==b.2.2.2.1)) (K (YI false)) (aJ (!(a.2.2.2.2.1==b.2.2.2.2.1)) (K (YI false)) (aJ (!(aZ (α:=List QD) a.2.2.2.2.2.1 b.2.2.2.2.2.1)) (K (YI false)) (aJ (!(aZ (α:=List (List Int)) a.2.2.2.2.2.2.1 b.2.2.2.2.2.2.1)) (K (YI false)) (aJ (!(aZ (α:=List Int) a.2.2.2.2.2.2.2.1 b.2.2.2.2.2.2.2.1)) (K (YI false)) (aJ (!(aZ (α:=List Int) a.2.2.2.2.2.2.2.2.1 b.2.2.2.2.2.2.2.2.1)) (K (YI false)) (aJ (!(aZ (α:=List Int) a.2.2.2.2.2.2.2.2.2.1 b.2.2.2.2.2.2.2.2.2.1)) (K (YI false)) (aJ (!(aZ (α:=List Int) a.2.2.2.2.2.2.2.2.2.2.1 b.2.2.2.2.2.2.2.2.2.2.1)) (K (YI false)) (aJ (!(aZ (α:=QO) a.2.2.2.2.2.2.2.2.2.2.2 b.2.2.2.2.2.2.2.2.2.2.2)) (K (YI false)) (K (YI true))))))))))))))) (λhb=>?_)
 refine⟨λh=>au (Eq.symm (decide_eq_false (by rintro rfl;simp[aZ]at h))),λh0=>?_⟩;refine⟨λh=>au (Eq.symm (decide_eq_false (by rintro rfl;simp[aZ]at h))),λh1=>?_⟩;refine⟨λh=>au (Eq.symm (decide_eq_false (by rintro rfl;simp[aZ]at h))),λh2=>?_⟩;refine⟨λh=>au (Eq.symm (decide_eq_false (by rintro rfl;simp[aZ]at h))),λh3=>?_⟩;refine⟨λh=>au (Eq.symm (decide_eq_false (by rintro rfl;simp[aZ]at h))),λh4=>?_⟩;refine⟨λh=>au (Eq.symm (decide_eq_false (by rintro rfl;simp[aZ]at h))),λh5=>?_⟩;refine⟨λh=>au (Eq.symm (decide_eq_false (by rintro rfl;simp[aZ]at h))),λh6=>?_⟩;refine⟨λh=>au (Eq.symm (decide_eq_false (by rintro rfl;simp[aZ]at h))),λh7=>?_⟩;refine⟨λh=>au (Eq.symm (decide_eq_false (by rintro rfl;simp[aZ]at h))),λh8=>?_⟩;refine⟨λh=>au (Eq.symm (decide_eq_false (by rintro rfl;simp[aZ]at h))),λh9=>?_⟩;refine⟨λh=>au (Eq.symm (decide_eq_false (by rintro rfl;simp[aZ]at h))),λnh=>?_⟩;refine⟨λh=>au (Eq.symm (decide_eq_false (by rintro rfl;simp[aZ]at h))),λxC=>?_⟩;refine au (Eq.symm (decide_eq_true ?_));simp[aZ]at h0 h1 h2 h3 h4 h5 h6 h7 h8 h9 nh xC;simp[Prod.ext_iff, *]
theorem QLD:Qf Tryz.prog HX:=Qi λx _=>QJr x.1 x.2.1
def rV(t:Bool):aB:=b6 (bE t)
def HY:aI:=Qg 93 [(.c (.sl Qe)),(.c (.sl Qe))] λx=>(none,rV (aZ (α:=List Qc) x.1 x.2.1))
def HZ:aF:=⟨[HX],false⟩
def Vi:af :=
 (ag [(ag [(.ae [ab 11 5,ab 12 0,ba 13 12,aw 14 .lss 11 13]),(.cond 14 .skip (.exit 0))]),(.block 1 (ag [(.draw [ab 17 0,ab 18 5,a0 19 17 18 Qe,a8 20 19 14,ab 21 1,ab 22 5,a0 23 21 22 Qe,a8 24 23 14,aD 25 16 [20,24],bL 26 25] []),(.cond 26 (ag [(.ae [ab 4 (a6 false)]),.ret]) .skip)])),(.ae [ab 15 5,aw 16 .add 15 (aq 1),ab 5 16])])
def Vj:List (Nat × Md):=eV [0,1,5]
def Vk:af :=
 (ag [(.ae [ab 4 (a6 true)]),.ret])
def QFo:af :=
 (ag [(.ae [ab 4 (a6 false)]),(ag [(.ae [ab 6 0,ba 7 6,ab 8 1,ba 9 8,aw 10 .neq 7 9]),(.cond 10 (ag [(.ae [ab 4 (a6 false)]),.ret]) .skip)]),(ag [(.ae [ab 5 (aq 0)]),(.block 0 (.loop Vj Vi))]),Vk])
def Vl:List (bn × Md):=[(.t 4,.one .d)]
def Vm:Qb:=TQ 0 0 Vl K
def QRa:Qb:=aY (aO HZ 0 Vk (Vm K)) (Vm K)
def QL9:Qb:=a7 0 (QRa K)
def H0(a:List Qc)(b:List Qc)(i:Int):Prop:=Loop HZ 0 Vj Vi (QL9 K) ⟨[(0,(bg Qe a)),(1,(bg Qe b)),(5,(aL i))],[],0⟩
theorem QW4(a:List Qc)(b:List Qc)(i:Int) (h :
 (aJ (decide (i<(a.length:Int))) (((0<=i/\Int.toNat i<a.length)/\(0<=i/\Int.toNat i<b.length))/\(aJ (!(aZ (α:=Qc) (ar Qz a (Int.toNat i)) (ar Qz b (Int.toNat i)))) (K (rV false)) (H0 K a b (aG (i+1))))) (K (rV true)))):H0 K a b i :=
 Loop.of h
theorem QMD(a:List Qc)(b:List Qc):aK Tryz.prog 93 [(.c (.sl Qe) a),(.c (.sl Qe) b)] (rV (aZ (α:=List Qc) a b)):=by
 refine bz HZ QFo Vl 0 0 27 HY (kc QLD kn) (λK =>
 (aJ ((a.length:Int) != (b.length:Int)) (K (rV false)) (H0 K a b 0))) (λhb=>?_)
 exact J2 Qz (E:=aZ) (λ_ _=>rfl) hb.1.1 (λi h=>QW4 _ a b i h) (Q:=λx=>rV x=rV (aZ (α:=List Qc) a b)) rfl
theorem QJR:Qf Tryz.prog HY:=Qi λx _=>QMD x.1 x.2.1
def AU(t:Int):aB:=b6 (aL t)
def H3:aI:=Qg 260 [(.a Qu),(.c TI)] λx=>(some (bJ (α:=Qm) x.1 x.2.1),AU (bh (α:=Qm) x.1 x.2.1))
def QOF:aF:=⟨[rG],false⟩
def QFU:af :=
 (ag [(.ae [aC 2 (.box 249 0 2),ab 4 (aq 0)]),(.ae [ak 5 2 1,an 6 5 1,ab 7 1,aD 8 59 [6,7],ab 1 8]),(ag [(.ae [ab 9 1,aw 10 .lss 9 (aq 0)]),(.cond 10 (ag [(.ae [ab 4 (aq (-1))]),.ret]) .skip)]),(.ae [ab 11 1,ab 4 11]),.ret])
def QS3:List (bn × Md):=[(.t 4,.one .d)]
theorem QKb(a:Qm)(left:Int)(hp:bJ (α:=Qm) a left):aK Tryz.prog 260 [(.a [(.c TI a.1),(.c (.sl [TI]) a.2)]),(.c TI left)] (AU (bh (α:=Qm) a left)):=by
 refine bz QOF QFU QS3 0 0 12 H3 (kc xq kn) (λK =>
 ((bJ (α:=List Int) a.2 left)/\(aJ (decide ((bh (α:=List Int) a.2 left)<0)) (K (AU (-1:Int))) (K (AU (bh (α:=List Int) a.2 left)))))) (λhb=>?_)
 refine⟨hp,λh=>au (Z2 (of_decide_eq_true h) (by first | omega | (simp only[QR,QL,QY];omega)) hp.1),λh=>?_⟩;exact au (congrArg (Yb · _) (by first | rfl | omega | (simp only[QR,QL,QY];omega)))
theorem QQi:Qf Tryz.prog H3:=Qi λx h=>QKb x.1 x.2.1 h
def rW(t:Int):aB:=b6 (aL t)
def H4:aI:=Qg 234 [(.c (.sl Qu)),(.c TI)] λx=>(some (bJ (α:=List Qm) x.1 x.2.1),rW (bh (α:=List Qm) x.1 x.2.1))
def H5:aF:=⟨[H3],false⟩
def Vn:af :=
 (ag [(ag [(.ae [ab 12 5,ab 13 0,ba 14 13,aw 15 .lss 12 14]),(.cond 15 .skip (.exit 0))]),(.block 1 (ag [(.ae [ab 18 0,ab 19 5,a0 20 18 19 Qu,a8 21 20 2,ab 22 1,aD 23 260 [21,22],ab 1 23]),(.ae [ab 24 1,aw 25 .lss 24 (aq 0)]),(.cond 25 (ag [(.ae [ab 4 (aq (-1))]),.ret]) .skip)])),(.ae [ab 16 5,aw 17 .add 16 (aq 1),ab 5 17])])
def Vo:List (Nat × Md):=eV [0,1,5]
def Vp:af :=
 (ag [(.ae [ab 26 1,ab 4 26]),.ret])
def QH4:af :=
 (ag [(.ae [ab 4 (aq 0)]),(.ae [ab 6 1,ab 7 0,ba 8 7,aw 9 .sub 6 8,ab 1 9]),(ag [(.ae [ab 10 1,aw 11 .lss 10 (aq 0)]),(.cond 11 (ag [(.ae [ab 4 (aq (-1))]),.ret]) .skip)]),(ag [(.ae [ab 5 (aq 0)]),(.block 0 (.loop Vo Vn))]),Vp])
def Vq:List (bn × Md):=[(.t 4,.one .d)]
def Vr:Qb:=TQ 0 0 Vq K
def QTb:Qb:=aY (aO H5 0 Vp (Vr K)) (Vr K)
def QWe:Qb:=a7 0 (QTb K)
def H6(a:List Qm)(bC:Int)(i:Int):Prop:=Loop H5 0 Vo Vn (QWe K) ⟨[(0,(bg Qu a)),(1,(aL bC)),(5,(aL i))],[],0⟩
theorem QGz(a:List Qm)(bC:Int)(i:Int) (h :
 (aJ (decide (i<(a.length:Int))) (((0<=i/\Int.toNat i<a.length)/\(bJ (α:=Qm) (ar ((0,[]):Qm) a (Int.toNat i)) bC))/\(aJ (decide ((bh (α:=Qm) (ar ((0,[]):Qm) a (Int.toNat i)) bC)<0)) (K (rW (-1:Int))) (H6 K a (bh (α:=Qm) (ar ((0,[]):Qm) a (Int.toNat i)) bC) (aG (i+1))))) (K (rW bC)))):H6 K a bC i :=
 Loop.of h
theorem QRo(a:List Qm)(left:Int)(hp:bJ (α:=List Qm) a left):aK Tryz.prog 234 [(.c (.sl Qu) a),(.c TI left)] (rW (bh (α:=List Qm) a left)):=by
 refine bz H5 QH4 Vq 0 0 27 H4 (kc QQi kn) (λK =>
 (aJ (decide ((aG (left-(a.length:Int)))<0)) (K (rW (-1:Int))) (H6 K a (aG (left-(a.length:Int))) 0))) (λhb=>?_)
 exact rl (Q:=λx=>rW x=rW (bh (α:=List Qm) a left)) ((0,[]):Qm) hp hb.1.1 (λl i h=>QGz _ a l i h) rfl
theorem QO7:Qf Tryz.prog H4:=Qi λx h=>QRo x.1 x.2.1 h
def AW(t:Int):aB:=b6 (aL t)
def H7:aI:=Qg 175 [(.a Qh),(.c TI)] λx=>(some (bJ (α:=Qd) x.1 x.2.1),AW (bh (α:=Qd) x.1 x.2.1))
def QVP:aF:=⟨[H4],false⟩
def QKa:af :=
 (ag [(.ae [aC 2 (.box 208 0 2),ab 4 (aq 0)]),(.ae [ak 5 2 1,an 6 5 1,ab 7 1,aD 8 234 [6,7],ab 1 8]),(ag [(.ae [ab 9 1,aw 10 .lss 9 (aq 0)]),(.cond 10 (ag [(.ae [ab 4 (aq (-1))]),.ret]) .skip)]),(.ae [ab 11 1,ab 4 11]),.ret])
def QLk:List (bn × Md):=[(.t 4,.one .d)]
theorem QFJ(a:Qd)(left:Int)(hp:bJ (α:=Qd) a left):aK Tryz.prog 175 [(.a [(.c TI a.1),(.c (.sl Qu) a.2)]),(.c TI left)] (AW (bh (α:=Qd) a left)):=by
 refine bz QVP QKa QLk 0 0 12 H7 (kc QO7 kn) (λK =>
 ((bJ (α:=List Qm) a.2 left)/\(aJ (decide ((bh (α:=List Qm) a.2 left)<0)) (K (AW (-1:Int))) (K (AW (bh (α:=List Qm) a.2 left)))))) (λhb=>?_)
 refine⟨hp,λh=>au (Z2 (of_decide_eq_true h) (by first | omega | (simp only[QR,QL,QY];omega)) hp.1),λh=>?_⟩;exact au (congrArg (Yb · _) (by first | rfl | omega | (simp only[QR,QL,QY];omega)))
theorem QVb:Qf Tryz.prog H7:=Qi λx h=>QFJ x.1 x.2.1 h
def rX(t:Int):aB:=b6 (aL t)
def H8:aI:=Qg 88 [(.c (.sl Qh)),(.c TI)] λx=>(some (bJ (α:=List Qd) x.1 x.2.1),rX (bh (α:=List Qd) x.1 x.2.1))
def H9:aF:=⟨[H7],false⟩
def Vs:af :=
 (ag [(ag [(.ae [ab 12 5,ab 13 0,ba 14 13,aw 15 .lss 12 14]),(.cond 15 .skip (.exit 0))]),(.block 1 (ag [(.ae [ab 18 0,ab 19 5,a0 20 18 19 Qh,a8 21 20 2,ab 22 1,aD 23 175 [21,22],ab 1 23]),(.ae [ab 24 1,aw 25 .lss 24 (aq 0)]),(.cond 25 (ag [(.ae [ab 4 (aq (-1))]),.ret]) .skip)])),(.ae [ab 16 5,aw 17 .add 16 (aq 1),ab 5 17])])
def Vt:List (Nat × Md):=eV [0,1,5]
def Vu:af :=
 (ag [(.ae [ab 26 1,ab 4 26]),.ret])
def QFN:af :=
 (ag [(.ae [ab 4 (aq 0)]),(.ae [ab 6 1,ab 7 0,ba 8 7,aw 9 .sub 6 8,ab 1 9]),(ag [(.ae [ab 10 1,aw 11 .lss 10 (aq 0)]),(.cond 11 (ag [(.ae [ab 4 (aq (-1))]),.ret]) .skip)]),(ag [(.ae [ab 5 (aq 0)]),(.block 0 (.loop Vt Vs))]),Vu])
def Vv:List (bn × Md):=[(.t 4,.one .d)]
def Vw:Qb:=TQ 0 0 Vv K
def QKA:Qb:=aY (aO H9 0 Vu (Vw K)) (Vw K)
def QPm:Qb:=a7 0 (QKA K)
def Ia(a:List Qd)(bC:Int)(i:Int):Prop:=Loop H9 0 Vt Vs (QPm K) ⟨[(0,(bg Qh a)),(1,(aL bC)),(5,(aL i))],[],0⟩
theorem QIB(a:List Qd)(bC:Int)(i:Int) (h :
 (aJ (decide (i<(a.length:Int))) (((0<=i/\Int.toNat i<a.length)/\(bJ (α:=Qd) (ar Qx a (Int.toNat i)) bC))/\(aJ (decide ((bh (α:=Qd) (ar Qx a (Int.toNat i)) bC)<0)) (K (rX (-1:Int))) (Ia K a (bh (α:=Qd) (ar Qx a (Int.toNat i)) bC) (aG (i+1))))) (K (rX bC)))):Ia K a bC i :=
 Loop.of h
theorem QT8(a:List Qd)(left:Int)(hp:bJ (α:=List Qd) a left):aK Tryz.prog 88 [(.c (.sl Qh) a),(.c TI left)] (rX (bh (α:=List Qd) a left)):=by
 refine bz H9 QFN Vv 0 0 27 H8 (kc QVb kn) (λK =>
 (aJ (decide ((aG (left-(a.length:Int)))<0)) (K (rX (-1:Int))) (Ia K a (aG (left-(a.length:Int))) 0))) (λhb=>?_)
 exact rl (Q:=λx=>rX x=rX (bh (α:=List Qd) a left)) Qx hp hb.1.1 (λl i h=>QIB _ a l i h) rfl
theorem QW5:Qf Tryz.prog H8:=Qi λx h=>QT8 x.1 x.2.1 h
def Ib(t:Qm):aB:=⟨(.a [(aL t.1),(.r [TI] 0 0 ((t.2).length))]),[(.sl 3 [TI] (.dp 0 true []) t.2)],[],false,[]⟩
def Ic:aI:=Qg 261 [(.a Qu)] λx=>(some (bB (α:=Qm) x.1),Ib (id (α:=Qm) x.1))
def QM1:aF:=⟨[rJ],true⟩
def QGU:af :=
 (ag [(.ae [aC 1 (.box 249 0 2),aC 2 (.new 178 (bG Qu))]),(.ae [aC 3 (.new 178 (bG Qu))]),(.ae [ak 4 1 0,an 5 4 1,ak 6 3 0,aU 6 5 1]),(.ae [ak 7 1 1,an 8 7 1,aD 9 29 [8],ak 10 3 1,aU 10 9 1]),(.ae [a8 11 3 2,aU 2 11 2]),.ret])
def QYx:List (bn × Md):=[(.l 2 2 true,.b [.d,.p 3])]
theorem QP1(a:Qm)(hp:bB (α:=Qm) a):aK Tryz.prog 261 [(.a [(.c TI a.1),(.c (.sl [TI]) a.2)])] (Ib (id (α:=Qm) a)):=by
 refine bz QM1 QGU QYx 0 0 12 Ic (kc xu kn) (λK =>
 ((bB (α:=List Int) a.2)/\K (Ib (a.1,(List.take ((id (α:=List Int) a.2).length) (id (α:=List Int) a.2)))))) (λhb=>?_)
 repeat' (first | refine And.intro ?_ ?_ | exact au (by simp))
 all_goals (simp only[bB,QR,QL,QY,List.drop_zero,List.take_length,id_eq]at hp ⊢;omega)
theorem QNf:Qf Tryz.prog Ic:=Qi λx h=>QP1 x.1 h
def tY(t:(List Qm)):aB:=⟨(.r Qu 0 0 t.length),[(.sl 178 Qu (.dp 0 true []) t)],[],false,[]⟩
def Ie:aI:=Qg 235 [(.c (.sl Qu))] λx=>(some (bB (α:=List Qm) x.1),tY (id (α:=List Qm) x.1))
def Ig:aF:=⟨[Ic],true⟩
def Vx:af :=
 (ag [(ag [(.ae [ab 8 4,ab 9 0,ba 10 9,aw 11 .lss 8 10]),(.cond 11 .skip (.exit 0))]),(.block 1 (.ae [ab 14 3,ab 15 4,ab 16 0,ab 17 4,a0 18 16 17 Qu,a8 19 18 2,aD 20 261 [19],a0 21 14 15 Qu,aU 21 20 2])),(.ae [ab 12 4,aw 13 .add 12 (aq 1),ab 4 13])])
def Vy:List (Nat × Md):=[(0,.one .d),(3,.one .f),(4,.one .d)]
def Vz:af :=
 (ag [(.ae [ab 22 3,ab 2 22]),.ret])
def QG4:af :=
 (ag [(.ae [ab 2 (.k (.n Qu))]),(.ae [ab 5 0,ba 6 5,aC 7 (.mk 178 Qu (bG Qu) 6),ab 3 7]),(ag [(.ae [ab 4 (aq 0)]),(.block 0 (.loop Vy Vx))]),Vz])
def VA:List (bn × Md):=[(.t 2,.one (.p 178))]
def VB:Qb:=TQ 0 0 VA K
def QGn:Qb:=aY (aO Ig 0 Vz (VB K)) (VB K)
def QPE:Qb:=a7 0 (QGn K)
def AX(a:List Qm)(i:Int)(out:List Qm):Prop:=Loop Ig 0 Vy Vx (QPE K) ⟨[(0,(bg Qu a)),(3,(.r Qu 0 0 out.length)),(4,(aL i))],[(0,(.sl 178 Qu (.dp 0 true []) out))],1⟩
theorem VC(a:List Qm)(i:Int)(out:List Qm) (h :
 (aJ (decide (i<(a.length:Int))) (((0<=i/\Int.toNat i<a.length)/\((bB (α:=Qm) (ar ((0,[]):Qm) a (Int.toNat i)))/\((0<=i/\Int.toNat i<out.length)/\((0+(Int.toNat i))<out.length))))/\(AX K a (aG (i+1)) (List.take out.length ((out).set (0+(Int.toNat i)) ((id (α:=Qm) (ar ((0,[]):Qm) a (Int.toNat i))).1,(List.take (((id (α:=Qm) (ar ((0,[]):Qm) a (Int.toNat i))).2).length) (List.drop 0 ((id (α:=Qm) (ar ((0,[]):Qm) a (Int.toNat i))).2)))))))) (K (tY (List.take out.length out))))):AX K a i out :=
 Loop.of h
theorem QWB(a:List Qm)(hp:bB (α:=List Qm) a):aK Tryz.prog 235 [(.c (.sl Qu) a)] (tY (id (α:=List Qm) a)):=by
 refine bz Ig QG4 VA 0 0 23 Ie (kc QNf kn) (λK =>
 ((0<=(a.length:Int)/\(a.length:Int)<=ca)/\(AX K a 0 (List.take (Int.toNat (a.length:Int)) (List.replicate (Int.toNat (a.length:Int)) ((0:Int),[])))))) (λhb=>?_)
 refine⟨⟨by omega,by rw[gS];have:=Ys hp;omega⟩,?_⟩;refine nI a (A:=λii ll=>AX (λr'=>r'=tY (id (α:=List Qm) a)) a ii ll) (Q:=λz=>tY z=tY (id (α:=List Qm) a)) hp ?_ ?_ rfl
 ·intro k x out aW hg ho hx hA;have hw:aG (((k:Nat):Int)+1)=((k+1:Nat):Int):=by have:=Ys hp;rw[QG (by omega) (by omega)];omega
  have g8:k<out.length:=by omega
  refine VC _ _ _ _ ?_;refine⟨λ_=>?_,λh=>absurd h (by simp;omega)⟩;simp only[Int.toNat_natCast,Nat.zero_add,hg,hw,aW,g8,nH,List.drop_zero,List.take_length,id_eq,and_true,true_and,Int.natCast_nonneg]
  first | exact hA | exact⟨hx,hA⟩
 ·intro out ho hq;refine VC _ _ _ _ ?_;refine⟨λh=>absurd h (by simp),λ_=>?_⟩;simp only[List.drop_zero,List.take_length];exact hq
theorem QLb:Qf Tryz.prog Ie:=Qi λx h=>QWB x.1 h
def Ih(t:Qd):aB:=⟨(.a [(aL t.1),(.r Qu 0 0 ((t.2).length))]),[(.sl 178 Qu (.dp 0 true []) t.2)],[],false,[]⟩
def Ii:aI:=Qg 178 [(.a Qh)] λx=>(some (bB (α:=Qd) x.1),Ih (id (α:=Qd) x.1))
def QMV:aF:=⟨[Ie],true⟩
def QNC:af :=
 (ag [(.ae [aC 1 (.box 208 0 2),aC 2 (.new 161 (bG Qh))]),(.ae [aC 3 (.new 161 (bG Qh))]),(.ae [ak 4 1 0,an 5 4 1,ak 6 3 0,aU 6 5 1]),(.ae [ak 7 1 1,an 8 7 1,aD 9 235 [8],ak 10 3 1,aU 10 9 1]),(.ae [a8 11 3 2,aU 2 11 2]),.ret])
def QRI:List (bn × Md):=[(.l 2 2 true,.b [.d,.p 178])]
theorem QXl(a:Qd)(hp:bB (α:=Qd) a):aK Tryz.prog 178 [(.a [(.c TI a.1),(.c (.sl Qu) a.2)])] (Ih (id (α:=Qd) a)):=by
 refine bz QMV QNC QRI 0 0 12 Ii (kc QLb kn) (λK =>
 ((bB (α:=List Qm) a.2)/\K (Ih (a.1,(List.take ((id (α:=List Qm) a.2).length) (id (α:=List Qm) a.2)))))) (λhb=>?_)
 repeat' (first | refine And.intro ?_ ?_ | exact au (by simp))
 all_goals (simp only[bB,QR,QL,QY,List.drop_zero,List.take_length,id_eq]at hp ⊢;omega)
theorem QPD:Qf Tryz.prog Ii:=Qi λx h=>QXl x.1 h
def tZ(t:(List Qd)):aB:=⟨(.r Qh 0 0 t.length),[(.sl 161 Qh (.dp 0 true []) t)],[],false,[]⟩
def Ij:aI:=Qg 91 [(.c (.sl Qh))] λx=>(some (bB (α:=List Qd) x.1),tZ (id (α:=List Qd) x.1))
def Ik:aF:=⟨[Ii],true⟩
def VD:af :=
 (ag [(ag [(.ae [ab 8 4,ab 9 0,ba 10 9,aw 11 .lss 8 10]),(.cond 11 .skip (.exit 0))]),(.block 1 (.ae [ab 14 3,ab 15 4,ab 16 0,ab 17 4,a0 18 16 17 Qh,a8 19 18 2,aD 20 178 [19],a0 21 14 15 Qh,aU 21 20 2])),(.ae [ab 12 4,aw 13 .add 12 (aq 1),ab 4 13])])
def VE:List (Nat × Md):=[(0,.one .d),(3,.one .f),(4,.one .d)]
def VF:af :=
 (ag [(.ae [ab 22 3,ab 2 22]),.ret])
def QKS:af :=
 (ag [(.ae [ab 2 (.k (.n Qh))]),(.ae [ab 5 0,ba 6 5,aC 7 (.mk 161 Qh (bG Qh) 6),ab 3 7]),(ag [(.ae [ab 4 (aq 0)]),(.block 0 (.loop VE VD))]),VF])
def VG:List (bn × Md):=[(.t 2,.one (.p 161))]
def VH:Qb:=TQ 0 0 VG K
def QKr:Qb:=aY (aO Ik 0 VF (VH K)) (VH K)
def QXL:Qb:=a7 0 (QKr K)
def AY(a:List Qd)(i:Int)(out:List Qd):Prop:=Loop Ik 0 VE VD (QXL K) ⟨[(0,(bg Qh a)),(3,(.r Qh 0 0 out.length)),(4,(aL i))],[(0,(.sl 161 Qh (.dp 0 true []) out))],1⟩
theorem VI(a:List Qd)(i:Int)(out:List Qd) (h :
 (aJ (decide (i<(a.length:Int))) (((0<=i/\Int.toNat i<a.length)/\((bB (α:=Qd) (ar Qx a (Int.toNat i)))/\((0<=i/\Int.toNat i<out.length)/\((0+(Int.toNat i))<out.length))))/\(AY K a (aG (i+1)) (List.take out.length ((out).set (0+(Int.toNat i)) ((id (α:=Qd) (ar Qx a (Int.toNat i))).1,(List.take (((id (α:=Qd) (ar Qx a (Int.toNat i))).2).length) (List.drop 0 ((id (α:=Qd) (ar Qx a (Int.toNat i))).2)))))))) (K (tZ (List.take out.length out))))):AY K a i out :=
 Loop.of h
theorem QHx(a:List Qd)(hp:bB (α:=List Qd) a):aK Tryz.prog 91 [(.c (.sl Qh) a)] (tZ (id (α:=List Qd) a)):=by
 refine bz Ik QKS VG 0 0 23 Ij (kc QPD kn) (λK =>
 ((0<=(a.length:Int)/\(a.length:Int)<=ca)/\(AY K a 0 (List.take (Int.toNat (a.length:Int)) (List.replicate (Int.toNat (a.length:Int)) ((0:Int),[])))))) (λhb=>?_)
 refine⟨⟨by omega,by rw[gS];have:=Ys hp;omega⟩,?_⟩;refine nI a (A:=λii ll=>AY (λr'=>r'=tZ (id (α:=List Qd) a)) a ii ll) (Q:=λz=>tZ z=tZ (id (α:=List Qd) a)) hp ?_ ?_ rfl
 ·intro k x out aW hg ho hx hA;have hw:aG (((k:Nat):Int)+1)=((k+1:Nat):Int):=by have:=Ys hp;rw[QG (by omega) (by omega)];omega
  have g8:k<out.length:=by omega
  refine VI _ _ _ _ ?_;refine⟨λ_=>?_,λh=>absurd h (by simp;omega)⟩;simp only[Int.toNat_natCast,Nat.zero_add,hg,hw,aW,g8,nH,List.drop_zero,List.take_length,id_eq,and_true,true_and,Int.natCast_nonneg]
  first | exact hA | exact⟨hx,hA⟩
 ·intro out ho hq;refine VI _ _ _ _ ?_;refine⟨λh=>absurd h (by simp),λ_=>?_⟩;simp only[List.drop_zero,List.take_length];exact hq
theorem QH5:Qf Tryz.prog Ij:=Qi λx h=>QHx x.1 h
def xD(t:Bool):aB:=b6 (bE t)
def Il:aI:=Qg 262 [(.a Qu),(.a Qu)] λx=>(none,xD (aZ (α:=Qm) x.1 x.2.1))
def QUP:aF:=⟨[rL],false⟩
def QIy:af :=
 (ag [(.ae [aC 2 (.box 178 0 2),aC 3 (.box 178 1 2),ab 4 (a6 false)]),(ag [(.ae [ak 5 2 0,an 6 5 1,ak 7 3 0,an 8 7 1,aw 9 .neq 6 8]),(.cond 9 (ag [(.ae [ab 4 (a6 false)]),.ret]) .skip)]),(ag [(.ae [ak 10 2 1,an 11 10 1,ak 12 3 1,an 13 12 1,aD 14 23 [11,13],bL 15 14]),(.cond 15 (ag [(.ae [ab 4 (a6 false)]),.ret]) .skip)]),(.ae [ab 4 (a6 true)]),.ret])
def QSJ:List (bn × Md):=[(.t 4,.one .d)]
theorem QUk(a:Qm)(b:Qm):aK Tryz.prog 262 [(.a [(.c TI a.1),(.c (.sl [TI]) a.2)]),(.a [(.c TI b.1),(.c (.sl [TI]) b.2)])] (xD (aZ (α:=Qm) a b)):=by
 refine bz QUP QIy QSJ 0 0 16 Il (kc xx kn) (λK =>
 (aJ (a.1 != b.1) (K (xD false)) (aJ (!(aZ (α:=List Int) a.2 b.2)) (K (xD false)) (K (xD true))))) (λhb=>?_)
 refine⟨λh=>au (Eq.symm (decide_eq_false (by rintro rfl;simp[aZ]at h))),λh0=>?_⟩;refine⟨λh=>au (Eq.symm (decide_eq_false (by rintro rfl;simp[aZ]at h))),λh1=>?_⟩;refine au (Eq.symm (decide_eq_true ?_));simp[aZ]at h0 h1;simp[Prod.ext_iff, *]
theorem QMJ:Qf Tryz.prog Il:=Qi λx _=>QUk x.1 x.2.1
def rY(t:Bool):aB:=b6 (bE t)
def Im:aI:=Qg 236 [(.c (.sl Qu)),(.c (.sl Qu))] λx=>(none,rY (aZ (α:=List Qm) x.1 x.2.1))
def Ip:aF:=⟨[Il],false⟩
def VJ:af :=
 (ag [(ag [(.ae [ab 11 5,ab 12 0,ba 13 12,aw 14 .lss 11 13]),(.cond 14 .skip (.exit 0))]),(.block 1 (ag [(.draw [ab 17 0,ab 18 5,a0 19 17 18 Qu,a8 20 19 2,ab 21 1,ab 22 5,a0 23 21 22 Qu,a8 24 23 2,aD 25 262 [20,24],bL 26 25] []),(.cond 26 (ag [(.ae [ab 4 (a6 false)]),.ret]) .skip)])),(.ae [ab 15 5,aw 16 .add 15 (aq 1),ab 5 16])])
def VK:List (Nat × Md):=eV [0,1,5]
def VL:af :=
 (ag [(.ae [ab 4 (a6 true)]),.ret])
def QGg:af :=
 (ag [(.ae [ab 4 (a6 false)]),(ag [(.ae [ab 6 0,ba 7 6,ab 8 1,ba 9 8,aw 10 .neq 7 9]),(.cond 10 (ag [(.ae [ab 4 (a6 false)]),.ret]) .skip)]),(ag [(.ae [ab 5 (aq 0)]),(.block 0 (.loop VK VJ))]),VL])
def VM:List (bn × Md):=[(.t 4,.one .d)]
def VN:Qb:=TQ 0 0 VM K
def QRN:Qb:=aY (aO Ip 0 VL (VN K)) (VN K)
def QUF:Qb:=a7 0 (QRN K)
def Iq(a:List Qm)(b:List Qm)(i:Int):Prop:=Loop Ip 0 VK VJ (QUF K) ⟨[(0,(bg Qu a)),(1,(bg Qu b)),(5,(aL i))],[],0⟩
theorem QGr(a:List Qm)(b:List Qm)(i:Int) (h :
 (aJ (decide (i<(a.length:Int))) (((0<=i/\Int.toNat i<a.length)/\(0<=i/\Int.toNat i<b.length))/\(aJ (!(aZ (α:=Qm) (ar ((0,[]):Qm) a (Int.toNat i)) (ar ((0,[]):Qm) b (Int.toNat i)))) (K (rY false)) (Iq K a b (aG (i+1))))) (K (rY true)))):Iq K a b i :=
 Loop.of h
theorem QT5(a:List Qm)(b:List Qm):aK Tryz.prog 236 [(.c (.sl Qu) a),(.c (.sl Qu) b)] (rY (aZ (α:=List Qm) a b)):=by
 refine bz Ip QGg VM 0 0 27 Im (kc QMJ kn) (λK =>
 (aJ ((a.length:Int) != (b.length:Int)) (K (rY false)) (Iq K a b 0))) (λhb=>?_)
 exact J2 ((0,[]):Qm) (E:=aZ) (λ_ _=>rfl) hb.1.1 (λi h=>QGr _ a b i h) (Q:=λx=>rY x=rY (aZ (α:=List Qm) a b)) rfl
theorem QWC:Qf Tryz.prog Im:=Qi λx _=>QT5 x.1 x.2.1
def xE(t:Bool):aB:=b6 (bE t)
def Ir:aI:=Qg 181 [(.a Qh),(.a Qh)] λx=>(none,xE (aZ (α:=Qd) x.1 x.2.1))
def QJ7:aF:=⟨[Im],false⟩
def QS2:af :=
 (ag [(.ae [aC 2 (.box 161 0 2),aC 3 (.box 161 1 2),ab 4 (a6 false)]),(ag [(.ae [ak 5 2 0,an 6 5 1,ak 7 3 0,an 8 7 1,aw 9 .neq 6 8]),(.cond 9 (ag [(.ae [ab 4 (a6 false)]),.ret]) .skip)]),(ag [(.ae [ak 10 2 1,an 11 10 1,ak 12 3 1,an 13 12 1,aD 14 236 [11,13],bL 15 14]),(.cond 15 (ag [(.ae [ab 4 (a6 false)]),.ret]) .skip)]),(.ae [ab 4 (a6 true)]),.ret])
def QX1:List (bn × Md):=[(.t 4,.one .d)]
theorem QJS(a:Qd)(b:Qd):aK Tryz.prog 181 [(.a [(.c TI a.1),(.c (.sl Qu) a.2)]),(.a [(.c TI b.1),(.c (.sl Qu) b.2)])] (xE (aZ (α:=Qd) a b)):=by
 refine bz QJ7 QS2 QX1 0 0 16 Ir (kc QWC kn) (λK =>
 (aJ (a.1 != b.1) (K (xE false)) (aJ (!(aZ (α:=List Qm) a.2 b.2)) (K (xE false)) (K (xE true))))) (λhb=>?_)
 refine⟨λh=>au (Eq.symm (decide_eq_false (by rintro rfl;simp[aZ]at h))),λh0=>?_⟩;refine⟨λh=>au (Eq.symm (decide_eq_false (by rintro rfl;simp[aZ]at h))),λh1=>?_⟩;refine au (Eq.symm (decide_eq_true ?_));simp[aZ]at h0 h1;simp[Prod.ext_iff, *]
theorem QIr:Qf Tryz.prog Ir:=Qi λx _=>QJS x.1 x.2.1
def rZ(t:Bool):aB:=b6 (bE t)
def Is:aI:=Qg 94 [(.c (.sl Qh)),(.c (.sl Qh))] λx=>(none,rZ (aZ (α:=List Qd) x.1 x.2.1))
def It:aF:=⟨[Ir],false⟩
def VO:af :=
 (ag [(ag [(.ae [ab 11 5,ab 12 0,ba 13 12,aw 14 .lss 11 13]),(.cond 14 .skip (.exit 0))]),(.block 1 (ag [(.draw [ab 17 0,ab 18 5,a0 19 17 18 Qh,a8 20 19 2,ab 21 1,ab 22 5,a0 23 21 22 Qh,a8 24 23 2,aD 25 181 [20,24],bL 26 25] []),(.cond 26 (ag [(.ae [ab 4 (a6 false)]),.ret]) .skip)])),(.ae [ab 15 5,aw 16 .add 15 (aq 1),ab 5 16])])
def VP:List (Nat × Md):=eV [0,1,5]
def VQ:af :=
 (ag [(.ae [ab 4 (a6 true)]),.ret])
def QRr:af :=
 (ag [(.ae [ab 4 (a6 false)]),(ag [(.ae [ab 6 0,ba 7 6,ab 8 1,ba 9 8,aw 10 .neq 7 9]),(.cond 10 (ag [(.ae [ab 4 (a6 false)]),.ret]) .skip)]),(ag [(.ae [ab 5 (aq 0)]),(.block 0 (.loop VP VO))]),VQ])
def VS:List (bn × Md):=[(.t 4,.one .d)]
def VT:Qb:=TQ 0 0 VS K
def QU5:Qb:=aY (aO It 0 VQ (VT K)) (VT K)
def QWp:Qb:=a7 0 (QU5 K)
def Iu(a:List Qd)(b:List Qd)(i:Int):Prop:=Loop It 0 VP VO (QWp K) ⟨[(0,(bg Qh a)),(1,(bg Qh b)),(5,(aL i))],[],0⟩
theorem QWD(a:List Qd)(b:List Qd)(i:Int) (h :
 (aJ (decide (i<(a.length:Int))) (((0<=i/\Int.toNat i<a.length)/\(0<=i/\Int.toNat i<b.length))/\(aJ (!(aZ (α:=Qd) (ar Qx a (Int.toNat i)) (ar Qx b (Int.toNat i)))) (K (rZ false)) (Iu K a b (aG (i+1))))) (K (rZ true)))):Iu K a b i :=
 Loop.of h
theorem QQ0(a:List Qd)(b:List Qd):aK Tryz.prog 94 [(.c (.sl Qh) a),(.c (.sl Qh) b)] (rZ (aZ (α:=List Qd) a b)):=by
 refine bz It QRr VS 0 0 27 Is (kc QIr kn) (λK =>
 (aJ ((a.length:Int) != (b.length:Int)) (K (rZ false)) (Iu K a b 0))) (λhb=>?_)
 exact J2 Qx (E:=aZ) (λ_ _=>rfl) hb.1.1 (λi h=>QWD _ a b i h) (Q:=λx=>rZ x=rZ (aZ (α:=List Qd) a b)) rfl
theorem QSX:Qf Tryz.prog Is:=Qi λx _=>QQ0 x.1 x.2.1
def r0(t:Int):aB:=b6 (aL t)
def Iv:aI:=Qg 19 [(.a QM),(.c TI)] λx=>(some (bJ (α:=Qk) x.1 x.2.1),r0 (bh (α:=Qk) x.1 x.2.1))
def QII:aF:=⟨[GN,HQ,H8],false⟩
def QLr:af :=
 (ag [(.ae [aC 2 (.box 49 0 4),ab 4 (aq 0)]),(.ae [ak 5 2 0,an 6 5 1,ab 7 1,aD 8 34 [6,7],ab 1 8]),(ag [(.ae [ab 9 1,aw 10 .lss 9 (aq 0)]),(.cond 10 (ag [(.ae [ab 4 (aq (-1))]),.ret]) .skip)]),(.ae [ak 11 2 1,an 12 11 1,ab 13 1,aD 14 87 [12,13],ab 1 14]),(ag [(.ae [ab 15 1,aw 16 .lss 15 (aq 0)]),(.cond 16 (ag [(.ae [ab 4 (aq (-1))]),.ret]) .skip)]),(.ae [ak 17 2 2,an 18 17 1,ab 19 1,aD 20 88 [18,19],ab 1 20]),(ag [(.ae [ab 21 1,aw 22 .lss 21 (aq 0)]),(.cond 22 (ag [(.ae [ab 4 (aq (-1))]),.ret]) .skip)]),(.ae [ak 23 2 3,an 24 23 1,ab 25 1,aD 26 88 [24,25],ab 1 26]),(ag [(.ae [ab 27 1,aw 28 .lss 27 (aq 0)]),(.cond 28 (ag [(.ae [ab 4 (aq (-1))]),.ret]) .skip)]),(.ae [ab 29 1,ab 4 29]),.ret])
def QQS:List (bn × Md):=[(.t 4,.one .d)]
theorem QXZ(a:Qk)(left:Int)(hp:bJ (α:=Qk) a left):aK Tryz.prog 19 [(.a (aS.cells QM a)),(.c TI left)] (r0 (bh (α:=Qk) a left)):=by
 refine bz QII QLr QQS 0 0 30 Iv (kc QSl (kc QKq (kc QW5 kn))) (λK =>
 let z3:=bh (α:=List Qo) a.1 left
 let z1:=bh (α:=List Qc) a.2.1 z3
 let z2:=bh (α:=List Qd) a.2.2.1 z1
 ((bJ (α:=List Qo) a.1 left)/\(aJ (decide (z3<0)) (K (r0 (-1:Int))) ((bJ (α:=List Qc) a.2.1 z3)/\(aJ (decide (z1<0)) (K (r0 (-1:Int))) ((bJ (α:=List Qd) a.2.2.1 z1)/\(aJ (decide (z2<0)) (K (r0 (-1:Int))) ((bJ (α:=List Qd) a.2.2.2 z2)/\(aJ (decide ((bh (α:=List Qd) a.2.2.2 z2)<0)) (K (r0 (-1:Int))) (K (r0 (bh (α:=List Qd) a.2.2.2 z2)))))))))))) (λhb=>?_)
 refine⟨hp,λh=>au (Z2 (of_decide_eq_true h) (by first | omega | (simp only[QR,QL,QY];omega)) hp.1),λh=>?_⟩;rw[Jr (Int.not_lt.1 (of_decide_eq_false h))];refine⟨Jw hp,λh=>au (Z2 (of_decide_eq_true h) (by first | omega | (simp only[QR,QL,QY];omega)) hp.1),λh=>?_⟩;rw[Jr (Int.not_lt.1 (of_decide_eq_false h))];refine⟨Jw hp,λh=>au (Z2 (of_decide_eq_true h) (by first | omega | (simp only[QR,QL,QY];omega)) hp.1),λh=>?_⟩;rw[Jr (Int.not_lt.1 (of_decide_eq_false h))];refine⟨Jw hp,λh=>au (Z2 (of_decide_eq_true h) (by first | omega | (simp only[QR,QL,QY];omega)) hp.1),λh=>?_⟩;exact au (congrArg (Yb · _) (by first | rfl | omega | (simp only[QR,QL,QY];omega)))
theorem QWt:Qf Tryz.prog Iv:=Qi λx h=>QXZ x.1 x.2.1 h
def Iw(t:Qk):aB:=⟨(.a [(.r QF 0 0 ((t.1).length)),(.r Qe 1 0 ((t.2.1).length)),(.r Qh 2 0 ((t.2.2.1).length)),(.r Qh 3 0 ((t.2.2.2).length))]),[(.sl 154 QF (.dp 0 true []) t.1),(.sl 39 Qe (.dp 0 true []) t.2.1),(.sl 161 Qh (.dp 0 true []) t.2.2.1),(.sl 161 Qh (.dp 0 true []) t.2.2.2)],[],false,[]⟩
def Ix:aI:=Qg 21 [(.a QM)] λx=>(some (bB (α:=Qk) x.1),Iw (id (α:=Qk) x.1))
def QJo:aF:=⟨[G2,HV,Ij],true⟩
def QQp:af :=
 (ag [(.ae [aC 1 (.box 49 0 4),aC 2 (.new 56 (bG QM))]),(.ae [aC 3 (.new 56 (bG QM))]),(.ae [ak 4 1 0,an 5 4 1,aD 6 37 [5],ak 7 3 0,aU 7 6 1]),(.ae [ak 8 1 1,an 9 8 1,aD 10 90 [9],ak 11 3 1,aU 11 10 1]),(.ae [ak 12 1 2,an 13 12 1,aD 14 91 [13],ak 15 3 2,aU 15 14 1]),(.ae [ak 16 1 3,an 17 16 1,aD 18 91 [17],ak 19 3 3,aU 19 18 1]),(.ae [a8 20 3 4,aU 2 20 4]),.ret])
def QKk:List (bn × Md):=[(.l 2 4 true,.b [.p 154,.p 39,.p 161,.p 161])]
theorem QG2(a:Qk)(hp:bB (α:=Qk) a):aK Tryz.prog 21 [(.a (aS.cells QM a))] (Iw (id (α:=Qk) a)):=by
 refine bz QJo QQp QKk 0 0 21 Ix (kc QXw (kc QYr (kc QH5 kn))) (λK =>
 ((bB (α:=List Qo) a.1)/\((bB (α:=List Qc) a.2.1)/\((bB (α:=List Qd) a.2.2.1)/\((bB (α:=List Qd) a.2.2.2)/\K (Iw ((List.take ((id (α:=List Qo) a.1).length) (id (α:=List Qo) a.1)),(List.take ((id (α:=List Qc) a.2.1).length) (id (α:=List Qc) a.2.1)),(List.take ((id (α:=List Qd) a.2.2.1).length) (id (α:=List Qd) a.2.2.1)),(List.take ((id (α:=List Qd) a.2.2.2).length) (id (α:=List Qd) a.2.2.2))))))))) (λhb=>?_)
 repeat' (first | refine And.intro ?_ ?_ | exact au (by simp))
 all_goals (simp only[bB,QR,QL,QY,List.drop_zero,List.take_length,id_eq]at hp ⊢;omega)
theorem QLa:Qf Tryz.prog Ix:=Qi λx h=>QG2 x.1 h
def r8(t:Bool):aB:=b6 (bE t)
def Iy:aI:=Qg 24 [(.a QM),(.a QM)] λx=>(none,r8 (aZ (α:=Qk) x.1 x.2.1))
def QWi:aF:=⟨[Hc,HY,Is],false⟩
def QN4:af :=
 (ag [(.ae [aC 2 (.box 56 0 4),aC 3 (.box 56 1 4),ab 4 (a6 false)]),(ag [(.ae [ak 5 2 0,an 6 5 1,ak 7 3 0,an 8 7 1,aD 9 40 [6,8],bL 10 9]),(.cond 10 (ag [(.ae [ab 4 (a6 false)]),.ret]) .skip)]),(ag [(.ae [ak 11 2 1,an 12 11 1,ak 13 3 1,an 14 13 1,aD 15 93 [12,14],bL 16 15]),(.cond 16 (ag [(.ae [ab 4 (a6 false)]),.ret]) .skip)]),(ag [(.ae [ak 17 2 2,an 18 17 1,ak 19 3 2,an 20 19 1,aD 21 94 [18,20],bL 22 21]),(.cond 22 (ag [(.ae [ab 4 (a6 false)]),.ret]) .skip)]),(ag [(.ae [ak 23 2 3,an 24 23 1,ak 25 3 3,an 26 25 1,aD 27 94 [24,26],bL 28 27]),(.cond 28 (ag [(.ae [ab 4 (a6 false)]),.ret]) .skip)]),(.ae [ab 4 (a6 true)]),.ret])
def QRs:List (bn × Md):=[(.t 4,.one .d)]
theorem QLp(a:Qk)(b:Qk):aK Tryz.prog 24 [(.a (aS.cells QM a)),(.a (aS.cells QM b))] (r8 (aZ (α:=Qk) a b)):=by
 refine bz QWi QN4 QRs 0 0 29 Iy (kc QRT (kc QJR (kc QSX kn))) (λK =>
 (aJ (!(aZ (α:=List Qo) a.1 b.1)) (K (r8 false)) (aJ (!(aZ (α:=List Qc) a.2.1 b.2.1)) (K (r8 false)) (aJ (!(aZ (α:=List Qd) a.2.2.1 b.2.2.1)) (K (r8 false)) (aJ (!(aZ (α:=List Qd) a.2.2.2 b.2.2.2)) (K (r8 false)) (K (r8 true))))))) (λhb=>?_)
 refine⟨λh=>au (Eq.symm (decide_eq_false (by rintro rfl;simp[aZ]at h))),λh0=>?_⟩;refine⟨λh=>au (Eq.symm (decide_eq_false (by rintro rfl;simp[aZ]at h))),λh1=>?_⟩;refine⟨λh=>au (Eq.symm (decide_eq_false (by rintro rfl;simp[aZ]at h))),λh2=>?_⟩;refine⟨λh=>au (Eq.symm (decide_eq_false (by rintro rfl;simp[aZ]at h))),λh3=>?_⟩;refine au (Eq.symm (decide_eq_true ?_));simp[aZ]at h0 h1 h2 h3;simp[Prod.ext_iff, *]
theorem QE9:Qf Tryz.prog Iy:=Qi λx _=>QLp x.1 x.2.1
def Iz(t:Bool):aB:=b6 (bE t)
def YV:aI:=Qg 158 [(.c TI),(.c TI),(.c TI)] λx=>(none,Iz (bj x.1 x.2.1 x.2.2.1))
def QLB:aF:=⟨[],false⟩
def QW0:af :=
 (ag [(.ae [ab 6 (a6 false)]),(.ae [ab 7 0,ab 8 1,aw 9 .geq 7 8,ab 10 9,.bt 10 true [ab 11 0,ab 12 2,aw 13 .leq 11 12] 14 13,ab 6 14]),.ret])
def QSf:List (bn × Md):=[(.t 6,.one .d)]
theorem QKn(x:Int)(low:Int)(high:Int):aK Tryz.prog 158 [(.c TI x),(.c TI low),(.c TI high)] (Iz (bj x low high)):=by
 refine bz QLB QW0 QSf 0 0 15 YV kn (λK =>
 K (Iz ((decide (x>=low))&&(decide (x<=high))))) (λhb=>?_)
 exact au rfl
theorem Js:Qf Tryz.prog YV:=Qi λx _=>QKn x.1 x.2.1 x.2.2.1
def IA(t:Bool):aB:=b6 (bE t)
def t4:aI:=Qg 183 [(.c TI)] λx=>(none,IA (Zv x.1))
def QUB:aF:=⟨[YV],false⟩
def QMf:af :=
 (ag [(.ae [ab 2 (a6 false)]),(.ae [ab 3 0,aD 4 158 [3,(aq (-2147483647)),(aq 2147483647)],ab 2 4]),.ret])
def QOa:List (bn × Md):=[(.t 2,.one .d)]
theorem QXd(x:Int):aK Tryz.prog 183 [(.c TI x)] (IA (Zv x)):=by
 refine bz QUB QMf QOa 0 0 5 t4 (kc Js kn) (λK =>
 K (IA (bj x (-2147483647:Int) (2147483647:Int)))) (λhb=>?_)
 exact au rfl
theorem AZ:Qf Tryz.prog t4:=Qi λx _=>QXd x.1
def IB(t:Bool):aB:=b6 (bE t)
def xF:aI:=Qg 240 [(.c TI)] λx=>(none,IB (Zv x.1))
def QHC:aF:=⟨[],false⟩
def QTa:af :=
 (ag [(.ae [ab 2 (a6 false)]),(.ae [ab 3 0,aw 4 .geq 3 (aq (-2147483647)),ab 5 4,.bt 5 true [ab 6 0,aw 7 .leq 6 (aq 2147483647)] 8 7,ab 2 8]),.ret])
def QV6:List (bn × Md):=[(.t 2,.one .d)]
theorem QJj(x:Int):aK Tryz.prog 240 [(.c TI x)] (IB (Zv x)):=by
 refine bz QHC QTa QV6 0 0 9 xF kn (λK =>
 K (IB ((decide (x>=(-2147483647:Int)))&&(decide (x<=2147483647))))) (λhb=>?_)
 exact au rfl
theorem IC:Qf Tryz.prog xF:=Qi λx _=>QJj x.1
def t6(t:Bool):aB:=b6 (bE t)
def xG:aI:=Qg 238 [(.c (.sl [TI]))] λx=>(none,t6 (Ye x.1))
def ID:aF:=⟨[xF],false⟩
def VU:af :=
 (ag [(.ae [aw 8 .lss 7 6]),(.cond 8 .skip (.exit 0)),(.block 1 (ag [(.ae [a0 9 5 7 [TI],an 10 9 1,ab 4 10]),(.ae [ab 11 4,aD 12 240 [11],bL 13 12]),(.cond 13 (ag [(.ae [ab 2 (a6 false)]),.ret]) .skip)])),(.ae [aw 14 .add 7 (aq 1),ab 7 14])])
def VV:List (Nat × Md):=eV [5,6,7]
def VW:af :=
 (ag [(.ae [ab 2 (a6 true)]),.ret])
def QUO:af :=
 (ag [(.ae [ab 2 (a6 false)]),(ag [(.ae [ab 5 0,ba 6 5,ab 7 (aq 0)]),(.block 0 (.loop VV VU))]),VW])
def VX:List (bn × Md):=[(.t 2,.one .d)]
def VY:Qb:=TQ 0 0 VX K
def QS0:Qb:=aY (aO ID 0 VW (VY K)) (VY K)
def QHB:Qb:=a7 0 (QS0 K)
def IE(v:List Int)(x:Int):Prop:=Loop ID 0 VV VU (QHB K) ⟨[(5,(bg [TI] v)),(6,(aL (v.length:Int))),(7,(aL x))],[],0⟩
theorem QQW(v:List Int)(x:Int) (h :
 (aJ (decide (x<(v.length:Int))) ((0<=x/\Int.toNat x<v.length)/\(aJ (!(Zv (ar (0:Int) v (Int.toNat x)))) (K (t6 false)) (IE K v (aG (x+1))))) (K (t6 true)))):IE K v x :=
 Loop.of h
theorem QMe(v:List Int):aK Tryz.prog 238 [(.c (.sl [TI]) v)] (t6 (Ye v)):=by
 refine bz ID QUO VX 0 0 15 xG (kc IC kn) (λK =>
 (IE K v 0)) (λhb=>?_)
 have r9:v.length<=9223372036854775807:=hb.1.1;exact oW (Q:=λx=>t6 x=t6 (Ye v)) (p:=Zv) (c:=λx=>!(Zv x)) 0 r9 (λ_=>rfl) (λi h=>QQW _ v i h) (au (by simp[Ye]))
theorem IF:Qf Tryz.prog xG:=Qi λx _=>QMe x.1
def t7(t:Bool):aB:=b6 (bE t)
def Yv:aI:=Qg 97 [(.c (.sl [TI]))] λx=>(none,t7 (QK x.1))
def IG:aF:=⟨[t4,YV],false⟩
def VZ:af :=
 (ag [(ag [(.ae [ab 4 3,ab 5 0,ba 6 5,aw 7 .lss 4 6]),(.cond 7 .skip (.exit 0))]),(.block 1 (ag [(.ae [ab 10 0,ab 11 3,a0 12 10 11 [TI],an 13 12 1,aD 14 183 [13],bL 15 14]),(.cond 15 (ag [(.ae [ab 2 (a6 false)]),.ret]) .skip)])),(.ae [ab 8 3,aw 9 .add 8 (aq 1),ab 3 9])])
def V0:List (Nat × Md):=eV [0,3]
def V1:af :=
 (ag [(.ae [ab 16 0,ba 17 16,aD 18 158 [17,(aq 1),(aq 6)],ab 2 18]),.ret])
def QSz:af :=
 (ag [(.ae [ab 2 (a6 false)]),(ag [(.ae [ab 3 (aq 0)]),(.block 0 (.loop V0 VZ))]),V1])
def V2:List (bn × Md):=[(.t 2,.one .d)]
def V3:Qb:=TQ 0 0 V2 K
def QNx:Qb:=aY (aO IG 0 V1 (V3 K)) (V3 K)
def QT6:Qb:=a7 0 (QNx K)
def IH(v:List Int)(i:Int):Prop:=Loop IG 0 V0 VZ (QT6 K) ⟨[(0,(bg [TI] v)),(3,(aL i))],[],0⟩
theorem QK6(v:List Int)(i:Int) (h :
 (aJ (decide (i<(v.length:Int))) ((0<=i/\Int.toNat i<v.length)/\(aJ (!(Zv (ar (0:Int) v (Int.toNat i)))) (K (t7 false)) (IH K v (aG (i+1))))) (K (t7 (bj (v.length:Int) (1:Int) (6:Int)))))):IH K v i :=
 Loop.of h
theorem QNJ(v:List Int):aK Tryz.prog 97 [(.c (.sl [TI]) v)] (t7 (QK v)):=by
 refine bz IG QSz V2 0 0 19 Yv (kc AZ (kc Js kn)) (λK =>
 (IH K v 0)) (λhb=>?_)
 have r9:v.length<=9223372036854775807:=hb.1.1;exact oW (Q:=λx=>t7 x=t7 (QK v)) (p:=Zv) (c:=λx=>!(Zv x)) 0 r9 (λ_=>rfl) (λi h=>QK6 _ v i h) (au (by grind[QK,Ye]))
theorem YK:Qf Tryz.prog Yv:=Qi λx _=>QNJ x.1
def II(t:Bool):aB:=b6 (bE t)
def nP:aI:=Qg 187 [(.c (.sl [TI]))] λx=>(none,II (QK x.1))
def QMb:aF:=⟨[xG],false⟩
def QIj:af :=
 (ag [(.ae [ab 2 (a6 false)]),(.ae [ab 3 0,ba 4 3,aw 5 .geq 4 (aq 1),ab 6 5,.bt 6 true [ab 7 0,ba 8 7,aw 9 .leq 8 (aq 6)] 10 9,ab 11 10,.bt 11 true [ab 12 0,aD 13 238 [12]] 14 13,ab 2 14]),.ret])
def QLc:List (bn × Md):=[(.t 2,.one .d)]
theorem QU9(v:List Int):aK Tryz.prog 187 [(.c (.sl [TI]) v)] (II (QK v)):=by
 refine bz QMb QIj QLc 0 0 15 nP (kc IF kn) (λK =>
 K (II (((decide ((v.length:Int)>=1))&&(decide ((v.length:Int)<=6)))&&(Ye v)))) (λhb=>?_)
 exact au (by grind[QK,bj])
theorem sa:Qf Tryz.prog nP:=Qi λx _=>QU9 x.1
def IJ(t:Bool):aB:=b6 (bE t)
def Jk:aI:=Qg 100 [(.c (.sl [TI])),(.c TI)] λx=>(none,IJ (QH x.1 x.2.1))
def QJM:aF:=⟨[nP],false⟩
def QVy:af :=
 (ag [(.ae [ab 4 (a6 false)]),(.ae [ab 5 0,aD 6 187 [5],ab 7 6,.bt 7 true [ab 8 0,ba 9 8,ab 10 1,aw 11 .eql 9 10] 12 11,ab 4 12]),.ret])
def QUy:List (bn × Md):=[(.t 4,.one .d)]
theorem QWE(v:List Int)(n:Int):aK Tryz.prog 100 [(.c (.sl [TI]) v),(.c TI n)] (IJ (QH v n)):=by
 refine bz QJM QVy QUy 0 0 13 Jk (kc sa kn) (λK =>
 K (IJ ((QK v)&&((v.length:Int)==n)))) (λhb=>?_)
 exact au (by simp[QH])
theorem JP:Qf Tryz.prog Jk:=Qi λx _=>QWE x.1 x.2.1
def IK(t:Bool):aB:=b6 (bE t)
def IL:aI:=Qg 169 [(.c (.sl [TI])),(.c TI)] λx=>(none,IK (Ym x.1 x.2.1))
def QO2:aF:=⟨[Jk],false⟩
def QHi:af :=
 (ag [(.ae [ab 4 (a6 false)]),(.ae [ab 5 0,ba 6 5,aw 7 .eql 6 (aq 0),ab 8 7,.bt 8 false [ab 9 0,ab 10 1,aD 11 100 [9,10]] 12 11,ab 4 12]),.ret])
def QFg:List (bn × Md):=[(.t 4,.one .d)]
theorem QMw(v:List Int)(n:Int):aK Tryz.prog 169 [(.c (.sl [TI]) v),(.c TI n)] (IK (Ym v n)):=by
 refine bz QO2 QHi QFg 0 0 13 IL (kc JP kn) (λK =>
 K (IK (((v.length:Int)==0)||(QH v n)))) (λhb=>?_)
 exact au (by simp[Ym,QH])
theorem QN6:Qf Tryz.prog IL:=Qi λx _=>QMw x.1 x.2.1
def IM(t:Bool):aB:=b6 (bE t)
def IP:aI:=Qg 159 [(.c (.sl [TI])),(.c TI)] λx=>(none,IM (Ym x.1 x.2.1))
def QMl:aF:=⟨[Yv],false⟩
def QW6:af :=
 (ag [(.ae [ab 4 (a6 false)]),(.ae [ab 5 0,ba 6 5,aw 7 .eql 6 (aq 0),ab 8 7,.bt 8 false [ab 9 0,aD 10 97 [9],ab 11 10,.bt 11 true [ab 12 0,ba 13 12,ab 14 1,aw 15 .eql 13 14] 16 15] 17 16,ab 4 17]),.ret])
def QTg:List (bn × Md):=[(.t 4,.one .d)]
theorem QMS(v:List Int)(n:Int):aK Tryz.prog 159 [(.c (.sl [TI]) v),(.c TI n)] (IM (Ym v n)):=by
 refine bz QMl QW6 QTg 0 0 18 IP (kc YK kn) (λK =>
 K (IM (((v.length:Int)==0)||((QK v)&&((v.length:Int)==n))))) (λhb=>?_)
 exact au (by simp[Ym,QH])
theorem QWN:Qf Tryz.prog IP:=Qi λx _=>QMS x.1 x.2.1
def nQ(t:Int):aB:=b6 (aL t)
def IQ:aI:=Qg 253 [(.a aM)] λx=>(none,nQ (YH x.1))
def IU:aF:=⟨[YV],false⟩
def V4:af :=
 (.cond 15 (ag [(.ae [ak 18 1 1,an 19 18 1,ak 20 1 2,an 21 20 1,aw 22 .mul 19 21,ab 2 22]),.ret]) (ag [(.ae [aw 24 .eql 14 (aq 2),ab 23 24]),(.cond 23 (ag [(.ae [ak 25 1 1,an 26 25 1,ab 2 26]),.ret]) (ag [(.ae [aw 28 .eql 14 (aq 4),ab 27 28]),(.cond 27 (ag [(.ae [ab 2 (aq 1)]),.ret]) .skip)]))]))
def QYK:List (Nat × Md):=[(1,.b (dG 4)),(14,.one .d),(15,.one .d)]
def QLt:af:=.wk QYK V4
def V5:af :=
 (ag [(.ae [ab 2 (aq 0)]),.ret])
def QR9:af :=
 (ag [(.ae [aC 1 (.box 134 0 4),ab 2 (aq 0)]),(ag [(.ae [ak 3 1 1,an 4 3 1,aD 5 158 [4,(aq 1),(aq 6)],bL 6 5,ab 7 6,.bt 7 false [ak 8 1 2,an 9 8 1,aD 10 158 [9,(aq 1),(aq 6)],bL 11 10] 12 11]),(.cond 12 (ag [(.ae [ab 2 (aq 0)]),.ret]) .skip)]),(ag [(.ae [ak 13 1 0,an 14 13 1]),(.block 0 (ag [(ag [(.ae [aw 16 .eql 14 (aq 1),ab 15 16]),(.cond 15 .skip (.ae [aw 17 .eql 14 (aq 5),ab 15 17]))]),QLt]))]),V5])
def V6:List (bn × Md):=[(.t 2,.one .d)]
def V7:Qb:=TQ 0 0 V6 K
def QHF:Qb:=aY (aO IU 0 V5 (V7 K)) (V7 K)
def QOS:Qb:=a7 0 (QHF K)
@[irreducible] def IV(o:aH)(x:Bool):Prop:=aO IU 0 V4 (QOS K) ⟨[(1,(.p 0 0 0)),(14,(aL o.1)),(15,(bE x))],[(0,(.box (aS.cells aM o)))],1⟩
theorem V8(o:aH)(x:Bool) (h :
 (aJ x (K (nQ (aG (o.2.1*o.2.2.1)))) (aJ (o.1==2) (K (nQ o.2.1)) (aJ (o.1==4) (K (nQ (1:Int))) (K (nQ (0:Int))))))):dt (IV K o x) :=
 dt.of h
theorem QJv(o:aH):aK Tryz.prog 253 [(.a (aS.cells aM o))] (nQ (YH o)):=by
 refine bz IU QR9 V6 0 0 29 IQ (kc Js kn) (λK =>
 (aJ ((!(bj o.2.1 (1:Int) (6:Int)))||(!(bj o.2.2.1 (1:Int) (6:Int)))) (K (nQ (0:Int))) (aJ (o.1==1) (IV K o (o.1==1)) (IV K o (o.1==5))))) (λhb=>?_)
 refine⟨λh=>au (by grind[YH]),λh=>?_⟩;have hi:bj o.2.1 1 6=true/\bj o.2.2.1 1 6=true:=by simpa using h
 have hm:=rm (Za.1 hi.1).1 (Za.1 hi.1).2 (Za.1 hi.2).1 (Za.1 hi.2).2;have hw:=QG (x:=o.2.1*o.2.2.1) (by omega) (by omega);refine⟨λh1=>(V8 (λr'=>r'=nQ (YH o)) o _ ?_).h,λh1=>(V8 (λr'=>r'=nQ (YH o)) o _ ?_).h⟩ <;> grind[YH]
theorem QIJ:Qf Tryz.prog IQ:=Qi λx _=>QJv x.1
def J1(t:Int):aB:=b6 (aL t)
def IW:aI:=Qg 257 [(.a aM)] λx=>(none,J1 (YH x.1))
def IX:aF:=⟨[],false⟩
def V9:af :=
 (.cond 23 (ag [(.ae [ak 26 1 1,an 27 26 1,ak 28 1 2,an 29 28 1,aw 30 .mul 27 29,ab 2 30]),.ret]) (ag [(.ae [aw 32 .eql 22 (aq 2),ab 31 32]),(.cond 31 (ag [(.ae [ak 33 1 1,an 34 33 1,ab 2 34]),.ret]) (ag [(.ae [aw 36 .eql 22 (aq 4),ab 35 36]),(.cond 35 (ag [(.ae [ab 2 (aq 1)]),.ret]) .skip)]))]))
def QU3:List (Nat × Md):=[(1,.b (dG 4)),(22,.one .d),(23,.one .d)]
def QWr:af:=.wk QU3 V9
def Wa:af :=
 (ag [(.ae [ab 2 (aq 0)]),.ret])
def QH3:af :=
 (ag [(.ae [aC 1 (.box 134 0 4),ab 2 (aq 0)]),(ag [(.ae [ak 3 1 1,an 4 3 1,aw 5 .lss 4 (aq 1),ab 6 5,.bt 6 false [ak 7 1 1,an 8 7 1,aw 9 .gtr 8 (aq 6)] 10 9,ab 11 10,.bt 11 false [ak 12 1 2,an 13 12 1,aw 14 .lss 13 (aq 1)] 15 14,ab 16 15,.bt 16 false [ak 17 1 2,an 18 17 1,aw 19 .gtr 18 (aq 6)] 20 19]),(.cond 20 (ag [(.ae [ab 2 (aq 0)]),.ret]) .skip)]),(ag [(.ae [ak 21 1 0,an 22 21 1]),(.block 0 (ag [(ag [(.ae [aw 24 .eql 22 (aq 1),ab 23 24]),(.cond 23 .skip (.ae [aw 25 .eql 22 (aq 5),ab 23 25]))]),QWr]))]),Wa])
def Wb:List (bn × Md):=[(.t 2,.one .d)]
def Wc:Qb:=TQ 0 0 Wb K
def QQZ:Qb:=aY (aO IX 0 Wa (Wc K)) (Wc K)
def QQU:Qb:=a7 0 (QQZ K)
@[irreducible] def IY(o:aH)(x:Bool):Prop:=aO IX 0 V9 (QQU K) ⟨[(1,(.p 0 0 0)),(22,(aL o.1)),(23,(bE x))],[(0,(.box (aS.cells aM o)))],1⟩
theorem Wd(o:aH)(x:Bool) (h :
 (aJ x (K (J1 (aG (o.2.1*o.2.2.1)))) (aJ (o.1==2) (K (J1 o.2.1)) (aJ (o.1==4) (K (J1 (1:Int))) (K (J1 (0:Int))))))):dt (IY K o x) :=
 dt.of h
theorem QOU(o:aH):aK Tryz.prog 257 [(.a (aS.cells aM o))] (J1 (YH o)):=by
 refine bz IX QH3 Wb 0 0 37 IW kn (λK =>
 (aJ ((((decide (o.2.1<1))||(decide (o.2.1>6)))||(decide (o.2.2.1<1)))||(decide (o.2.2.1>6))) (K (J1 (0:Int))) (aJ (o.1==1) (IY K o (o.1==1)) (IY K o (o.1==5))))) (λhb=>?_)
 refine⟨λh=>au (by grind[YH,bj]),λh=>?_⟩;have hi:bj o.2.1 1 6=true/\bj o.2.2.1 1 6=true:=by grind[bj]
 have hm:=rm (Za.1 hi.1).1 (Za.1 hi.1).2 (Za.1 hi.2).1 (Za.1 hi.2).2;have hw:=QG (x:=o.2.1*o.2.2.1) (by omega) (by omega);refine⟨λh1=>(Wd (λr'=>r'=J1 (YH o)) o _ ?_).h,λh1=>(Wd (λr'=>r'=J1 (YH o)) o _ ?_).h⟩ <;> grind[YH]
theorem QKY:Qf Tryz.prog IW:=Qi λx _=>QOU x.1
def o7(t:Bool):aB:=b6 (bE t)
def xH:aI:=Qg 222 [(.a aM)] λx=>(none,o7 (Zi x.1))
def IZ:aF:=⟨[YV,IQ,t4],false⟩
def We:af :=
 (ag [(ag [(.ae [ab 40 3,ak 41 1 3,an 42 41 1,ba 43 42,aw 44 .lss 40 43]),(.cond 44 .skip (.exit 0))]),(.block 1 (ag [(.ae [ak 47 1 3,an 48 47 1,ab 49 3,a0 50 48 49 [TI],an 51 50 1,aD 52 183 [51],bL 53 52]),(.cond 53 (ag [(.ae [ab 2 (a6 false)]),.ret]) .skip)])),(.ae [ab 45 3,aw 46 .add 45 (aq 1),ab 3 46])])
def Wf:List (Nat × Md):=[(1,.b (dG 4)),(3,.one .d)]
def Wg:af :=
 (ag [(.ae [ab 2 (a6 true)]),.ret])
def QF9:af :=
 (ag [(.ae [aC 1 (.box 134 0 4),ab 2 (a6 false)]),(ag [(.draw [ak 4 1 0,an 5 4 1,aD 6 158 [5,(aq 1),(aq 5)],bL 7 6,ab 8 7,.bt 8 false [ak 9 1 1,an 10 9 1,aD 11 158 [10,(aq 1),(aq 6)],bL 12 11] 13 12,ab 14 13,.bt 14 false [ak 15 1 2,an 16 15 1,aD 17 158 [16,(aq 1),(aq 6)],bL 18 17] 19 18,ab 20 19,.bt 20 false [ak 21 1 0,an 22 21 1,aw 23 .neq 22 (aq 1),ab 24 23,.bt 24 true [ak 25 1 1,an 26 25 1,ak 27 1 2,an 28 27 1,aw 29 .neq 26 28] 30 29] 31 30,ab 32 31,.bt 32 false [ak 33 1 3,an 34 33 1,ba 35 34,a8 36 1 4,aD 37 253 [36],aw 38 .neq 35 37] 39 38] [(29,33),(30,33),(31,33)]),(.cond 39 (ag [(.ae [ab 2 (a6 false)]),.ret]) .skip)]),(ag [(.ae [ab 3 (aq 0)]),(.block 0 (.loop Wf We))]),Wg])
def Wh:List (bn × Md):=[(.t 2,.one .d)]
def Wi:Qb:=TQ 0 0 Wh K
def QVc:Qb:=aY (aO IZ 0 Wg (Wi K)) (Wi K)
def QPL:Qb:=a7 0 (QVc K)
def I0(o:aH)(i:Int):Prop:=Loop IZ 0 Wf We (QPL K) ⟨[(1,(.p 0 0 0)),(3,(aL i))],[(0,(.box (aS.cells aM o)))],1⟩
theorem QNu(o:aH)(i:Int) (h :
 (aJ (decide (i<((o.2.2.2).length:Int))) ((0<=i/\Int.toNat i<(o.2.2.2).length)/\(aJ (!(Zv (ar (0:Int) o.2.2.2 (Int.toNat i)))) (K (o7 false)) (I0 K o (aG (i+1))))) (K (o7 true)))):I0 K o i :=
 Loop.of h
theorem QUv(o:aH):aK Tryz.prog 222 [(.a (aS.cells aM o))] (o7 (Zi o)):=by
 refine bz IZ QF9 Wh 0 0 54 xH (kc Js (kc QIJ (kc AZ kn))) (λK =>
 (aJ (((((!(bj o.1 (1:Int) (5:Int)))||(!(bj o.2.1 (1:Int) (6:Int))))||(!(bj o.2.2.1 (1:Int) (6:Int))))||((o.1 != 1)&&(o.2.1 != o.2.2.1)))||(((o.2.2.2).length:Int) != (YH o))) (K (o7 false)) (I0 K o 0))) (λhb=>?_)
 have sb:(o.2.2.2).length<=9223372036854775807:=hb.1.2.2.2.1.1;refine⟨λh=>au (by grind[Zi]),λh=>?_⟩;exact oW (Q:=λx=>o7 x=o7 (Zi o)) (p:=Zv) (c:=λx=>!(Zv x)) 0 sb (λ_=>rfl) (λi h=>QNu (λr'=>r'=o7 (Zi o)) o i h) (au (by grind[Zi,Ye]))
theorem I1:Qf Tryz.prog xH:=Qi λx _=>QUv x.1
def xI(t:Bool):aB:=b6 (bE t)
def xJ:aI:=Qg 228 [(.a aM)] λx=>(none,xI (Zi x.1))
def QGQ:aF:=⟨[IW,xG],false⟩
def QI6:af :=
 (ag [(.ae [aC 1 (.box 134 0 4),ab 2 (a6 false)]),(ag [(.ae [ak 3 1 0,an 4 3 1,aw 5 .lss 4 (aq 1),ab 6 5,.bt 6 false [ak 7 1 0,an 8 7 1,aw 9 .gtr 8 (aq 5)] 10 9,ab 11 10,.bt 11 false [ak 12 1 1,an 13 12 1,aw 14 .lss 13 (aq 1)] 15 14,ab 16 15,.bt 16 false [ak 17 1 1,an 18 17 1,aw 19 .gtr 18 (aq 6)] 20 19,ab 21 20,.bt 21 false [ak 22 1 2,an 23 22 1,aw 24 .lss 23 (aq 1)] 25 24,ab 26 25,.bt 26 false [ak 27 1 2,an 28 27 1,aw 29 .gtr 28 (aq 6)] 30 29]),(.cond 30 (ag [(.ae [ab 2 (a6 false)]),.ret]) .skip)]),(ag [(.ae [ak 31 1 0,an 32 31 1,aw 33 .neq 32 (aq 1),ab 34 33,.bt 34 true [ak 35 1 1,an 36 35 1,ak 37 1 2,an 38 37 1,aw 39 .neq 36 38] 40 39]),(.cond 40 (ag [(.ae [ab 2 (a6 false)]),.ret]) .skip)]),(.draw [ak 41 1 3,an 42 41 1,ba 43 42,a8 44 1 4,aD 45 257 [44],aw 46 .eql 43 45,ab 47 46,.bt 47 true [ak 48 1 3,an 49 48 1,aD 50 238 [49]] 51 50,ab 2 51] [(0,4),(1,4),(2,4)]),.ret])
def QWd:List (bn × Md):=[(.t 2,.one .d)]
theorem QXm(o:aH):aK Tryz.prog 228 [(.a (aS.cells aM o))] (xI (Zi o)):=by
 refine bz QGQ QI6 QWd 0 0 52 xJ (kc QKY (kc IF kn)) (λK =>
 (aJ ((((((decide (o.1<1))||(decide (o.1>5)))||(decide (o.2.1<1)))||(decide (o.2.1>6)))||(decide (o.2.2.1<1)))||(decide (o.2.2.1>6))) (K (xI false)) (aJ ((o.1 != 1)&&(o.2.1 != o.2.2.1)) (K (xI false)) (K (xI ((((o.2.2.2).length:Int)==(YH o))&&(Ye o.2.2.2))))))) (λhb=>?_)
 grind[Zi,bj]
theorem I2:Qf Tryz.prog xJ:=Qi λx _=>QXm x.1
def xK(t:Bool):aB:=b6 (bE t)
def I3:aI:=Qg 157 [(.a [(.sl aM)])] λx=>(none,xK (Zc x.1))
def I4:aF:=⟨[xH,YV],false⟩
def Wj:af :=
 (ag [(ag [(.ae [ab 4 3,ak 5 1 0,an 6 5 1,ba 7 6,aw 8 .lss 4 7]),(.cond 8 .skip (.exit 0))]),(.block 1 (ag [(.draw [ak 11 1 0,an 12 11 1,ab 13 3,a0 14 12 13 aM,a8 15 14 4,aD 16 222 [15],bL 17 16,ab 18 17,.bt 18 false [ab 19 3,aw 20 .gtr 19 (aq 0),ab 21 20,.bt 21 true [ak 22 1 0,an 23 22 1,ab 24 3,a0 25 23 24 aM,ak 26 25 1,an 27 26 1,ak 28 1 0,an 29 28 1,ab 30 3,aw 31 .sub 30 (aq 1),a0 32 29 31 aM,ak 33 32 2,an 34 33 1,aw 35 .neq 27 34] 36 35] 37 36] []),(.cond 37 (ag [(.ae [ab 2 (a6 false)]),.ret]) .skip)])),(.ae [ab 9 3,aw 10 .add 9 (aq 1),ab 3 10])])
def Wk:List (Nat × Md):=[(1,.b [.d]),(3,.one .d)]
def Wl:af :=
 (ag [(.ae [ak 38 1 0,an 39 38 1,ba 40 39,aD 41 158 [40,(aq 1),(aq 8)],ab 2 41]),.ret])
def QIQ:af :=
 (ag [(.ae [aC 1 (.box 77 0 1),ab 2 (a6 false)]),(ag [(.ae [ab 3 (aq 0)]),(.block 0 (.loop Wk Wj))]),Wl])
def Wm:List (bn × Md):=[(.t 2,.one .d)]
def Wn:Qb:=TQ 0 0 Wm K
def QU1:Qb:=aY (aO I4 0 Wl (Wn K)) (Wn K)
def QLA:Qb:=a7 0 (QU1 K)
def A0(m:List aH)(i:Int):Prop:=Loop I4 0 Wk Wj (QLA K) ⟨[(1,(.p 0 0 0)),(3,(aL i))],[(0,(.box [(bg aM m)]))],1⟩
theorem Wo(m:List aH)(i:Int) (h :
 (aJ (decide (i<(m.length:Int))) (((0<=i/\Int.toNat i<m.length)/\((!(!(Zi (ar b5 m (Int.toNat i)))))=true->((decide (i>0))=true->((0<=i/\Int.toNat i<m.length)/\(0<=aG (i-1)/\Int.toNat (aG (i-1))<m.length)))))/\(aJ ((!(Zi (ar b5 m (Int.toNat i))))||((decide (i>0))&&(((ar b5 m (Int.toNat i)).2.1) != ((ar b5 m (Int.toNat (aG (i-1)))).2.2.1)))) (K (xK false)) (A0 K m (aG (i+1))))) (K (xK (bj (m.length:Int) (1:Int) (8:Int)))))):A0 K m i :=
 Loop.of h
theorem QFu(m:List aH):aK Tryz.prog 157 [(.a [(.c (.sl aM) m)])] (xK (Zc m)):=by
 refine bz I4 QIQ Wm 0 0 42 I3 (kc I1 (kc Js kn)) (λK =>
 (A0 K m 0)) (λhb=>?_)
 have lW:(m).length<=9223372036854775807:=hb.1.1.1;refine Zf m (λr k=>YL (JJ m k) r=YL none m->A0 (λr'=>r'=xK (Zc m)) m k) ?_ ?_ rfl
 ·intro he;refine Wo _ _ _ ⟨λh=>by simp at h,λ_=>?_⟩;grind[YL,Zc]
 ·intro k x r hk aW hg ih he;refine Wo _ _ _ ⟨λ_=>?_,λh=>by simp at h;omega⟩;rw[Int.toNat_natCast,hg,QG (x:=(k:Int)+1) (by omega) (by omega)];have ep:JJ m (k+1)=some x.2.2.1:=by simp[JJ,hg]
  rw[ep]at ih
  rcases Nat.eq_zero_or_pos k with h0 | h0
  ·subst h0;simp only[YL,JJ,if_true]at he;grind[Zc]
  ·have e2:=rp h0 (by omega:k<=9223372036854775807);simp only[YL,JJ,if_neg (Nat.ne_of_gt h0)]at he;grind[Zc]
theorem QKR:Qf Tryz.prog I3:=Qi λx _=>QFu x.1
def t8(t:Bool):aB:=b6 (bE t)
def t9:aI:=Qg 167 [(.a [(.sl aM)])] λx=>(none,t8 (Zc x.1))
def I5:aF:=⟨[xJ],false⟩
def Wp:af :=
 (ag [(.ae [aw 19 .lss 18 17]),(.cond 19 .skip (.exit 0)),(.block 1 (ag [(.ae [ab 20 18,a0 21 16 18 aM,a8 22 21 4,aC 4 (.new 134 (bG aM)),ab 3 20,aU 4 22 4]),(.draw [a8 23 4 4,aD 24 228 [23],bL 25 24,ab 26 25,.bt 26 false [ab 27 3,aw 28 .gtr 27 (aq 0),ab 29 28,.bt 29 true [ak 30 1 0,an 31 30 1,ab 32 3,aw 33 .sub 32 (aq 1),a0 34 31 33 aM,ak 35 34 2,an 36 35 1,ak 37 4 1,an 38 37 1,aw 39 .neq 36 38] 40 39] 41 40] []),(.cond 41 (ag [(.ae [ab 2 (a6 false)]),.ret]) .skip)])),(.ae [aw 42 .add 18 (aq 1),ab 18 42])])
def Wq:List (Nat × Md):=[(1,.b [.d]),(16,.one .d),(17,.one .d),(18,.one .d)]
def Wr:af :=
 (ag [(.ae [ab 2 (a6 true)]),.ret])
def QLV:af :=
 (ag [(.ae [aC 1 (.box 77 0 1),ab 2 (a6 false)]),(ag [(.ae [ak 5 1 0,an 6 5 1,ba 7 6,aw 8 .lss 7 (aq 1),ab 9 8,.bt 9 false [ak 10 1 0,an 11 10 1,ba 12 11,aw 13 .gtr 12 (aq 8)] 14 13]),(.cond 14 (ag [(.ae [ab 2 (a6 false)]),.ret]) .skip)]),(ag [(.ae [ak 15 1 0,an 16 15 1,ba 17 16,ab 18 (aq 0)]),(.block 0 (.loop Wq Wp))]),Wr])
def Ws:List (bn × Md):=[(.t 2,.one .d)]
def Wt:Qb:=TQ 0 0 Ws K
def QHQ:Qb:=aY (aO I5 0 Wr (Wt K)) (Wt K)
def QYI:Qb:=a7 0 (QHQ K)
def A1(m:List aH)(x:Int):Prop:=Loop I5 0 Wq Wp (QYI K) ⟨[(1,(.p 0 0 0)),(16,(bg aM m)),(17,(aL (m.length:Int))),(18,(aL x))],[(0,(.box [(bg aM m)]))],1⟩
theorem Wu(m:List aH)(x:Int) (h :
 (aJ (decide (x<(m.length:Int))) ((0<=x/\Int.toNat x<m.length)/\(((!(!(Zi (ar b5 m (Int.toNat x)))))=true->((decide (x>0))=true->(0<=aG (x-1)/\Int.toNat (aG (x-1))<m.length)))/\(aJ ((!(Zi (ar b5 m (Int.toNat x))))||((decide (x>0))&&(((ar b5 m (Int.toNat (aG (x-1)))).2.2.1) != ((ar b5 m (Int.toNat x)).2.1)))) (K (t8 false)) (A1 K m (aG (x+1)))))) (K (t8 true)))):A1 K m x :=
 Loop.of h
theorem QXx(m:List aH):aK Tryz.prog 167 [(.a [(.c (.sl aM) m)])] (t8 (Zc m)):=by
 refine bz I5 QLV Ws 0 0 43 t9 (kc I2 kn) (λK =>
 (aJ ((decide ((m.length:Int)<1))||(decide ((m.length:Int)>8))) (K (t8 false)) (A1 K m 0))) (λhb=>?_)
 have lW:(m).length<=9223372036854775807:=hb.1.1.1;refine⟨λh=>au (by grind[Zc,bj]),λh=>?_⟩;have fc:bj m.length 1 8=true:=by grind[bj]
 refine Zf m (λr k=>YL (JJ m k) r=YL none m->A1 (λr'=>r'=t8 (Zc m)) m k) ?_ ?_ rfl
 ·intro he;refine Wu _ _ _ ⟨λh=>by simp at h,λ_=>?_⟩;grind[YL,Zc]
 ·intro k x r hk aW hg ih he;refine Wu _ _ _ ⟨λ_=>?_,λh=>by simp at h;omega⟩;rw[Int.toNat_natCast,hg,QG (x:=(k:Int)+1) (by omega) (by omega)];have ep:JJ m (k+1)=some x.2.2.1:=by simp[JJ,hg]
  rw[ep]at ih
  rcases Nat.eq_zero_or_pos k with h0 | h0
  ·subst h0;simp only[YL,JJ,if_true]at he;grind[Zc]
  ·have e2:=rp h0 (by omega:k<=9223372036854775807);simp only[YL,JJ,if_neg (Nat.ne_of_gt h0)]at he;grind[Zc]
theorem A2:Qf Tryz.prog t9:=Qi λx _=>QXx x.1
def A3(t:Int):aB:=b6 (aL t)
def xL:aI:=Qg 101 [(.a [(.sl aM)])] λx=>(none,A3 (ZN x.1))
def QIf:aF:=⟨[t9],false⟩
def QF3:af :=
 (ag [(.ae [aC 1 (.box 77 0 1),ab 2 (aq 0)]),(ag [(.ae [a8 3 1 1,aD 4 167 [3],bL 5 4]),(.cond 5 (ag [(.ae [ab 2 (aq 0)]),.ret]) .skip)]),(.ae [ak 6 1 0,an 7 6 1,a0 8 7 (aq 0) aM,ak 9 8 1,an 10 9 1,ab 2 10]),.ret])
def QNW:List (bn × Md):=[(.t 2,.one .d)]
theorem QPz(m:List aH):aK Tryz.prog 101 [(.a [(.c (.sl aM) m)])] (A3 (ZN m)):=by
 refine bz QIf QF3 QNW 0 0 11 xL (kc A2 kn) (λK =>
 (aJ (!(Zc m)) (K (A3 (0:Int))) (((0:Int)<=0/\Int.toNat 0<m.length)/\K (A3 ((ar b5 m (Int.toNat 0)).2.1))))) (λhb=>?_)
 refine⟨λh=>au (by grind[ZN]),λh=>?_⟩;have:=Yu (m:=m) (by simpa using h);exact⟨⟨by omega,by simp;omega⟩,au (by simp at h;simp[ZN,h])⟩
theorem I6:Qf Tryz.prog xL:=Qi λx _=>QPz x.1
def A4(t:Int):aB:=b6 (aL t)
def xM:aI:=Qg 102 [(.a [(.sl aM)])] λx=>(none,A4 (Zw x.1))
def QQA:aF:=⟨[t9],false⟩
def QE5:af :=
 (ag [(.ae [aC 1 (.box 77 0 1),ab 2 (aq 0)]),(ag [(.ae [a8 3 1 1,aD 4 167 [3],bL 5 4]),(.cond 5 (ag [(.ae [ab 2 (aq 0)]),.ret]) .skip)]),(.ae [ak 6 1 0,an 7 6 1,ak 8 1 0,an 9 8 1,ba 10 9,aw 11 .sub 10 (aq 1),a0 12 7 11 aM,ak 13 12 2,an 14 13 1,ab 2 14]),.ret])
def QUL:List (bn × Md):=[(.t 2,.one .d)]
theorem QFy(m:List aH):aK Tryz.prog 102 [(.a [(.c (.sl aM) m)])] (A4 (Zw m)):=by
 refine bz QQA QE5 QUL 0 0 15 xM (kc A2 kn) (λK =>
 (aJ (!(Zc m)) (K (A4 (0:Int))) ((0<=aG ((m.length:Int)-1)/\Int.toNat (aG ((m.length:Int)-1))<m.length)/\K (A4 ((ar b5 m (Int.toNat (aG ((m.length:Int)-1)))).2.2.1))))) (λhb=>?_)
 refine⟨λh=>au (by grind[Zw]),λh=>?_⟩;have:=Yu (m:=m) (by simpa using h);have e:=rp this.1 (by omega:m.length<=9223372036854775807);rw[e.1];exact⟨⟨e.2,by omega⟩,au (by simp at h;simp[Zw,h])⟩
theorem I7:Qf Tryz.prog xM:=Qi λx _=>QFy x.1
def I8(t:Int):aB:=b6 (aL t)
def sd:aI:=Qg 190 [(.c TI)] λx=>(none,I8 (QQ x.1))
def QRH:aF:=⟨[],false⟩
def QSW:af :=
 (ag [(.ae [ab 2 (aq 0)]),(.ae [ab 3 0,aC 4 (.mm true 3 (aq (-2147483647))),aC 5 (.mm false 4 (aq 2147483647)),ab 2 5]),.ret])
def QPt:List (bn × Md):=[(.t 2,.one .d)]
theorem QMa(x:Int):aK Tryz.prog 190 [(.c TI x)] (I8 (QQ x)):=by
 refine bz QRH QSW QPt 0 0 6 sd kn (λK =>
 K (I8 (if(2147483647:Int)<(if x<(-2147483647:Int) then(-2147483647:Int) else x) then(2147483647:Int) else(if x<(-2147483647:Int) then(-2147483647:Int) else x)))) (λhb=>?_)
 exact au (QTn x)
theorem xN:Qf Tryz.prog sd:=Qi λx _=>QMa x.1
def I9(t:Int × Bool):aB:=b6 (.tp [(aL t.1),(bE t.2)])
def xO:aI:=Qg 189 [(.c TI)] λx=>(none,I9 (ZT x.1))
def QX0:aF:=⟨[sd,xF],false⟩
def QHy:af :=
 (ag [(.ae [ab 2 (aq 0),ab 3 (a6 false)]),(.ae [ab 4 0,aD 5 190 [4],ab 6 0,aD 7 240 [6],bL 8 7,ab 2 5,ab 3 8]),.ret])
def QHz:List (bn × Md):=[(.t 2,.one .d),(.t 3,.one .d)]
theorem QKV(x:Int):aK Tryz.prog 189 [(.c TI x)] (I9 (ZT x)):=by
 refine bz QX0 QHy QHz 0 0 9 xO (kc xN (kc IC kn)) (λK =>
 K (I9 ((QQ x),(!(Zv x))))) (λhb=>?_)
 exact au rfl
theorem Ka:Qf Tryz.prog xO:=Qi λx _=>QKV x.1
def xP(t:Int × Bool):aB:=b6 (.tp [(aL t.1),(bE t.2)])
def ua:aI:=Qg 185 [(.c TI)] λx=>(none,xP (ZT x.1))
def QNv:aF:=⟨[],false⟩
def QYc:af :=
 (ag [(.ae [ab 2 (aq 0),ab 3 (a6 false)]),(ag [(.ae [ab 4 0,aw 5 .gtr 4 (aq 2147483647)]),(.cond 5 (ag [(.ae [ab 2 (aq 2147483647),ab 3 (a6 true)]),.ret]) .skip)]),(ag [(.ae [ab 6 0,aw 7 .lss 6 (aq (-2147483647))]),(.cond 7 (ag [(.ae [ab 2 (aq (-2147483647)),ab 3 (a6 true)]),.ret]) .skip)]),(.ae [ab 8 0,ab 2 8,ab 3 (a6 false)]),.ret])
def QVu:List (bn × Md):=[(.t 2,.one .d),(.t 3,.one .d)]
theorem QQD(x:Int):aK Tryz.prog 185 [(.c TI x)] (xP (ZT x)):=by
 refine bz QNv QYc QVu 0 0 9 ua kn (λK =>
 (aJ (decide (x>2147483647)) (K (xP ((2147483647:Int),true))) (aJ (decide (x<(-2147483647:Int))) (K (xP ((-2147483647:Int),true))) (K (xP (x,false)))))) (λhb=>?_)
 refine⟨λh=>au ?_,λh=>⟨λh2=>au ?_,λh2=>au ?_⟩⟩
 all_goals (simp at *;simp[ZT,QQ,Zv,jO,jP];omega)
theorem A5:Qf Tryz.prog ua:=Qi λx _=>QQD x.1
def Kb(t:Int):aB:=b6 (aL t)
def ub:aI:=Qg 186 [(.c TI)] λx=>(none,Kb (QQ x.1))
def QFG:aF:=⟨[ua],false⟩
def QGB:af :=
 (ag [(.ae [ab 2 (aq 0)]),(.ae [ab 6 0,aD 7 185 [6],ab 5 7,bF 8 5 0,bF 9 5 1,ab 3 8,ab 4 9]),(.ae [ab 10 3,ab 2 10]),.ret])
def QNM:List (bn × Md):=[(.t 2,.one .d)]
theorem QHv(x:Int):aK Tryz.prog 186 [(.c TI x)] (Kb (QQ x)):=by
 refine bz QFG QGB QNM 0 0 11 ub (kc A5 kn) (λK =>
 K (Kb ((ZT x).1))) (λhb=>?_)
 exact au rfl
theorem A6:Qf Tryz.prog ub:=Qi λx _=>QHv x.1
def A7(t:Int):aB:=b6 (aL t)
def Kc:aI:=Qg 263 [(.c TI),(.c TI)] λx=>(some (Gp x.1 x.2.1),A7 (At x.1 x.2.1))
def QIe:aF:=⟨[],false⟩
def QK0:af :=
 (ag [(.ae [ab 4 (aq 0)]),(.ae [ab 6 0,ab 7 1,aw 8 .quo 6 7,ab 5 8]),(ag [(.ae [ab 9 0,ab 10 1,aw 11 .rem 9 10,aw 12 .neq 11 (aq 0),ab 13 12,.bt 13 true [ab 14 0,aw 15 .lss 14 (aq 0),ab 16 1,aw 17 .lss 16 (aq 0),aC 18 (.ic true 15 17)] 19 18]),(.cond 19 (.ae [ab 20 5,aw 21 .sub 20 (aq 1),ab 5 21]) .skip)]),(.ae [ab 22 5,ab 4 22]),.ret])
def QIZ:List (bn × Md):=[(.t 4,.one .d)]
theorem QVm(a:Int)(b:Int)(hp:Gp a b):aK Tryz.prog 263 [(.c TI a),(.c TI b)] (A7 (At a b)):=by
 refine bz QIe QK0 QIZ 0 0 23 Kc kn (λK =>
 ((¬ (b:Int)=0)/\((¬ (b:Int)=0)/\(aJ (((Int.tmod a b) != 0)&&(!((decide (a<0))==(decide (b<0))))) (K (A7 (aG ((aG (Int.tdiv a b))-1)))) (K (A7 (aG (Int.tdiv a b)))))))) (λhb=>?_)
 obtain⟨h1,h2,rfl⟩:=hp;have hq:aG (Int.tdiv a 65536)=Int.tdiv a 65536:=by
  rw[Int.tdiv_eq_ediv];have:Int.sign 65536=1:=rfl;rw[this];exact QG (by split <;> omega) (by split <;> omega)
 have iK:aG (Int.tdiv a 65536-1)=Int.tdiv a 65536-1:=by
  rw[Int.tdiv_eq_ediv];have:Int.sign 65536=1:=rfl;rw[this];exact QG (by split <;> omega) (by split <;> omega)
 have hf:=QTI a;rw[hq,iK];refine⟨by omega,by omega,λh=>au ?_,λh=>au ?_⟩
 ·rw[if_pos h]at hf;exact hf
 ·rw[if_neg (by rw[h];simp)]at hf;exact hf
theorem QIL:Qf Tryz.prog Kc:=Qi λx h=>QVm x.1 x.2.1 h
def Kd(t:Int × Bool):aB:=b6 (.tp [(aL t.1),(bE t.2)])
def uc:aI:=Qg 106 [(.c TI),(.c TI)] λx=>(none,Kd (Q4 x.1 x.2.1))
def QYq:aF:=⟨[sd,xO],false⟩
def QLe:af :=
 (ag [(.ae [ab 4 (aq 0),ab 5 (a6 false)]),(.ae [ab 6 0,aD 7 190 [6],ab 8 1,aD 9 190 [8],aw 10 .add 7 9,aD 11 189 [10],bF 12 11 0,bF 13 11 1,ab 4 12,ab 5 13]),.ret])
def QFD:List (bn × Md):=[(.t 4,.one .d),(.t 5,.one .d)]
theorem QP6(a:Int)(b:Int):aK Tryz.prog 106 [(.c TI a),(.c TI b)] (Kd (Q4 a b)):=by
 refine bz QYq QLe QFD 0 0 14 uc (kc xN (kc Ka kn)) (λK =>
 K (Kd ((ZT (aG ((QQ a)+(QQ b)))).1,(ZT (aG ((QQ a)+(QQ b)))).2))) (λhb=>?_)
 have h1:=JI a;have h2:=JI b;rw[QG (x:=QQ a+QQ b) (by omega) (by omega)];exact au rfl
theorem A8:Qf Tryz.prog uc:=Qi λx _=>QP6 x.1 x.2.1
def Ke(t:Int × Bool):aB:=b6 (.tp [(aL t.1),(bE t.2)])
def se:aI:=Qg 99 [(.c TI),(.c TI)] λx=>(none,Ke (Q4 x.1 x.2.1))
def QHW:aF:=⟨[ub,ua],false⟩
def QM8:af :=
 (ag [(.ae [ab 4 (aq 0),ab 5 (a6 false)]),(.ae [ab 6 0,aD 7 186 [6],ab 8 1,aD 9 186 [8],aw 10 .add 7 9,aD 11 185 [10],bF 12 11 0,bF 13 11 1,ab 4 12,ab 5 13]),.ret])
def QKW:List (bn × Md):=[(.t 4,.one .d),(.t 5,.one .d)]
theorem QGO(a:Int)(b:Int):aK Tryz.prog 99 [(.c TI a),(.c TI b)] (Ke (Q4 a b)):=by
 refine bz QHW QM8 QKW 0 0 14 se (kc A6 (kc A5 kn)) (λK =>
 K (Ke ((ZT (aG ((QQ a)+(QQ b)))).1,(ZT (aG ((QQ a)+(QQ b)))).2))) (λhb=>?_)
 have h1:=JI a;have h2:=JI b;rw[QG (x:=QQ a+QQ b) (by omega) (by omega)];exact au rfl
theorem xQ:Qf Tryz.prog se:=Qi λx _=>QGO x.1 x.2.1
def Kf(t:Int × Bool):aB:=b6 (.tp [(aL t.1),(bE t.2)])
def Kg:aI:=Qg 196 [(.c TI),(.c TI)] λx=>(none,Kf (Y8 x.1 x.2.1))
def QMO:aF:=⟨[sd,xO],false⟩
def QFr:af :=
 (ag [(.ae [ab 4 (aq 0),ab 5 (a6 false)]),(.ae [ab 6 0,aD 7 190 [6],ab 8 1,aD 9 190 [8],aw 10 .sub 7 9,aD 11 189 [10],bF 12 11 0,bF 13 11 1,ab 4 12,ab 5 13]),.ret])
def QVX:List (bn × Md):=[(.t 4,.one .d),(.t 5,.one .d)]
theorem QSO(a:Int)(b:Int):aK Tryz.prog 196 [(.c TI a),(.c TI b)] (Kf (Y8 a b)):=by
 refine bz QMO QFr QVX 0 0 14 Kg (kc xN (kc Ka kn)) (λK =>
 K (Kf ((ZT (aG ((QQ a)-(QQ b)))).1,(ZT (aG ((QQ a)-(QQ b)))).2))) (λhb=>?_)
 have h1:=JI a;have h2:=JI b;rw[QG (x:=QQ a-QQ b) (by omega) (by omega)];exact au rfl
theorem QR5:Qf Tryz.prog Kg:=Qi λx _=>QSO x.1 x.2.1
def Kh(t:Int × Bool):aB:=b6 (.tp [(aL t.1),(bE t.2)])
def Ki:aI:=Qg 192 [(.c TI),(.c TI)] λx=>(none,Kh (Y8 x.1 x.2.1))
def QS6:aF:=⟨[ub,ua],false⟩
def QNP:af :=
 (ag [(.ae [ab 4 (aq 0),ab 5 (a6 false)]),(.ae [ab 6 0,aD 7 186 [6],ab 8 1,aD 9 186 [8],aw 10 .sub 7 9,aD 11 185 [10],bF 12 11 0,bF 13 11 1,ab 4 12,ab 5 13]),.ret])
def QUK:List (bn × Md):=[(.t 4,.one .d),(.t 5,.one .d)]
theorem QE6(a:Int)(b:Int):aK Tryz.prog 192 [(.c TI a),(.c TI b)] (Kh (Y8 a b)):=by
 refine bz QS6 QNP QUK 0 0 14 Ki (kc A6 (kc A5 kn)) (λK =>
 K (Kh ((ZT (aG ((QQ a)-(QQ b)))).1,(ZT (aG ((QQ a)-(QQ b)))).2))) (λhb=>?_)
 have h1:=JI a;have h2:=JI b;rw[QG (x:=QQ a-QQ b) (by omega) (by omega)];exact au rfl
theorem QGD:Qf Tryz.prog Ki:=Qi λx _=>QE6 x.1 x.2.1
def Kj(t:Int × Bool):aB:=b6 (.tp [(aL t.1),(bE t.2)])
def xR:aI:=Qg 239 [(.c TI),(.c TI)] λx=>(none,Kj (Q7 x.1 x.2.1))
def QJ4:aF:=⟨[sd,xO],false⟩
def QFl:af :=
 (ag [(.ae [ab 4 (aq 0),ab 5 (a6 false)]),(.ae [ab 6 0,aD 7 190 [6],ab 8 1,aD 9 190 [8],aw 10 .mul 7 9,aw 11 .shr 10 (.k (.c (.int .u64) (16:Int))),aD 12 189 [11],bF 13 12 0,bF 14 12 1,ab 4 13,ab 5 14]),.ret])
def QOi:List (bn × Md):=[(.t 4,.one .d),(.t 5,.one .d)]
theorem QRZ(a:Int)(b:Int):aK Tryz.prog 239 [(.c TI a),(.c TI b)] (Kj (Q7 a b)):=by
 refine bz QJ4 QFl QOi 0 0 15 xR (kc xN (kc Ka kn)) (λK =>
 (((0:Int)<=16)/\K (Kj ((ZT (Int.fdiv (aG ((QQ a)*(QQ b))) (2 ^ (min (Int.toNat 16) (IntKind.i64.bits))))).1,(ZT (Int.fdiv (aG ((QQ a)*(QQ b))) (2 ^ (min (Int.toNat 16) (IntKind.i64.bits))))).2)))) (λhb=>?_)
 have h:=Tn a b;rw[QG (x:=QQ a*QQ b) (by omega) (by omega)];exact⟨by omega,au rfl⟩
theorem Kk:Qf Tryz.prog xR:=Qi λx _=>QRZ x.1 x.2.1
def Kl(t:Int × Bool):aB:=b6 (.tp [(aL t.1),(bE t.2)])
def xS:aI:=Qg 237 [(.c TI),(.c TI)] λx=>(none,Kl (Q7 x.1 x.2.1))
def QSS:aF:=⟨[ub,Kc,ua],false⟩
def QNH:af :=
 (ag [(.ae [ab 4 (aq 0),ab 5 (a6 false)]),(.ae [ab 6 0,aD 7 186 [6],ab 8 1,aD 9 186 [8],aw 10 .mul 7 9,aD 11 263 [10,(aq 65536)],aD 12 185 [11],bF 13 12 0,bF 14 12 1,ab 4 13,ab 5 14]),.ret])
def QWw:List (bn × Md):=[(.t 4,.one .d),(.t 5,.one .d)]
theorem QVL(a:Int)(b:Int):aK Tryz.prog 237 [(.c TI a),(.c TI b)] (Kl (Q7 a b)):=by
 refine bz QSS QNH QWw 0 0 15 xS (kc A6 (kc QIL (kc A5 kn))) (λK =>
 ((Gp (aG ((QQ a)*(QQ b))) (65536:Int))/\K (Kl ((ZT (At (aG ((QQ a)*(QQ b))) (65536:Int))).1,(ZT (At (aG ((QQ a)*(QQ b))) (65536:Int))).2)))) (λhb=>?_)
 have h:=Tn a b;rw[QG (x:=QQ a*QQ b) (by omega) (by omega)];exact⟨⟨h.1,h.2,rfl⟩,au rfl⟩
theorem Km:Qf Tryz.prog xS:=Qi λx _=>QVL x.1 x.2.1
def Kn(t:Int):aB:=b6 (aL t)
def Ko:aI:=Qg 259 [(.c TI)] λx=>(none,Kn (nB x.1))
def QOH:aF:=⟨[sd],false⟩
def QHK:af :=
 (ag [(.ae [ab 2 (aq 0)]),(.ae [ab 3 0,aD 4 190 [3],aC 5 (.mm true (aq 0) 4),ab 2 5]),.ret])
def QIn:List (bn × Md):=[(.t 2,.one .d)]
theorem QH7(a:Int):aK Tryz.prog 259 [(.c TI a)] (Kn (nB a)):=by
 refine bz QOH QHK QIn 0 0 6 Ko (kc xN kn) (λK =>
 K (Kn (if(0:Int)<(QQ a) then(QQ a) else(0:Int)))) (λhb=>?_)
 exact au rfl
theorem QXJ:Qf Tryz.prog Ko:=Qi λx _=>QH7 x.1
def Kp(t:Int):aB:=b6 (aL t)
def Kq:aI:=Qg 256 [(.c TI)] λx=>(none,Kp (nB x.1))
def QJB:aF:=⟨[ub],false⟩
def QIC:af :=
 (ag [(.ae [ab 2 (aq 0)]),(.ae [ab 3 0,aD 4 186 [3],aC 5 (.mm true (aq 0) 4),ab 2 5]),.ret])
def QNN:List (bn × Md):=[(.t 2,.one .d)]
theorem QWH(a:Int):aK Tryz.prog 256 [(.c TI a)] (Kp (nB a)):=by
 refine bz QJB QIC QNN 0 0 6 Kq (kc A6 kn) (λK =>
 K (Kp (if(0:Int)<(QQ a) then(QQ a) else(0:Int)))) (λhb=>?_)
 exact au rfl
theorem QPb:Qf Tryz.prog Kq:=Qi λx _=>QWH x.1
def Kr(t:(List Int)):aB:=⟨(.r [TI] 0 0 t.length),[(.sl 3 [TI] (.dp 0 true []) t)],[],false,[]⟩
def Jy:aI:=Qg 104 [(.c (.sl [TI]))] λx=>(some (Qs (α:=List Int) x.1),Kr (id (α:=List Int) x.1))
def QVt:aF:=⟨[],true⟩
def QNO:af :=
 (ag [(.ae [ab 2 (.k (.n [TI]))]),(.ae [aC 3 (.bW 3 [TI] []),ab 4 0,aC 5 (.app 3 4 3 [TI]),ab 2 5]),.ret])
def QYo:List (bn × Md):=[(.t 2,.one (.p 3))]
theorem QGP(l:List Int)(hp:Qs (α:=List Int) l):aK Tryz.prog 104 [(.c (.sl [TI]) l)] (Kr (id (α:=List Int) l)):=by
 refine bz QVt QNO QYo 0 0 6 Jy kn (λK =>
 (((0=0\/0+l.length<=0)/\0+l.length<=ca)/\K (Kr (List.take (0+l.length) (l:List Int))))) (λhb=>?_)
 have hl:=ZK l;unfold Qs at hp;exact⟨⟨.inl rfl,by rw[Ze];omega⟩,au (by simp)⟩
theorem nR:Qf Tryz.prog Jy:=Qi λx h=>QGP x.1 h
def xT(t:(List aH)):aB:=⟨(.r aM 0 0 t.length),[(.sl 134 aM (.dp 0 true []) t)],[],false,[]⟩
def Ks:aI:=Qg 165 [(.c (.sl aM))] λx=>(some (Qs (α:=List aH) x.1),xT (id (α:=List aH) x.1))
def Kt:aF:=⟨[Jy],true⟩
def Wv:af :=
 (ag [(.ae [aw 10 .lss 9 8]),(.cond 10 .skip (.exit 0)),(.block 1 (ag [(.ae [a0 11 7 9 aM,a8 12 11 4,aC 5 (.new 134 (bG aM)),aU 5 12 4]),(.draw [ab 13 3,ak 14 5 0,an 15 14 1,ak 16 5 1,an 17 16 1,ak 18 5 2,an 19 18 1,ak 20 5 3,an 21 20 1,aD 22 104 [21],aC 23 (.build (bG aM) [(0,1,15),(1,1,17),(2,1,19),(3,1,22)]),aC 24 (.bW 134 aM [23]),aC 25 (.app 13 24 134 aM),ab 3 25] [(1,9),(2,9),(3,9),(4,9),(5,9),(6,9)])])),(.ae [aw 26 .add 9 (aq 1),ab 9 26])])
def Ww:List (Nat × Md):=[(3,.one .f),(7,.one .d),(8,.one .d),(9,.one .d)]
def Wx:af :=
 (ag [(.ae [ab 27 3,ab 2 27]),.ret])
def QPR:af :=
 (ag [(.ae [ab 2 (.k (.n aM))]),(.ae [aC 6 (.bW 134 aM []),ab 3 6]),(ag [(.ae [ab 7 0,ba 8 7,ab 9 (aq 0)]),(.block 0 (.loop Ww Wv))]),Wx])
def Wy:List (bn × Md):=[(.t 2,.one (.p 134))]
def Wz:Qb:=TQ 0 0 Wy K
def QHZ:Qb:=aY (aO Kt 0 Wx (Wz K)) (Wz K)
def QUM:Qb:=a7 0 (QHZ K)
def Ku(l:List aH)(x:Int)(ops:List aH):Prop:=Loop Kt 0 Ww Wv (QUM K) ⟨[(3,(.r aM 0 0 ops.length)),(7,(bg aM l)),(8,(aL (l.length:Int))),(9,(aL x))],[(0,(.sl 134 aM (.dp 0 true []) ops))],1⟩
theorem WA(l:List aH)(x:Int)(ops:List aH) (h :
 (aJ (decide (x<(l.length:Int))) ((0<=x/\Int.toNat x<l.length)/\(((Qs (α:=List Int) ((ar b5 l (Int.toNat x)).2.2.2))/\((ops.length=ops.length\/ops.length+1<=ops.length)/\ops.length+1<=ca))/\(Ku K l (aG (x+1)) (List.take (ops.length+1) ((List.take ops.length ops)++([((ar b5 l (Int.toNat x)).1,(ar b5 l (Int.toNat x)).2.1,(ar b5 l (Int.toNat x)).2.2.1,(List.take ((id (α:=List Int) ((ar b5 l (Int.toNat x)).2.2.2)).length) (List.drop 0 (id (α:=List Int) ((ar b5 l (Int.toNat x)).2.2.2)))))])))))) (K (xT (List.take ops.length ops))))):Ku K l x ops :=
 Loop.of h
theorem QPV(l:List aH)(hp:Qs (α:=List aH) l):aK Tryz.prog 165 [(.c (.sl aM) l)] (xT (id (α:=List aH) l)):=by
 refine bz Kt QPR Wy 0 0 28 Ks (kc nR kn) (λK =>
 (Ku K l 0 ([]:List aH))) (λhb=>?_)
 refine YC (Q:=λz=>xT z=xT (id (α:=List aH) l)) hp (λk x v hk hl hg hv hx ih=>?_) (λhq=>?_) (au rfl)
 ·refine WA _ _ _ _ ⟨λ_=>?_,λh=>by simp at h;omega⟩
  try simp only[QR,QL,QY]at hx
  rw[Int.toNat_natCast,hg,dL (by omega),Q8,rF];exact⟨⟨by omega,hk⟩,⟨(show Sz.sz (_:List Int)<=2147483648 by omega),room (by omega)⟩,ih⟩
 ·refine WA _ _ _ _ ⟨λh=>by simp at h,λ_=>?_⟩;exact au (by simp)
theorem QMz:Qf Tryz.prog Ks:=Qi λx h=>QPV x.1 h
def xU(t:(List (List Int))):aB:=⟨(.r [(.sl [TI])] 0 0 t.length),[(.sl 106 [(.sl [TI])] (.dp 0 true []) t)],[],false,[]⟩
def xV:aI:=Qg 103 [(.c (.sl [(.sl [TI])]))] λx=>(some (Qs (α:=List (List Int)) x.1),xU (id (α:=List (List Int)) x.1))
def Kv:aF:=⟨[Jy],true⟩
def WB:af :=
 (ag [(.ae [aw 10 .lss 9 8]),(.cond 10 .skip (.exit 0)),(.block 1 (ag [(.ae [a0 11 7 9 [(.sl [TI])],a8 12 11 1,aC 5 (.new 106 [(.n [TI])]),aU 5 12 1]),(.ae [ab 13 3,ak 14 5 0,an 15 14 1,aD 16 104 [15],aC 17 (.build [(.n [TI])] [(0,1,16)]),aC 18 (.bW 106 [(.sl [TI])] [17]),aC 19 (.app 13 18 106 [(.sl [TI])]),ab 3 19])])),(.ae [aw 20 .add 9 (aq 1),ab 9 20])])
def WC:List (Nat × Md):=[(3,.one .f),(7,.one .d),(8,.one .d),(9,.one .d)]
def WD:af :=
 (ag [(.ae [ab 21 3,ab 2 21]),.ret])
def QKu:af :=
 (ag [(.ae [ab 2 (.k (.n [(.sl [TI])]))]),(.ae [aC 6 (.bW 106 [(.sl [TI])] []),ab 3 6]),(ag [(.ae [ab 7 0,ba 8 7,ab 9 (aq 0)]),(.block 0 (.loop WC WB))]),WD])
def WE:List (bn × Md):=[(.t 2,.one (.p 106))]
def WG:Qb:=TQ 0 0 WE K
def QVk:Qb:=aY (aO Kv 0 WD (WG K)) (WG K)
def QVG:Qb:=a7 0 (QVk K)
def Kw(l:List (List Int))(x:Int)(rows:List (List Int)):Prop:=Loop Kv 0 WC WB (QVG K) ⟨[(3,(.r [(.sl [TI])] 0 0 rows.length)),(7,(bg [(.sl [TI])] l)),(8,(aL (l.length:Int))),(9,(aL x))],[(0,(.sl 106 [(.sl [TI])] (.dp 0 true []) rows))],1⟩
theorem WH(l:List (List Int))(x:Int)(rows:List (List Int)) (h :
 (aJ (decide (x<(l.length:Int))) ((0<=x/\Int.toNat x<l.length)/\(((Qs (α:=List Int) (ar ([]:List Int) l (Int.toNat x)))/\((rows.length=rows.length\/rows.length+1<=rows.length)/\rows.length+1<=ca))/\(Kw K l (aG (x+1)) (List.take (rows.length+1) ((List.take rows.length rows)++([(List.take ((id (α:=List Int) (ar ([]:List Int) l (Int.toNat x))).length) (List.drop 0 (id (α:=List Int) (ar ([]:List Int) l (Int.toNat x)))))])))))) (K (xU (List.take rows.length rows))))):Kw K l x rows :=
 Loop.of h
theorem QVH(l:List (List Int))(hp:Qs (α:=List (List Int)) l):aK Tryz.prog 103 [(.c (.sl [(.sl [TI])]) l)] (xU (id (α:=List (List Int)) l)):=by
 refine bz Kv QKu WE 0 0 22 xV (kc nR kn) (λK =>
 (Kw K l 0 ([]:List (List Int)))) (λhb=>?_)
 refine YC (Q:=λz=>xU z=xU (id (α:=List (List Int)) l)) hp (λk x v hk hl hg hv hx ih=>?_) (λhq=>?_) (au rfl)
 ·refine WH _ _ _ _ ⟨λ_=>?_,λh=>by simp at h;omega⟩
  try simp only[QR,QL,QY]at hx
  rw[Int.toNat_natCast,hg,dL (by omega),Q8,rF];exact⟨⟨by omega,hk⟩,⟨(show Sz.sz (_:List Int)<=2147483648 by omega),room (by omega)⟩,ih⟩
 ·refine WH _ _ _ _ ⟨λh=>by simp at h,λ_=>?_⟩;exact au (by simp)
theorem Kx:Qf Tryz.prog xV:=Qi λx h=>QVH x.1 h
def xW(t:(List Qo)):aB:=⟨(.r QF 0 0 t.length),[(.sl 154 QF (.dp 0 true []) t)],[],false,[]⟩
def Ky:aI:=Qg 126 [(.c (.sl QF))] λx=>(some (Qs (α:=List Qo) x.1),xW (id (α:=List Qo) x.1))
def Kz:aF:=⟨[Jy],true⟩
def WI:af :=
 (ag [(.ae [aw 10 .lss 9 8]),(.cond 10 .skip (.exit 0)),(.block 1 (ag [(.ae [a0 11 7 9 QF,a8 12 11 2,aC 5 (.new 154 (bG QF)),aU 5 12 2]),(.draw [ab 13 3,ak 14 5 0,an 15 14 1,aD 16 104 [15],ak 17 5 1,an 18 17 1,aD 19 104 [18],aC 20 (.build (bG QF) [(0,1,16),(1,1,19)]),aC 21 (.bW 154 QF [20]),aC 22 (.app 13 21 154 QF),ab 3 22] [(3,4),(3,5)])])),(.ae [aw 23 .add 9 (aq 1),ab 9 23])])
def WJ:List (Nat × Md):=[(3,.one .f),(7,.one .d),(8,.one .d),(9,.one .d)]
def WK:af :=
 (ag [(.ae [ab 24 3,ab 2 24]),.ret])
def QFi:af :=
 (ag [(.ae [ab 2 (.k (.n QF))]),(.ae [aC 6 (.bW 154 QF []),ab 3 6]),(ag [(.ae [ab 7 0,ba 8 7,ab 9 (aq 0)]),(.block 0 (.loop WJ WI))]),WK])
def WL:List (bn × Md):=[(.t 2,.one (.p 154))]
def WM:Qb:=TQ 0 0 WL K
def QMn:Qb:=aY (aO Kz 0 WK (WM K)) (WM K)
def QHn:Qb:=a7 0 (QMn K)
def KA(b:List Qo)(x:Int)(ZX:List Qo):Prop:=Loop Kz 0 WJ WI (QHn K) ⟨[(3,(.r QF 0 0 ZX.length)),(7,(bg QF b)),(8,(aL (b.length:Int))),(9,(aL x))],[(0,(.sl 154 QF (.dp 0 true []) ZX))],1⟩
theorem WN(b:List Qo)(x:Int)(ZX:List Qo) (h :
 (aJ (decide (x<(b.length:Int))) ((0<=x/\Int.toNat x<b.length)/\(((Qs (α:=List Int) ((ar QV b (Int.toNat x)).1))/\((Qs (α:=List Int) ((ar QV b (Int.toNat x)).2))/\((ZX.length=ZX.length\/ZX.length+1<=ZX.length)/\ZX.length+1<=ca)))/\(KA K b (aG (x+1)) (List.take (ZX.length+1) ((List.take ZX.length ZX)++([((List.take ((id (α:=List Int) ((ar QV b (Int.toNat x)).1)).length) (List.drop 0 (id (α:=List Int) ((ar QV b (Int.toNat x)).1)))),(List.take ((id (α:=List Int) ((ar QV b (Int.toNat x)).2)).length) (List.drop 0 (id (α:=List Int) ((ar QV b (Int.toNat x)).2)))))])))))) (K (xW (List.take ZX.length ZX))))):KA K b x ZX :=
 Loop.of h
theorem QIE(b:List Qo)(hp:Qs (α:=List Qo) b):aK Tryz.prog 126 [(.c (.sl QF) b)] (xW (id (α:=List Qo) b)):=by
 refine bz Kz QFi WL 0 0 25 Ky (kc nR kn) (λK =>
 (KA K b 0 ([]:List Qo))) (λhb=>?_)
 refine YC (Q:=λz=>xW z=xW (id (α:=List Qo) b)) hp (λk x v hk hl hg hv hx ih=>?_) (λhq=>?_) (au rfl)
 ·refine WN _ _ _ _ ⟨λ_=>?_,λh=>by simp at h;omega⟩
  try simp only[QR,QL,QY]at hx
  rw[Int.toNat_natCast,hg,dL (by omega),Q8,rF,rF];exact⟨⟨by omega,hk⟩,⟨(show Sz.sz (_:List Int)<=2147483648 by omega),(show Sz.sz (_:List Int)<=2147483648 by omega),room (by omega)⟩,ih⟩
 ·refine WN _ _ _ _ ⟨λh=>by simp at h,λ_=>?_⟩;exact au (by simp)
theorem QWA:Qf Tryz.prog Ky:=Qi λx h=>QIE x.1 h
def KB(t:QO):aB:=⟨(.a [(.r [(.sl [TI])] 0 0 ((t.1).length)),(aL t.2.1),(bE t.2.2)]),[(.sl 106 [(.sl [TI])] (.dp 0 true []) t.1)],[],false,[]⟩
def KC:aI:=Qg 166 [(.a Zj)] λx=>(some (Qs (α:=QO) x.1),KB (id (α:=QO) x.1))
def QSj:aF:=⟨[xV],true⟩
def QOz:af :=
 (ag [(.ae [aC 1 (.box 37 0 3),aC 2 (.new 37 (bG Zj))]),(.draw [ak 3 1 0,an 4 3 1,aD 5 103 [4],ak 6 1 1,an 7 6 1,ak 8 1 2,an 9 8 1,aC 10 (.build (bG Zj) [(0,1,5),(1,1,7),(2,1,9)]),aU 2 10 3] [(2,3),(2,4),(2,5),(2,6)]),.ret])
def QTp:List (bn × Md):=[(.l 2 3 true,.b [.p 106,.d,.d])]
theorem QMx(g:QO)(hp:Qs (α:=QO) g):aK Tryz.prog 166 [(.a (aS.cells Zj g))] (KB (id (α:=QO) g)):=by
 refine bz QSj QOz QTp 0 0 11 KC (kc Kx kn) (λK =>
 ((Qs (α:=List (List Int)) g.1)/\K (KB ((List.take ((id (α:=List (List Int)) g.1).length) (id (α:=List (List Int)) g.1)),g.2.1,g.2.2)))) (λhb=>?_)
 unfold Qs at hp;simp only[QR,QL,QY]at hp;exact⟨hp,au (by simp)⟩
theorem QQ7:Qf Tryz.prog KC:=Qi λx h=>QMx x.1 h
def xX(t:(List aH)):aB:=fZ (bg aM t)
def KD:aI:=Qg 155 [(.c (.sl aM))] λx=>(some (Qs (α:=List aH) x.1),xX (id (α:=List aH) x.1))
def KE:aF:=⟨[],false⟩
def WO:af :=
 (ag [(ag [(.ae [ab 7 4,ab 8 0,ba 9 8,aw 10 .lss 7 9]),(.cond 10 .skip (.exit 0))]),(.block 1 (ag [(.ae [ab 13 0,ab 14 4,a0 15 13 14 aM,a8 16 15 4,aC 5 (.new 134 (bG aM)),aU 5 16 4]),(.ae [aC 17 (.bW 3 [TI] []),ab 18 0,ab 19 4,a0 20 18 19 aM,ak 21 20 3,an 22 21 1,aC 23 (.app 17 22 3 [TI]),ak 24 5 3,aU 24 23 1]),(.ae [ab 25 3,a8 26 5 4,aC 27 (.bW 134 aM [26]),aC 28 (.app 25 27 134 aM),ab 3 28])])),(.ae [ab 11 4,aw 12 .add 11 (aq 1),ab 4 12])])
def WQ:List (Nat × Md):=[(0,.one .d),(3,.one .f),(4,.one .d)]
def WR:af :=
 (ag [(.ae [ab 29 3,ab 2 29]),.ret])
def QQT:af :=
 (ag [(.ae [ab 2 (.k (.n aM))]),(.ae [aC 6 (.bW 134 aM []),ab 3 6]),(ag [(.ae [ab 4 (aq 0)]),(.block 0 (.loop WQ WO))]),WR])
def WS:List (bn × Md):=[(.t 2,.one .d)]
def WT:Qb:=TQ 0 0 WS K
def QLh:Qb:=aY (aO KE 0 WR (WT K)) (WT K)
def QSc:Qb:=a7 0 (QLh K)
def KF(l:List aH)(i:Int)(out:List aH):Prop:=Loop KE 0 WQ WO (QSc K) ⟨[(0,(bg aM l)),(3,(.r aM 0 0 out.length)),(4,(aL i))],[(0,(.sl 134 aM .ow out))],1⟩
theorem WU(l:List aH)(i:Int)(out:List aH) (h :
 (aJ (decide (i<(l.length:Int))) ((0<=i/\Int.toNat i<l.length)/\(((0<=i/\Int.toNat i<l.length)/\((0=0\/0+((ar b5 l (Int.toNat i)).2.2.2).length<=0)/\0+((ar b5 l (Int.toNat i)).2.2.2).length<=ca))/\(((out.length=out.length\/out.length+1<=out.length)/\out.length+1<=ca)/\(KF K l (aG (i+1)) (List.take (out.length+1) ((List.take out.length out)++([((ar b5 l (Int.toNat i)).1,(ar b5 l (Int.toNat i)).2.1,(ar b5 l (Int.toNat i)).2.2.1,(List.take (0+((ar b5 l (Int.toNat i)).2.2.2).length) (List.drop 0 ((ar b5 l (Int.toNat i)).2.2.2))))]))))))) (K (xX (List.take out.length (List.drop 0 out)))))):KF K l i out :=
 Loop.of h
theorem QI4(l:List aH)(hp:Qs (α:=List aH) l):aK Tryz.prog 155 [(.c (.sl aM) l)] (xX (id (α:=List aH) l)):=by
 refine bz KE QQT WS 0 0 30 KD kn (λK =>
 (KF K l 0 ([]:List aH))) (λhb=>?_)
 refine YC (Q:=λz=>xX z=xX (id (α:=List aH) l)) hp (λk x v hk hl hg hv hx ih=>?_) (λhq=>?_) (au rfl)
 ·refine WU _ _ _ _ ⟨λ_=>?_,λh=>by simp at h;omega⟩
  try simp only[QR,QL,QY]at hx
  rw[Int.toNat_natCast,hg,dL (by omega),Q8,tM];exact⟨⟨by omega,hk⟩,⟨⟨by omega,hk⟩,.inl rfl,by have:=ZK x.2.2.2;rw[Ze];omega⟩,room (by omega),ih⟩
 ·refine WU _ _ _ _ ⟨λh=>by simp at h,λ_=>?_⟩;exact au (by simp)
theorem QPA:Qf Tryz.prog KD:=Qi λx h=>QI4 x.1 h
def xY(t:(List (List Int))):aB:=fZ (bg [(.sl [TI])] t)
def KG:aI:=Qg 156 [(.c (.sl [(.sl [TI])]))] λx=>(some (Qs (α:=List (List Int)) x.1),xY (id (α:=List (List Int)) x.1))
def KH:aF:=⟨[],false⟩
def WV:af :=
 (ag [(ag [(.ae [ab 6 4,ab 7 0,ba 8 7,aw 9 .lss 6 8]),(.cond 9 .skip (.exit 0))]),(.block 1 (.ae [ab 12 3,aC 13 (.bW 3 [TI] []),ab 14 0,ab 15 4,a0 16 14 15 [(.sl [TI])],ak 17 16 0,an 18 17 1,aC 19 (.app 13 18 3 [TI]),aC 20 (.build [(.n [TI])] [(0,1,19)]),aC 21 (.bW 106 [(.sl [TI])] [20]),aC 22 (.app 12 21 106 [(.sl [TI])]),ab 3 22])),(.ae [ab 10 4,aw 11 .add 10 (aq 1),ab 4 11])])
def WW:List (Nat × Md):=[(0,.one .d),(3,.one .f),(4,.one .d)]
def WX:af :=
 (ag [(.ae [ab 23 3,ab 2 23]),.ret])
def QJU:af :=
 (ag [(.ae [ab 2 (.k (.n [(.sl [TI])]))]),(.ae [aC 5 (.bW 106 [(.sl [TI])] []),ab 3 5]),(ag [(.ae [ab 4 (aq 0)]),(.block 0 (.loop WW WV))]),WX])
def WY:List (bn × Md):=[(.t 2,.one .d)]
def WZ:Qb:=TQ 0 0 WY K
def QVD:Qb:=aY (aO KH 0 WX (WZ K)) (WZ K)
def QVd:Qb:=a7 0 (QVD K)
def KI(l:List (List Int))(i:Int)(out:List (List Int)):Prop:=Loop KH 0 WW WV (QVd K) ⟨[(0,(bg [(.sl [TI])] l)),(3,(.r [(.sl [TI])] 0 0 out.length)),(4,(aL i))],[(0,(.sl 106 [(.sl [TI])] .ow out))],1⟩
theorem W0(l:List (List Int))(i:Int)(out:List (List Int)) (h :
 (aJ (decide (i<(l.length:Int))) (((0<=i/\Int.toNat i<l.length)/\(((0=0\/0+(ar ([]:List Int) l (Int.toNat i)).length<=0)/\0+(ar ([]:List Int) l (Int.toNat i)).length<=ca)/\((out.length=out.length\/out.length+1<=out.length)/\out.length+1<=ca)))/\(KI K l (aG (i+1)) (List.take (out.length+1) ((List.take out.length out)++([(List.take (0+(ar ([]:List Int) l (Int.toNat i)).length) (List.drop 0 (ar ([]:List Int) l (Int.toNat i))))]))))) (K (xY (List.take out.length (List.drop 0 out)))))):KI K l i out :=
 Loop.of h
theorem QSe(l:List (List Int))(hp:Qs (α:=List (List Int)) l):aK Tryz.prog 156 [(.c (.sl [(.sl [TI])]) l)] (xY (id (α:=List (List Int)) l)):=by
 refine bz KH QJU WY 0 0 24 KG kn (λK =>
 (KI K l 0 ([]:List (List Int)))) (λhb=>?_)
 refine YC (Q:=λz=>xY z=xY (id (α:=List (List Int)) l)) hp (λk x v hk hl hg hv hx ih=>?_) (λhq=>?_) (au rfl)
 ·refine W0 _ _ _ _ ⟨λ_=>?_,λh=>by simp at h;omega⟩
  try simp only[QR,QL,QY]at hx
  rw[Int.toNat_natCast,hg,dL (by omega),Q8,tM];exact⟨⟨⟨by omega,hk⟩,⟨.inl rfl,by have:=ZK x;rw[Ze];omega⟩,room (by omega)⟩,ih⟩
 ·refine W0 _ _ _ _ ⟨λh=>by simp at h,λ_=>?_⟩;exact au (by simp)
theorem QTh:Qf Tryz.prog KG:=Qi λx h=>QSe x.1 h
def A9(t:(List Int) × Bool):aB:=fZ (.tp [(bg [TI] t.1),(bE t.2)])
def KJ:aI:=Qg 194 [(.c (.sl [TI])),(.c (.sl [TI]))] λx=>(some (Zo (α:=List Int) (β:=List Int) x.1 x.2.1),A9 (nC x.1 x.2.1))
def KK:aF:=⟨[se],false⟩
def W1:af :=
 (ag [(ag [(.ae [ab 12 8,ab 13 0,ba 14 13,aw 15 .lss 12 14,ab 16 15,.bt 16 true [ab 17 8,ab 18 1,ba 19 18,aw 20 .lss 17 19] 21 20]),(.cond 21 .skip (.exit 0))]),(.block 1 (ag [(.draw [ab 25 0,ab 26 8,a0 27 25 26 [TI],an 28 27 1,ab 29 1,ab 30 8,a0 31 29 30 [TI],an 32 31 1,aD 33 99 [28,32],ab 24 33,bF 34 24 0,bF 35 24 1,ab 9 34,ab 10 35] []),(.ae [ab 36 6,ab 37 9,aC 38 (.bW 3 [TI] [37]),aC 39 (.app 36 38 3 [TI]),ab 6 39]),(.ae [ab 40 7,ab 41 40,.bt 41 false [ab 42 10] 43 42,ab 7 43])])),(.ae [ab 22 8,aw 23 .add 22 (aq 1),ab 8 23])])
def W2:List (Nat × Md):=[(0,.one .d),(1,.one .d),(6,.one .f),(7,.one .d),(8,.one .d)]
def W3:af :=
 (ag [(.ae [ab 44 6,ab 45 7,ab 4 44,ab 5 45]),.ret])
def QKF:af :=
 (ag [(.ae [ab 4 (.k (.n [TI])),ab 5 (a6 false)]),(.ae [aC 11 (.bW 3 [TI] []),ab 6 11]),(.ae [ab 7 (a6 false)]),(ag [(.ae [ab 8 (aq 0)]),(.block 0 (.loop W2 W1))]),W3])
def W4:List (bn × Md):=[(.t 4,.one .d),(.t 5,.one .d)]
def W5:Qb:=TQ 0 0 W4 K
def QTi:Qb:=aY (aO KK 0 W3 (W5 K)) (W5 K)
def QK7:Qb:=a7 0 (QTi K)
def Ba(a:List Int)(b:List Int)(sat:Bool)(i:Int)(out:List Int):Prop:=Loop KK 0 W2 W1 (QK7 K) ⟨[(0,(bg [TI] a)),(1,(bg [TI] b)),(6,(.r [TI] 0 0 out.length)),(7,(bE sat)),(8,(aL i))],[(0,(.sl 3 [TI] .ow out))],1⟩
theorem KL(a:List Int)(b:List Int)(sat:Bool)(i:Int)(out:List Int) (h :
 (aJ ((decide (i<(a.length:Int)))&&(decide (i<(b.length:Int)))) (((0<=i/\Int.toNat i<a.length)/\(0<=i/\Int.toNat i<b.length))/\(((out.length=out.length\/out.length+1<=out.length)/\out.length+1<=ca)/\(Ba K a b (sat||((Q4 (ar (0:Int) a (Int.toNat i)) (ar (0:Int) b (Int.toNat i))).2)) (aG (i+1)) (List.take (out.length+1) ((List.take out.length out)++([(Q4 (ar (0:Int) a (Int.toNat i)) (ar (0:Int) b (Int.toNat i))).1])))))) (K (A9 ((List.take out.length (List.drop 0 out)),sat))))):Ba K a b sat i out :=
 Loop.of h
theorem QFw(a:List Int)(b:List Int)(hp:Zo (α:=List Int) (β:=List Int) a b):aK Tryz.prog 194 [(.c (.sl [TI]) a),(.c (.sl [TI]) b)] (A9 (nC a b)):=by
 refine bz KK QKF W4 0 0 46 KJ (kc xQ kn) (λK =>
 (Ba K a b false 0 ([]:List Int))) (λhb=>?_)
 unfold Zo at hp;have ha:=ZK a;have fw:=ZK b;refine Zf a (λr k=>∀(v:List Int)(s:Bool),v.length=k->(v++(vz Q4 r (b.drop k)).1,s||(vz Q4 r (b.drop k)).2)=(nC a b)->Ba (λr'=>r'=A9 (nC a b)) a b s k v) ?_ ?_ [] false rfl (by unfold nC;simp)
 ·intro v s hv he;refine KL _ _ _ _ _ _ ⟨λh=>by simp at h,λ_=>au ?_⟩;rw[<- he];simp[vz]
 ·intro k x r hk aW hg ih v s hv he;by_cases iO:k<b.length
  ·obtain⟨y,q,hq⟩:=Yt (l:=b) (k:=k) iO;refine KL _ _ _ _ _ _ ⟨λ_=>?_,λh=>by simp at h;omega⟩;rw[Int.toNat_natCast,hg,ZF hq,dL (by omega),Q8];refine⟨⟨⟨by omega,aW⟩,by omega,iO⟩,room (by omega),ih _ _ (Yc hv) ?_⟩;rw[<- he,hq,vz,ZA hq];simp[Bool.or_assoc]
  ·refine KL _ _ _ _ _ _ ⟨λh=>by simp at h;omega,λ_=>au ?_⟩;rw[<- he,drop_nil (l:=b) (by omega)];simp[vz]
theorem QKH:Qf Tryz.prog KJ:=Qi λx h=>QFw x.1 x.2.1 h
def xZ(t:QO):aB:=⟨(.a [(.r [(.sl [TI])] 0 0 ((t.1).length)),(aL t.2.1),(bE t.2.2)]),[(.sl 106 [(.sl [TI])] (.dp 0 true []) t.1)],[],false,[]⟩
def KM:aI:=Qg 113 [(.a Zj),(.a Zj)] λx=>(some (Zo (α:=QO) (β:=QO) x.1 x.2.1),xZ (Z0 x.1 x.2.1))
def sf:aF:=⟨[uc],true⟩
def W6:af :=
 (ag [(ag [(.ae [ab 35 8,ak 36 2 0,an 37 36 1,ab 38 6,a0 39 37 38 [(.sl [TI])],ak 40 39 0,an 41 40 1,ba 42 41,aw 43 .lss 35 42,ab 44 43,.bt 44 true [ab 45 8,ak 46 3 0,an 47 46 1,ab 48 6,a0 49 47 48 [(.sl [TI])],ak 50 49 0,an 51 50 1,ba 52 51,aw 53 .lss 45 52] 54 53]),(.cond 54 .skip (.exit 2))]),(.block 3 (ag [(.draw [ak 58 2 0,an 59 58 1,ab 60 6,a0 61 59 60 [(.sl [TI])],ak 62 61 0,an 63 62 1,ab 64 8,a0 65 63 64 [TI],an 66 65 1,ak 67 3 0,an 68 67 1,ab 69 6,a0 70 68 69 [(.sl [TI])],ak 71 70 0,an 72 71 1,ab 73 8,a0 74 72 73 [TI],an 75 74 1,aD 76 106 [66,75],ab 57 76,bF 77 57 0,bF 78 57 1,ab 9 77,ab 10 78] []),(.ae [ak 79 7 0,an 80 79 1,ab 81 9,aC 82 (.bW 3 [TI] [81]),aC 83 (.app 80 82 3 [TI]),ak 84 7 0,aU 84 83 1]),(.ae [ak 85 5 2,an 86 85 1,ab 87 86,.bt 87 false [ab 88 10] 89 88,ak 90 5 2,aU 90 89 1])])),(.ae [ab 55 8,aw 56 .add 55 (aq 1),ab 8 56])])
def W7:List (Nat × Md):=[(2,.b [.d,.d,.d]),(3,.b [.d,.d,.d]),(4,.b [.f,.d,.d]),(5,.b [.f,.d,.d]),(6,.one .d),(7,.b [.p 3]),(8,.one .d)]
def W8:af :=
 (.ae [ak 91 5 0,an 92 91 1,a8 93 7 1,aC 94 (.bW 106 [(.sl [TI])] [93]),aC 95 (.app 92 94 106 [(.sl [TI])]),ak 96 5 0,aU 96 95 1])
def W9:af :=
 (.ae [ab 32 6,aw 33 .add 32 (aq 1),ab 6 33])
def KN:af :=
 (ag [(ag [(.ae [ab 20 6,ak 21 2 0,an 22 21 1,ba 23 22,aw 24 .lss 20 23,ab 25 24,.bt 25 true [ab 26 6,ak 27 3 0,an 28 27 1,ba 29 28,aw 30 .lss 26 29] 31 30]),(.cond 31 .skip (.exit 0))]),(.block 1 (ag [(.ae [aC 34 (.build [(.n [TI])] []),aC 7 (.new 106 [(.n [TI])]),aU 7 34 1]),(ag [(.ae [ab 8 (aq 0)]),(.block 2 (.loop W7 W6))]),W8])),W9])
def Bb:List (Nat × Md):=[(2,.b [.d,.d,.d]),(3,.b [.d,.d,.d]),(4,.b [.f,.d,.d]),(5,.b [.p 106,.d,.d]),(6,.one .d)]
def Xa:af :=
 (ag [(.ae [ak 98 2 1,an 99 98 1,ak 100 3 1,an 101 100 1,aD 102 106 [99,101],ab 97 102,bF 103 97 0,bF 104 97 1,ab 11 103,ab 12 104]),(.ae [ab 105 11,ak 106 5 1,aU 106 105 1]),(.ae [ak 107 5 2,an 108 107 1,ab 109 108,.bt 109 false [ab 110 12] 111 110,ak 112 5 2,aU 112 111 1]),(.ae [a8 113 5 3,aU 4 113 3]),.ret])
def QVA:af :=
 (ag [(.ae [aC 2 (.box 37 0 3),aC 3 (.box 37 1 3),aC 4 (.new 37 (bG Zj))]),(.ae [ak 13 2 2,an 14 13 1,ab 15 14,.bt 15 false [ak 16 3 2,an 17 16 1] 18 17,aC 19 (.build (bG Zj) [(2,1,18)]),aC 5 (.new 37 (bG Zj)),aU 5 19 3]),(ag [(.ae [ab 6 (aq 0)]),(.block 0 (.loop Bb KN))]),Xa])
def Xb:List (bn × Md):=[(.l 4 3 true,.b [.p 106,.d,.d])]
def Xc:Qb:=TQ 0 0 Xb K
def QKB:Qb:=aY (aO sf 0 Xa (Xc K)) (Xc K)
def KO:Qb:=a7 0 (QKB K)
def Xd:Qb:=aY (λs'=>Loop sf 0 Bb KN (KO K) (gc 0 Bb s')) (KO K)
def QYt:Qb:=aY (aO sf 0 W9 (Xd K)) (Xd K)
def Xe:Qb:=a7 1 (QYt K)
def QPM:Qb:=aY (aO sf 0 W8 (Xe K)) (Xe K)
def QI8:Qb:=a7 2 (QPM K)
def Bc(a:QO)(b:QO)(k:Int)(g2:Bool)(fK:List Int)(i:Int)(j9:List (List Int)):Prop:=Loop sf 0 W7 W6 (QI8 K) ⟨[(2,(.p 0 0 0)),(3,(.p 1 0 0)),(4,(.p 2 0 0)),(5,(.p 4 0 0)),(6,(aL i)),(7,(.p 6 0 0)),(8,(aL k))],[(0,(.box (aS.cells Zj a))),(1,(.box (aS.cells Zj b))),(2,(.box [(.n [(.sl [TI])]),(aL 0),(bE false)])),(3,(.sl 106 [(.sl [TI])] (.dp 0 true []) j9)),(4,(.box [(.r [(.sl [TI])] 3 0 j9.length),(aL 0),(bE g2)])),(5,(.sl 3 [TI] (.dp 0 true []) fK)),(6,(.box [(.r [TI] 5 0 fK.length)]))],7⟩
def Bd(a:QO)(b:QO)(i:Int)(g0:List (List Int))(x4:Bool):Prop:=Loop sf 0 Bb KN (KO K) ⟨[(2,(.p 0 0 0)),(3,(.p 1 0 0)),(4,(.p 2 0 0)),(5,(.p 4 0 0)),(6,(aL i))],[(0,(.box (aS.cells Zj a))),(1,(.box (aS.cells Zj b))),(2,(.box [(.n [(.sl [TI])]),(aL 0),(bE false)])),(3,(.sl 106 [(.sl [TI])] (.dp 0 true []) g0)),(4,(.box [(.r [(.sl [TI])] 3 0 g0.length),(aL 0),(bE x4)]))],5⟩
theorem Xf(a:QO)(b:QO)(k:Int)(g2:Bool)(fK:List Int)(i:Int)(j9:List (List Int)) (h :
 (((0<=i/\Int.toNat i<(a.1).length)/\((decide (k<((ar ([]:List Int) a.1 (Int.toNat i)).length:Int)))=true->(0<=i/\Int.toNat i<(b.1).length)))/\(aJ ((decide (k<((ar ([]:List Int) a.1 (Int.toNat i)).length:Int)))&&(decide (k<((ar ([]:List Int) b.1 (Int.toNat i)).length:Int)))) (((0<=i/\Int.toNat i<(a.1).length)/\((0<=k/\Int.toNat k<(ar ([]:List Int) a.1 (Int.toNat i)).length)/\((0<=i/\Int.toNat i<(b.1).length)/\(0<=k/\Int.toNat k<(ar ([]:List Int) b.1 (Int.toNat i)).length))))/\(((fK.length=fK.length\/fK.length+1<=fK.length)/\fK.length+1<=ca)/\(Bc K a b (aG (k+1)) (g2||((Q4 (ar (0:Int) (ar ([]:List Int) a.1 (Int.toNat i)) (Int.toNat k)) (ar (0:Int) (ar ([]:List Int) b.1 (Int.toNat i)) (Int.toNat k))).2)) (List.take (fK.length+1) ((List.take fK.length fK)++([(Q4 (ar (0:Int) (ar ([]:List Int) a.1 (Int.toNat i)) (Int.toNat k)) (ar (0:Int) (ar ([]:List Int) b.1 (Int.toNat i)) (Int.toNat k))).1]))) i (List.take j9.length j9)))) (((j9.length=j9.length\/j9.length+1<=j9.length)/\j9.length+1<=ca)/\(Bd K a b (aG (i+1)) (List.take (j9.length+1) ((List.take j9.length j9)++([(List.take fK.length (List.drop 0 fK))]))) g2))))):Bc K a b k g2 fK i j9 :=
 Loop.of h
theorem KP(a:QO)(b:QO)(i:Int)(g0:List (List Int))(x4:Bool) (h :
 (aJ ((decide (i<((a.1).length:Int)))&&(decide (i<((b.1).length:Int)))) (Bc K a b 0 x4 ([]:List Int) i (List.take g0.length g0)) (K (xZ ((List.take g0.length g0),(Q4 a.2.1 b.2.1).1,(x4||((Q4 a.2.1 b.2.1).2))))))):Bd K a b i g0 x4 :=
 Loop.of h
theorem QMK(a:QO)(b:QO)(hp:Zo (α:=QO) (β:=QO) a b):aK Tryz.prog 113 [(.a (aS.cells Zj a)),(.a (aS.cells Zj b))] (xZ (Z0 a b)):=by
 refine bz sf QVA Xb 0 0 114 KM (kc A8 kn) (λK =>
 (Bd K a b 0 ([]:List (List Int)) (a.2.2||b.2.2))) (λhb=>?_)
 unfold Zo at hp;simp only[QR,QL,QY]at hp;have ha:=Yo a.1;refine Zf a.1 (λr k=>∀(v:List (List Int))(z:Bool),v.length=k->v++(ZE r (b.1.drop k)).1=(ZE a.1 b.1).1->(z||(ZE r (b.1.drop k)).2)=(a.2.2||b.2.2||(ZE a.1 b.1).2)->Bd (λr'=>r'=xZ (Z0 a b)) a b k v z) ?_ ?_ [] _ rfl (by simp) (by simp)
 ·intro v z hv he hz;refine KP _ _ _ _ _ _ ⟨λh=>by simp at h,λ_=>au ?_⟩;unfold Z0;rw[<- he,<- hz];simp[ZE]
 ·intro k x r hk aW hg ih v z hv he hz;by_cases iO:k<b.1.length
  ·obtain⟨y,q,hq⟩:=Yt (l:=b.1) (k:=k) iO;have hx:=xg hk;have Tc:=ZK x;refine KP _ _ _ _ _ _ ⟨λ_=>?_,λh=>by simp at h;omega⟩;rw[List.take_length];refine Zf x (λr2 j=>∀(w:List Int)(z2:Bool),w.length=j->w++(vz Q4 r2 (y.drop j)).1=(vz Q4 x y).1->(z2||(vz Q4 r2 (y.drop j)).2)=(z||(vz Q4 x y).2)->Bc (λr'=>r'=xZ (Z0 a b)) a b j z2 w k v) ?_ ?_ [] z rfl (by simp) (by simp)
   ·intro w z2 hw eH jh;refine Xf _ _ _ _ _ _ _ _ ?_;rw[Int.toNat_natCast,hg,ZF hq];refine⟨⟨⟨by omega,aW⟩,λh=>by simp at h⟩,λh=>by simp at h,λ_=>⟨room (by omega),?_⟩⟩;rw[xn,dL (by omega),Q8];simp only[vz,List.append_nil,Bool.or_false]at eH jh;refine ih _ _ (Yc hv) ?_ ?_
    ·rw[<- he,hq,ZE,ZA hq,eH];simp
    ·rw[<- hz,hq,ZE,ZA hq,jh];simp[Bool.or_assoc]
   ·intro j e r2 hj lJ ig lX w z2 hw eH jh;refine Xf _ _ _ _ _ _ _ _ ?_;rw[Int.toNat_natCast,Int.toNat_natCast,hg,ZF hq];by_cases Xg:j<y.length
    ·obtain⟨f,q2,gh⟩:=Yt (l:=y) (k:=j) Xg;refine⟨⟨⟨by omega,aW⟩,λ_=>⟨by omega,iO⟩⟩,λ_=>?_,λh=>by simp at h;omega⟩;rw[ig,ZF gh,dL (by omega),Q8,List.take_length];refine⟨⟨⟨by omega,aW⟩,⟨by omega,lJ⟩,⟨by omega,iO⟩,by omega,Xg⟩,room (by omega),lX _ _ (Yc hw) ?_ ?_⟩
     ·rw[<- eH,gh,vz,ZA gh];simp
     ·rw[<- jh,gh,vz,ZA gh];simp[Bool.or_assoc]
    ·refine⟨⟨⟨by omega,aW⟩,λ_=>⟨by omega,iO⟩⟩,λh=>by simp at h;omega,λ_=>⟨room (by omega),?_⟩⟩;rw[xn,dL (by omega),Q8];rw[drop_nil (l:=y) (by omega)]at eH jh;simp only[vz,List.append_nil,Bool.or_false]at eH jh;refine ih _ _ (Yc hv) ?_ ?_
     ·rw[<- he,hq,ZE,ZA hq,eH];simp
     ·rw[<- hz,hq,ZE,ZA hq,jh];simp[Bool.or_assoc]
  ·refine KP _ _ _ _ _ _ ⟨λh=>by simp at h;omega,λ_=>au ?_⟩;unfold Z0;rw[<- he,<- hz,drop_nil (l:=b.1) (by omega)];simp[ZE]
theorem QJT:Qf Tryz.prog KM:=Qi λx h=>QMK x.1 x.2.1 h
def Be(t:QO):aB:=fZ (.a (aS.cells Zj t))
def KQ:aI:=Qg 109 [(.a Zj),(.a Zj)] λx=>(some (Zo (α:=QO) (β:=QO) x.1 x.2.1),Be (Z0 x.1 x.2.1))
def KR:aF:=⟨[KJ,se],false⟩
def Xh:af :=
 (ag [(ag [(.ae [ab 18 6,ak 19 2 0,an 20 19 1,ba 21 20,aw 22 .lss 18 21,ab 23 22,.bt 23 true [ab 24 6,ak 25 3 0,an 26 25 1,ba 27 26,aw 28 .lss 24 27] 29 28]),(.cond 29 .skip (.exit 0))]),(.block 1 (ag [(.draw [ak 33 2 0,an 34 33 1,ab 35 6,a0 36 34 35 [(.sl [TI])],ak 37 36 0,an 38 37 1,ak 39 3 0,an 40 39 1,ab 41 6,a0 42 40 41 [(.sl [TI])],ak 43 42 0,an 44 43 1,aD 45 194 [38,44],ab 32 45,bF 46 32 0,bF 47 32 1,ab 7 46,ab 8 47] []),(.ae [ak 48 5 0,an 49 48 1,ab 50 7,aC 51 (.build [(.n [TI])] [(0,1,50)]),aC 52 (.bW 106 [(.sl [TI])] [51]),aC 53 (.app 49 52 106 [(.sl [TI])]),ak 54 5 0,aU 54 53 1]),(.ae [ak 55 5 2,an 56 55 1,ab 57 56,.bt 57 false [ab 58 8] 59 58,ak 60 5 2,aU 60 59 1])])),(.ae [ab 30 6,aw 31 .add 30 (aq 1),ab 6 31])])
def Xi:List (Nat × Md):=[(2,.b [.d,.d,.d]),(3,.b [.d,.d,.d]),(4,.b [.d,.d,.d]),(5,.b [.o 106,.d,.d]),(6,.one .d)]
def Xj:af :=
 (ag [(.ae [ak 62 2 1,an 63 62 1,ak 64 3 1,an 65 64 1,aD 66 99 [63,65],ab 61 66,bF 67 61 0,bF 68 61 1,ab 9 67,ab 10 68]),(.ae [ab 69 9,ak 70 5 1,aU 70 69 1]),(.ae [ak 71 5 2,an 72 71 1,ab 73 72,.bt 73 false [ab 74 10] 75 74,ak 76 5 2,aU 76 75 1]),(.ae [a8 77 5 3,aU 4 77 3]),.ret])
def QO4:af :=
 (ag [(.ae [aC 2 (.box 37 0 3),aC 3 (.box 37 1 3),aC 4 (.new 37 (bG Zj))]),(.ae [ak 11 2 2,an 12 11 1,ab 13 12,.bt 13 false [ak 14 3 2,an 15 14 1] 16 15,aC 17 (.build (bG Zj) [(2,1,16)]),aC 5 (.new 37 (bG Zj)),aU 5 17 3]),(ag [(.ae [ab 6 (aq 0)]),(.block 0 (.loop Xi Xh))]),Xj])
def Xk:List (bn × Md):=[(.l 4 3 true,.b [.d,.d,.d])]
def Xl:Qb:=TQ 0 0 Xk K
def QGW:Qb:=aY (aO KR 0 Xj (Xl K)) (Xl K)
def QUa:Qb:=a7 0 (QGW K)
def Bf(a:QO)(b:QO)(i:Int)(g0:List (List Int))(g2:Bool):Prop:=Loop KR 0 Xi Xh (QUa K) ⟨[(2,(.p 0 0 0)),(3,(.p 1 0 0)),(4,(.p 2 0 0)),(5,(.p 4 0 0)),(6,(aL i))],[(0,(.box (aS.cells Zj a))),(1,(.box (aS.cells Zj b))),(2,(.box (aS.cells Zj ([],(0:Int),false)))),(3,(.sl 106 [(.sl [TI])] .ow g0)),(4,(.box [(.r [(.sl [TI])] 3 0 g0.length),(aL 0),(bE g2)]))],5⟩
theorem KS(a:QO)(b:QO)(i:Int)(g0:List (List Int))(g2:Bool) (h :
 (aJ ((decide (i<((a.1).length:Int)))&&(decide (i<((b.1).length:Int)))) (((0<=i/\Int.toNat i<(a.1).length)/\((0<=i/\Int.toNat i<(b.1).length)/\(Zo (α:=List Int) (β:=List Int) (ar ([]:List Int) a.1 (Int.toNat i)) (ar ([]:List Int) b.1 (Int.toNat i)))))/\(((g0.length=g0.length\/g0.length+1<=g0.length)/\g0.length+1<=ca)/\(Bf K a b (aG (i+1)) (List.take (g0.length+1) ((List.take g0.length g0)++([(nC (ar ([]:List Int) a.1 (Int.toNat i)) (ar ([]:List Int) b.1 (Int.toNat i))).1]))) (g2||((nC (ar ([]:List Int) a.1 (Int.toNat i)) (ar ([]:List Int) b.1 (Int.toNat i))).2))))) (K (Be ((List.take g0.length (List.drop 0 g0)),(Q4 a.2.1 b.2.1).1,(g2||((Q4 a.2.1 b.2.1).2))))))):Bf K a b i g0 g2 :=
 Loop.of h
theorem QXD(a:QO)(b:QO)(hp:Zo (α:=QO) (β:=QO) a b):aK Tryz.prog 109 [(.a (aS.cells Zj a)),(.a (aS.cells Zj b))] (Be (Z0 a b)):=by
 refine bz KR QO4 Xk 0 0 78 KQ (kc QKH (kc xQ kn)) (λK =>
 (Bf K a b 0 ([]:List (List Int)) (a.2.2||b.2.2))) (λhb=>?_)
 unfold Zo at hp;simp only[QR,QL,QY]at hp;have ha:=Yo a.1;refine Zf a.1 (λr k=>∀(v:List (List Int))(z:Bool),v.length=k->v++(ZE r (b.1.drop k)).1=(ZE a.1 b.1).1->(z||(ZE r (b.1.drop k)).2)=(a.2.2||b.2.2||(ZE a.1 b.1).2)->Bf (λr'=>r'=Be (Z0 a b)) a b k v z) ?_ ?_ [] _ rfl (by simp) (by simp)
 ·intro v z hv he hz;refine KS _ _ _ _ _ _ ⟨λh=>by simp at h,λ_=>au ?_⟩;unfold Z0;rw[<- he,<- hz];simp[ZE]
 ·intro k x r hk aW hg ih v z hv he hz;by_cases iO:k<b.1.length
  ·obtain⟨y,q,hq⟩:=Yt (l:=b.1) (k:=k) iO;have hx:=xg hk;have hy:=xg hq;refine KS _ _ _ _ _ _ ⟨λ_=>?_,λh=>by simp at h;omega⟩;rw[Int.toNat_natCast,hg,ZF hq,dL (by omega),Q8];refine⟨⟨⟨by omega,aW⟩,⟨by omega,iO⟩,by unfold Zo;omega⟩,room (by omega),ih _ _ (Yc hv) ?_ ?_⟩
   ·rw[<- he,hq,ZE,ZA hq];simp[nC]
   ·rw[<- hz,hq,ZE,ZA hq];simp[nC,Bool.or_assoc]
  ·refine KS _ _ _ _ _ _ ⟨λh=>by simp at h;omega,λ_=>au ?_⟩;unfold Z0;rw[<- he,<- hz,drop_nil (l:=b.1) (by omega)];simp[ZE]
theorem QX8:Qf Tryz.prog KQ:=Qi λx h=>QXD x.1 x.2.1 h
def KT(t:(List aH)):aB:=fZ (.a [(bg aM t)])
def ud:aI:=Qg 74 [(.a Qe)] λx=>(none,KT (Zm x.1))
def QM7:aF:=⟨[],false⟩
def QH8:af :=
 (ag [(.ae [aC 1 (.box 39 0 14),aC 2 (.new 77 [(.n aM)])]),(.ae [ak 3 1 2,an 4 3 1,aC 5 (.build [(.n aM)] [(0,1,4)]),aU 2 5 1]),.ret])
def QYp:List (bn × Md):=[(.l 2 1 true,.b [.d])]
theorem QLO(s:Qc):aK Tryz.prog 74 [(.a (aS.cells Qe s))] (KT (Zm s)):=by
 refine bz QM7 QH8 QYp 0 0 6 ud kn (λK =>
 K (KT s.2.2.1)) (λhb=>?_)
 exact au rfl
theorem Bg:Qf Tryz.prog ud:=Qi λx _=>QLO x.1
def ue(t:Bool):aB:=b6 (bE t)
def KU:aI:=Qg 168 [(.a [(.sl aM)]),(.c (.sl [(.sl [TI])]))] λx=>(none,ue (YP x.1 x.2.1))
def KV:aF:=⟨[],false⟩
def Xm:af :=
 (ag [(.ae [aw 17 .lss 16 15]),(.cond 17 .skip (.exit 0)),(.block 1 (ag [(.ae [ab 18 16,a0 19 14 16 aM,a8 20 19 4,aC 6 (.new 134 (bG aM)),ab 5 18,aU 6 20 4]),(.draw [ab 21 1,ab 22 5,a0 23 21 22 [(.sl [TI])],ak 24 23 0,an 25 24 1,ba 26 25,ak 27 6 3,an 28 27 1,ba 29 28,aw 30 .neq 26 29] []),(.cond 30 (ag [(.ae [ab 4 (a6 false)]),.ret]) .skip)])),(.ae [aw 31 .add 16 (aq 1),ab 16 31])])
def Xn:List (Nat × Md):=eV [1,14,15,16]
def Xo:af :=
 (ag [(.ae [ab 4 (a6 true)]),.ret])
def QLZ:af :=
 (ag [(.ae [aC 2 (.box 77 0 1),ab 4 (a6 false)]),(ag [(.ae [ab 7 1,ba 8 7,ak 9 2 0,an 10 9 1,ba 11 10,aw 12 .neq 8 11]),(.cond 12 (ag [(.ae [ab 4 (a6 false)]),.ret]) .skip)]),(ag [(.ae [ak 13 2 0,an 14 13 1,ba 15 14,ab 16 (aq 0)]),(.block 0 (.loop Xn Xm))]),Xo])
def Xp:List (bn × Md):=[(.t 4,.one .d)]
def Xq:Qb:=TQ 0 0 Xp K
def QVO:Qb:=aY (aO KV 0 Xo (Xq K)) (Xq K)
def QRM:Qb:=a7 0 (QVO K)
def Bh(m:List aH)(rows:List (List Int))(x:Int):Prop:=Loop KV 0 Xn Xm (QRM K) ⟨[(1,(bg [(.sl [TI])] rows)),(14,(bg aM m)),(15,(aL (m.length:Int))),(16,(aL x))],[],0⟩
theorem Xr(m:List aH)(rows:List (List Int))(x:Int) (h :
 (aJ (decide (x<(m.length:Int))) ((0<=x/\Int.toNat x<m.length)/\((0<=x/\Int.toNat x<rows.length)/\(aJ (((ar ([]:List Int) rows (Int.toNat x)).length:Int) != (((ar b5 m (Int.toNat x)).2.2.2).length:Int)) (K (ue false)) (Bh K m rows (aG (x+1)))))) (K (ue true)))):Bh K m rows x :=
 Loop.of h
theorem QPd(m:List aH)(rows:List (List Int)):aK Tryz.prog 168 [(.a [(.c (.sl aM) m)]),(.c (.sl [(.sl [TI])]) rows)] (ue (YP m rows)):=by
 refine bz KV QLZ Xp 0 0 32 KU kn (λK =>
 (aJ ((rows.length:Int) != (m.length:Int)) (K (ue false)) (Bh K m rows 0))) (λhb=>?_)
 have lW:(m).length<=9223372036854775807:=hb.1.1.1;have nS:rows.length<=9223372036854775807:=hb.2.1.1;refine⟨λh=>au (by grind[YP]),λh=>?_⟩;have hl:rows.length=m.length:=by
  have:((rows.length:Int)==(m.length:Int))=true:=by simpa[bne]using h
  have:=of_decide_eq_true (by simpa using this:decide ((rows.length:Int)=m.length)=true);omega
 refine Zf m (λr k=>YR r (rows.drop k)=YR m rows->Bh (λr'=>r'=ue (YP m rows)) m rows k) ?_ ?_ rfl
 ·intro he;refine Xr _ _ _ _ ⟨λh=>by simp at h,λ_=>au ?_⟩;grind[YP,YR]
 ·intro k x r hk aW hg ih he;obtain⟨y,q,hq⟩:∃ y q,rows.drop k=y::q:=by
   cases hq:rows.drop k with
   | nil=>have:=congrArg List.length hq;simp at this;omega
   | cons y q=>exact⟨y,q,rfl⟩
  refine Xr _ _ _ _ ⟨λ_=>?_,λh=>by simp at h;omega⟩;rw[Int.toNat_natCast,hg,ZF hq,QG (x:=(k:Int)+1) (by omega) (by omega)];rw[hq,YR]at he;rw[ZA hq]at ih;refine⟨⟨by omega,aW⟩,⟨by omega,by omega⟩,λh=>au ?_,λh=>ih ?_⟩
  ·grind[YP]
  ·grind
theorem QOe:Qf Tryz.prog KU:=Qi λx _=>QPd x.1 x.2.1
def uf(t:Bool):aB:=b6 (bE t)
def Bi:aI:=Qg 110 [(.c (.sl aM)),(.c (.sl [(.sl [TI])])),(.c TI)] λx=>(some (xk x.1 x.2.1 x.2.2.1),uf (ZS x.1 x.2.1 x.2.2.1))
def ug:aF:=⟨[Jk],false⟩
def Xs:af :=
 (ag [(.ae [ab 30 1,ab 31 7,a0 32 30 31 [(.sl [TI])],ak 33 32 0,an 34 33 1,ab 35 8,aD 36 100 [34,35],bL 37 36]),(.cond 37 (ag [(.ae [ab 6 (a6 false)]),.ret]) .skip)])
def QFY:List (Nat × Md):=eV [0,1,2,7,8]
def QSi:af:=.wk QFY Xs
def Xt:af :=
 (.ae [ab 12 7,aw 13 .add 12 (aq 1),ab 7 13])
def KW:af :=
 (ag [(ag [(.ae [ab 9 7,ab 10 2,aw 11 .lss 9 10]),(.cond 11 .skip (.exit 0))]),(.block 1 (ag [(.ae [ab 14 0,ab 15 0,ba 16 15,aw 17 .sub 16 (aq 1),a0 18 14 17 aM,ak 19 18 2,an 20 19 1,ab 8 20]),(ag [(.ae [ab 21 7,ab 22 0,ba 23 22,aw 24 .lss 21 23]),(.cond 24 (.ae [ab 25 0,ab 26 7,a0 27 25 26 aM,ak 28 27 1,an 29 28 1,ab 8 29]) .skip)]),QSi])),Xt])
def Bj:List (Nat × Md):=eV [0,1,2,7]
def Xu:af :=
 (ag [(.ae [ab 6 (a6 true)]),.ret])
def QYz:af :=
 (ag [(.ae [ab 6 (a6 false)]),(ag [(.ae [ab 7 (aq 0)]),(.block 0 (.loop Bj KW))]),Xu])
def Xv:List (bn × Md):=[(.t 6,.one .d)]
def Xw:Qb:=TQ 0 0 Xv K
def QQ3:Qb:=aY (aO ug 0 Xu (Xw K)) (Xw K)
def KX:Qb:=a7 0 (QQ3 K)
def Xx:Qb:=aY (λs'=>Loop ug 0 Bj KW (KX K) (gc 0 Bj s')) (KX K)
def QPj:Qb:=aY (aO ug 0 Xt (Xx K)) (Xx K)
def QUn:Qb:=a7 1 (QPj K)
@[irreducible] def Bk(ops:List aH)(rows:List (List Int))(n:Int)(size:Int)(i:Int):Prop:=aO ug 0 Xs (QUn K) ⟨[(0,(bg aM ops)),(1,(bg [(.sl [TI])] rows)),(2,(aL n)),(7,(aL i)),(8,(aL size))],[],0⟩
def Bl(ops:List aH)(rows:List (List Int))(n:Int)(i:Int):Prop:=Loop ug 0 Bj KW (KX K) ⟨[(0,(bg aM ops)),(1,(bg [(.sl [TI])] rows)),(2,(aL n)),(7,(aL i))],[],0⟩
theorem QWf(ops:List aH)(rows:List (List Int))(n:Int)(size:Int)(i:Int) (h :
 ((0<=i/\Int.toNat i<rows.length)/\(aJ (!(QH (ar ([]:List Int) rows (Int.toNat i)) size)) (K (uf false)) (Bl K ops rows n (aG (i+1)))))):dt (Bk K ops rows n size i) :=
 dt.of h
theorem Xy(ops:List aH)(rows:List (List Int))(n:Int)(i:Int) (h :
 (aJ (decide (i<n)) ((0<=aG ((ops.length:Int)-1)/\Int.toNat (aG ((ops.length:Int)-1))<ops.length)/\(aJ (decide (i<(ops.length:Int))) ((0<=i/\Int.toNat i<ops.length)/\(Bk K ops rows n ((ar b5 ops (Int.toNat i)).2.1) i)) (Bk K ops rows n ((ar b5 ops (Int.toNat (aG ((ops.length:Int)-1)))).2.2.1) i))) (K (uf true)))):Bl K ops rows n i :=
 Loop.of h
theorem QPq(ops:List aH)(rows:List (List Int))(n:Int)(hp:xk ops rows n):aK Tryz.prog 110 [(.c (.sl aM) ops),(.c (.sl [(.sl [TI])]) rows),(.c TI n)] (uf (ZS ops rows n)):=by
 refine bz ug QYz Xv 0 0 38 Bi (kc JP kn) (λK =>
 (Bl K ops rows n 0)) (λhb=>?_)
 have si:ops.length<=9223372036854775807:=hb.1.1;have nS:rows.length<=9223372036854775807:=hb.2.1.1;have:=QW9 rows 0 n (Int.le_refl 0) hp.2.1 hp.2.2 (λr k=>YE ops k r=(ZS ops rows n)->Bl (λr'=>r'=uf (ZS ops rows n)) ops rows n k) ?_ ?_ (by simp[ZS,slice])
 ·exact this
 ·intro he;refine Xy _ _ _ _ _ ⟨λh=>by simp at h;omega,λ_=>au ?_⟩;simpa[YE]using he
 ·intro k x r h1 h2 aW hg ih he;have e:=rp hp.1 si;have key:Bk (λr'=>r'=uf (ZS ops rows n)) ops rows n (YQ ops k) k:=by
   refine(QWf _ _ _ _ _ _ ?_).h;rw[Int.toNat_natCast,hg,QG (x:=(k:Int)+1) (by omega) (by omega)];rw[YE]at he;refine⟨⟨by omega,aW⟩,λh=>au ?_,λh=>ih ?_⟩ <;> grind
  refine Xy _ _ _ _ _ ⟨λ_=>?_,λh=>by simp at h;omega⟩;rw[e.1,Int.toNat_natCast];refine⟨⟨e.2,by have:=hp.1;omega⟩,λh=>⟨⟨by omega,by simpa using h⟩,?_⟩,λh=>?_⟩
  ·rw[YQ,if_pos (by simpa using h)]at key;exact key
  ·rw[YQ,if_neg (by simpa using h)]at key;exact key
theorem Xz:Qf Tryz.prog Bi:=Qi λx h=>QPq x.1 x.2.1 x.2.2.1 h
def nT(t:Bool):aB:=b6 (bE t)
def uh:aI:=Qg 72 [(.a Qe)] λx=>(none,nT (QU x.1))
def Bm:aF:=⟨[ud,t9,KU,Bi,xL,xM,IL],false⟩
def XA:af :=
 (ag [(.ae [aw 45 .lss 44 43]),(.cond 45 .skip (.exit 0)),(.block 1 (ag [(.ae [a0 46 42 44 QE,a8 47 46 2,aC 6 (.new 108 (bG QE)),aU 6 47 2]),(.ae [ak 48 6 1,an 49 48 1,ba 50 49,ab 51 4,aw 52 .neq 50 51,ab 53 52,.bt 53 false [ak 54 1 2,an 55 54 1,ak 56 6 1,an 57 56 1,ab 58 4,aD 59 110 [55,57,58],bL 60 59] 61 60]),(.cond 61 (ag [(.ae [ab 2 (a6 false)]),.ret]) .skip)])),(.ae [aw 62 .add 44 (aq 1),ab 44 62])])
def XB:List (Nat × Md):=[(1,.b (dG 14)),(3,.b [.d]),(4,.one .d),(42,.one .d),(43,.one .d),(44,.one .d)]
def XC:af :=
 (ag [(.draw [a8 63 3 1,aD 64 101 [63],a8 65 3 1,aD 66 102 [65],ab 7 64,ab 8 66] [(1,2)]),(.ae [ak 67 1 7,an 68 67 1,ab 69 7,aD 70 169 [68,69],ab 71 70,.bt 71 true [ak 72 1 10,an 73 72 1,ab 74 7,aD 75 169 [73,74]] 76 75,ab 77 76,.bt 77 true [ak 78 1 8,an 79 78 1,ab 80 8,aD 81 169 [79,80]] 82 81,ab 83 82,.bt 83 true [ak 84 1 9,an 85 84 1,ab 86 8,aD 87 169 [85,86]] 88 87,ab 2 88]),.ret])
def XD:af :=
 (ag [(ag [(.ae [ak 41 1 5,an 42 41 1,ba 43 42,ab 44 (aq 0)]),(.block 0 (.loop XB XA))]),XC])
def QV2:List (Nat × Md):=[(1,.b (dG 14)),(3,.b [.d]),(4,.one .d)]
def QJ8:af:=.wk QV2 XD
def QWn:af :=
 (ag [(.ae [aC 1 (.box 39 0 14),ab 2 (a6 false)]),(.ae [a8 9 1 14,aD 10 74 [9],aC 3 (.new 77 [(.n aM)]),aU 3 10 1]),(ag [(.ae [a8 11 3 1,aD 12 167 [11],bL 13 12,ab 14 13,.bt 14 false [ak 15 1 0,an 16 15 1,aw 17 .lss 16 (aq 0)] 18 17,ab 19 18,.bt 19 false [ak 20 1 0,an 21 20 1,ak 22 1 1,an 23 22 1,ba 24 23,aw 25 .gtr 21 24] 26 25,ab 27 26,.bt 27 false [a8 28 3 1,ak 29 1 11,ak 30 29 0,an 31 30 1,aD 32 168 [28,31],bL 33 32] 34 33]),(.cond 34 (ag [(.ae [ab 2 (a6 false)]),.ret]) .skip)]),(.ae [ak 35 1 2,an 36 35 1,ba 37 36,aw 38 .add 37 (aq 1),ab 4 38]),(ag [(.ae [ak 39 1 4,an 40 39 1]),(.cond 40 (.ae [ab 4 (aq 1)]) .skip)]),QJ8])
def XE:List (bn × Md):=[(.t 2,.one .d)]
def KY:Qb:=TQ 0 0 XE K
def QOV:Qb:=aY (aO Bm 0 XC (KY K)) (KY K)
def QLF:Qb:=a7 0 (QOV K)
def x6(s:Qc)(kept:Int)(x:Int):Prop:=Loop Bm 0 XB XA (QLF K) ⟨[(1,(.p 0 0 0)),(3,(.p 1 0 0)),(4,(aL kept)),(42,(bg QE s.2.2.2.2.2.1)),(43,(aL ((s.2.2.2.2.2.1).length:Int))),(44,(aL x))],[(0,(.box (aS.cells Qe s))),(1,(.box [(bg aM (Zm s))]))],2⟩
@[irreducible] def KZ(s:Qc)(kept:Int):Prop:=aO Bm 0 XD (KY K) ⟨[(1,(.p 0 0 0)),(3,(.p 1 0 0)),(4,(aL kept))],[(0,(.box (aS.cells Qe s))),(1,(.box [(bg aM (Zm s))]))],2⟩
theorem XF(s:Qc)(kept:Int)(x:Int) (h :
 (aJ (decide (x<((s.2.2.2.2.2.1).length:Int))) ((0<=x/\Int.toNat x<(s.2.2.2.2.2.1).length)/\(((!((((ar QS s.2.2.2.2.2.1 (Int.toNat x)).2).length:Int) != kept))=true->(xk s.2.2.1 ((ar QS s.2.2.2.2.2.1 (Int.toNat x)).2) kept))/\(aJ (((((ar QS s.2.2.2.2.2.1 (Int.toNat x)).2).length:Int) != kept)||(!(ZS s.2.2.1 ((ar QS s.2.2.2.2.2.1 (Int.toNat x)).2) kept))) (K (nT false)) (x6 K s kept (aG (x+1)))))) (K (nT ((((Ym s.2.2.2.2.2.2.2.1 (ZN (Zm s)))&&(Ym s.2.2.2.2.2.2.2.2.2.2.1 (ZN (Zm s))))&&(Ym s.2.2.2.2.2.2.2.2.1 (Zw (Zm s))))&&(Ym s.2.2.2.2.2.2.2.2.2.1 (Zw (Zm s)))))))):x6 K s kept x :=
 Loop.of h
theorem XG(s:Qc)(kept:Int) (h :
 (x6 K s kept 0)):dt (KZ K s kept) :=
 dt.of h
theorem QLP(s:Qc):aK Tryz.prog 72 [(.a (aS.cells Qe s))] (nT (QU s)):=by
 refine bz Bm QWn XE 0 0 89 uh (kc Bg (kc A2 (kc QOe (kc Xz (kc I6 (kc I7 (kc QN6 kn))))))) (λK =>
 (aJ ((((!(Zc (Zm s)))||(decide (s.1<0)))||(decide (s.1>((s.2.1).length:Int))))||(!(YP (Zm s) s.2.2.2.2.2.2.2.2.2.2.2.1))) (K (nT false)) (aJ s.2.2.2.2.1 (KZ K s 1) (KZ K s (aG (((s.2.2.1).length:Int)+1)))))) (λhb=>?_)
 have sj:(s.2.1).length<=9223372036854775807:=hb.1.2.1.1;have sk:(s.2.2.1).length<=9223372036854775807:=hb.1.2.2.1.1;have sm:(s.2.2.2.2.2.1).length<=9223372036854775807:=hb.1.2.2.2.2.2.1.1;have sn:(s.2.2.2.2.2.2.1).length<=9223372036854775807:=hb.1.2.2.2.2.2.2.1.1;have so:(s.2.2.2.2.2.2.2.1).length<=9223372036854775807:=hb.1.2.2.2.2.2.2.2.1.1;have sq:(s.2.2.2.2.2.2.2.2.1).length<=9223372036854775807:=hb.1.2.2.2.2.2.2.2.2.1.1;have sr:(s.2.2.2.2.2.2.2.2.2.1).length<=9223372036854775807:=hb.1.2.2.2.2.2.2.2.2.2.1.1;have nU:(s.2.2.2.2.2.2.2.2.2.2.1).length<=9223372036854775807:=hb.1.2.2.2.2.2.2.2.2.2.2.1.1;have nV:(s.2.2.2.2.2.2.2.2.2.2.2.1).length<=9223372036854775807:=hb.1.2.2.2.2.2.2.2.2.2.2.2.1.1;refine⟨λh=>au (by grind[QU,bj]),λh=>?_⟩;have h0:Zc s.2.2.1=true/\bj s.1 0 s.2.1.length=true/\YP s.2.2.1 s.2.2.2.2.2.2.2.2.2.2.2.1=true:=by grind[bj]
 have hm:=Yu h0.1;have hk:1<=ZH s/\ZH s<=9:=by unfold ZH;split <;> omega
 have key:x6 (λr'=>r'=nT (QU s)) s (ZH s) ((0:Nat):Int):=by
  refine Zf s.2.2.2.2.2.1 (λr k=>r.all (Yh s)=s.2.2.2.2.2.1.all (Yh s)->x6 (λr'=>r'=nT (QU s)) s (ZH s) k) ?_ ?_ rfl
  ·intro he;refine XF _ _ _ _ ⟨λh=>by simp at h,λ_=>au ?_⟩;grind[QU]
  ·intro k x r gn aW hg ih he;refine XF _ _ _ _ ⟨λ_=>?_,λh=>by simp at h;omega⟩;rw[Int.toNat_natCast,hg,QG (x:=(k:Int)+1) (by omega) (by omega)];refine⟨⟨by omega,aW⟩,λh=>?_,λh=>au ?_,λh=>ih ?_⟩
   ·have:(x.2.length:Int)=ZH s:=by simpa using h
    exact⟨hm.1,by omega,by omega⟩
   ·grind[QU,Yh]
   ·grind[Yh]
 refine⟨λh1=>?_,λh1=>?_⟩
 ·have e:ZH s=1:=by simp[ZH,h1]
  rw[e]at key;exact(XG (λr'=>r'=nT (QU s)) s _ key).h
 ·have e:ZH s=s.2.2.1.length+1:=by simp[ZH,h1]
  rw[QG (x:=(s.2.2.1.length:Int)+1) (by omega) (by omega)];rw[e]at key;exact(XG (λr'=>r'=nT (QU s)) s _ key).h
theorem Bn:Qf Tryz.prog uh:=Qi λx _=>QLP x.1
def JD(t:Bool):aB:=b6 (bE t)
def ui:aI:=Qg 63 [(.a Qe)] λx=>(none,JD (QU x.1))
def o8:aF:=⟨[I3,YV,Yv,IP],false⟩
def XH:af :=
 (ag [(ag [(.ae [ab 47 5,ak 48 1 2,an 49 48 1,ba 50 49,aw 51 .lss 47 50]),(.cond 51 .skip (.exit 0))]),(.block 1 (ag [(.draw [ak 54 1 11,ak 55 54 0,an 56 55 1,ab 57 5,a0 58 56 57 [(.sl [TI])],ak 59 58 0,an 60 59 1,ba 61 60,ak 62 1 2,an 63 62 1,ab 64 5,a0 65 63 64 aM,ak 66 65 3,an 67 66 1,ba 68 67,aw 69 .neq 61 68] []),(.cond 69 (ag [(.ae [ab 2 (a6 false)]),.ret]) .skip)])),(.ae [ab 52 5,aw 53 .add 52 (aq 1),ab 5 53])])
def XI:List (Nat × Md):=[(1,.b (dG 14)),(3,.one .d),(4,.one .d),(5,.one .d)]
def XJ:af :=
 (ag [(ag [(.ae [ab 126 8,ab 127 7,ba 128 127,aw 129 .lss 126 128]),(.cond 129 .skip (.exit 4))]),(.block 5 (ag [(.draw [ab 132 7,ab 133 8,a0 134 132 133 [(.sl [TI])],ak 135 134 0,an 136 135 1,aD 137 97 [136],bL 138 137,ab 139 138,.bt 139 false [ab 140 7,ab 141 8,a0 142 140 141 [(.sl [TI])],ak 143 142 0,an 144 143 1,ba 145 144,ak 146 1 2,an 147 146 1,ab 148 8,aw 149 .sub 148 (aq 1),a0 150 147 149 aM,ak 151 150 2,an 152 151 1,aw 153 .neq 145 152] 154 153] []),(.cond 154 (ag [(.ae [ab 2 (a6 false)]),.ret]) .skip)])),(.ae [ab 130 8,aw 131 .add 130 (aq 1),ab 8 131])])
def XK:List (Nat × Md):=[(1,.b (dG 14)),(3,.one .d),(4,.one .d),(6,.one .d),(7,.one .d),(8,.one .d)]
def XL:af :=
 (.ae [ab 75 6,aw 76 .add 75 (aq 1),ab 6 76])
def K0:af :=
 (ag [(ag [(.ae [ab 70 6,ak 71 1 5,an 72 71 1,ba 73 72,aw 74 .lss 70 73]),(.cond 74 .skip (.exit 2))]),(.block 3 (ag [(.ae [ak 77 1 5,an 78 77 1,ab 79 6,a0 80 78 79 QE,ak 81 80 1,an 82 81 1,ab 7 82]),(ag [(.ae [ab 83 7,ba 84 83,aw 85 .eql 84 (aq 0),ab 86 85,.bt 86 false [ab 87 7,a0 88 87 (aq 0) [(.sl [TI])],ak 89 88 0,an 90 89 1,aD 91 97 [90],bL 92 91] 93 92,ab 94 93,.bt 94 false [ab 95 7,a0 96 95 (aq 0) [(.sl [TI])],ak 97 96 0,an 98 97 1,ba 99 98,ab 100 3,aw 101 .neq 99 100] 102 101,ab 103 102,.bt 103 false [ak 104 1 4,an 105 104 1,bL 106 105,ab 107 106,.bt 107 true [ab 108 7,ba 109 108,ak 110 1 2,an 111 110 1,ba 112 111,aw 113 .add 112 (aq 1),aw 114 .neq 109 113] 115 114] 116 115,ab 117 116,.bt 117 false [ak 118 1 4,an 119 118 1,ab 120 119,.bt 120 true [ab 121 7,ba 122 121,aw 123 .neq 122 (aq 1)] 124 123] 125 124]),(.cond 125 (ag [(.ae [ab 2 (a6 false)]),.ret]) .skip)]),(.ae [ab 8 (aq 1)]),(.block 4 (.loop XK XJ))])),XL])
def Bo:List (Nat × Md):=[(1,.b (dG 14)),(3,.one .d),(4,.one .d),(6,.one .d)]
def XM:af :=
 (ag [(.ae [ak 155 1 7,an 156 155 1,ab 157 3,aD 158 159 [156,157],ab 159 158,.bt 159 true [ak 160 1 8,an 161 160 1,ab 162 4,aD 163 159 [161,162]] 164 163,ab 165 164,.bt 165 true [ak 166 1 9,an 167 166 1,ab 168 4,aD 169 159 [167,168]] 170 169,ab 171 170,.bt 171 true [ak 172 1 10,an 173 172 1,ab 174 3,aD 175 159 [173,174]] 176 175,ab 2 176]),.ret])
def XN:af :=
 (ag [(ag [(.ae [ab 6 (aq 0)]),(.block 2 (.loop Bo K0))]),XM])
def QIF:af :=
 (ag [(.ae [aC 1 (.box 39 0 14),ab 2 (a6 false)]),(ag [(.ae [ak 9 1 2,an 10 9 1,aC 11 (.build [(.n aM)] [(0,1,10)]),aD 12 157 [11],bL 13 12,ab 14 13,.bt 14 false [ak 15 1 0,an 16 15 1,ak 17 1 1,an 18 17 1,ba 19 18,aD 20 158 [16,(aq 0),19],bL 21 20] 22 21,ab 23 22,.bt 23 false [ak 24 1 11,ak 25 24 0,an 26 25 1,ba 27 26,ak 28 1 2,an 29 28 1,ba 30 29,aw 31 .neq 27 30] 32 31]),(.cond 32 (ag [(.ae [ab 2 (a6 false)]),.ret]) .skip)]),(.ae [ak 33 1 2,an 34 33 1,a0 35 34 (aq 0) aM,ak 36 35 1,an 37 36 1,ab 3 37]),(.ae [ak 38 1 2,an 39 38 1,ak 40 1 2,an 41 40 1,ba 42 41,aw 43 .sub 42 (aq 1),a0 44 39 43 aM,ak 45 44 2,an 46 45 1,ab 4 46]),(ag [(.ae [ab 5 (aq 0)]),(.block 0 (.loop XI XH))]),XN])
def XO:List (bn × Md):=[(.t 2,.one .d)]
def Bp:Qb:=TQ 0 0 XO K
def QLw:Qb:=aY (aO o8 0 XM (Bp K)) (Bp K)
def K2:Qb:=a7 2 (QLw K)
def XP:Qb:=aY (λs'=>Loop o8 0 Bo K0 (K2 K) (gc 0 Bo s')) (K2 K)
def QOQ:Qb:=aY (aO o8 0 XL (XP K)) (XP K)
def QId:Qb:=a7 3 (QOQ K)
def QKL:Qb:=a7 4 (QId K)
def Bq(s:Qc)(k:Int)(i1:Int):Prop:=Loop o8 0 XK XJ (QKL K) ⟨[(1,(.p 0 0 0)),(3,(aL ((ar b5 s.2.2.1 (Int.toNat 0)).2.1))),(4,(aL ((ar b5 s.2.2.1 (Int.toNat (aG (((s.2.2.1).length:Int)-1)))).2.2.1))),(6,(aL i1)),(7,(bg [(.sl [TI])] ((ar QS s.2.2.2.2.2.1 (Int.toNat i1)).2))),(8,(aL k))],[(0,(.box (aS.cells Qe s)))],1⟩
def x7(s:Qc)(i1:Int):Prop:=Loop o8 0 Bo K0 (K2 K) ⟨[(1,(.p 0 0 0)),(3,(aL ((ar b5 s.2.2.1 (Int.toNat 0)).2.1))),(4,(aL ((ar b5 s.2.2.1 (Int.toNat (aG (((s.2.2.1).length:Int)-1)))).2.2.1))),(6,(aL i1))],[(0,(.box (aS.cells Qe s)))],1⟩
def QWJ:Qb:=aY (aO o8 0 XN (Bp K)) (Bp K)
def QHP:Qb:=a7 0 (QWJ K)
def Br(s:Qc)(i:Int):Prop:=Loop o8 0 XI XH (QHP K) ⟨[(1,(.p 0 0 0)),(3,(aL ((ar b5 s.2.2.1 (Int.toNat 0)).2.1))),(4,(aL ((ar b5 s.2.2.1 (Int.toNat (aG (((s.2.2.1).length:Int)-1)))).2.2.1))),(5,(aL i))],[(0,(.box (aS.cells Qe s)))],1⟩
theorem XQ(s:Qc)(k:Int)(i1:Int) (h :
 (aJ (decide (k<(((ar QS s.2.2.2.2.2.1 (Int.toNat i1)).2).length:Int))) (((0<=k/\Int.toNat k<((ar QS s.2.2.2.2.2.1 (Int.toNat i1)).2).length)/\((!(!(QK (ar ([]:List Int) ((ar QS s.2.2.2.2.2.1 (Int.toNat i1)).2) (Int.toNat k)))))=true->((0<=k/\Int.toNat k<((ar QS s.2.2.2.2.2.1 (Int.toNat i1)).2).length)/\(0<=aG (k-1)/\Int.toNat (aG (k-1))<(s.2.2.1).length))))/\(aJ ((!(QK (ar ([]:List Int) ((ar QS s.2.2.2.2.2.1 (Int.toNat i1)).2) (Int.toNat k))))||(((ar ([]:List Int) ((ar QS s.2.2.2.2.2.1 (Int.toNat i1)).2) (Int.toNat k)).length:Int) != ((ar b5 s.2.2.1 (Int.toNat (aG (k-1)))).2.2.1))) (K (JD false)) (Bq K s (aG (k+1)) i1))) (x7 K s (aG (i1+1))))):Bq K s k i1 :=
 Loop.of h
theorem XR(s:Qc)(i1:Int) (h :
 let z1:=ar QS s.2.2.2.2.2.1 (Int.toNat i1)
 let z2:=ar ([]:List Int) (z1.2) (Int.toNat 0)
 let z3:=ar b5 s.2.2.1 (Int.toNat 0)
 let z4:=ar b5 s.2.2.1 (Int.toNat (aG (((s.2.2.1).length:Int)-1)))
 (aJ (decide (i1<((s.2.2.2.2.2.1).length:Int))) ((0<=i1/\Int.toNat i1<(s.2.2.2.2.2.1).length)/\((((!(((z1.2).length:Int)==0))=true->((0:Int)<=0/\Int.toNat 0<(z1.2).length))/\((!((((z1.2).length:Int)==0)||(!(QK z2))))=true->((0:Int)<=0/\Int.toNat 0<(z1.2).length)))/\(aJ (((((((z1.2).length:Int)==0)||(!(QK z2)))||((z2.length:Int) != (z3.2.1)))||((!s.2.2.2.2.1)&&(((z1.2).length:Int) != (aG (((s.2.2.1).length:Int)+1)))))||(s.2.2.2.2.1&&(((z1.2).length:Int) != 1))) (K (JD false)) (Bq K s 1 i1)))) (K (JD ((((Ym s.2.2.2.2.2.2.2.1 (z3.2.1))&&(Ym s.2.2.2.2.2.2.2.2.1 (z4.2.2.1)))&&(Ym s.2.2.2.2.2.2.2.2.2.1 (z4.2.2.1)))&&(Ym s.2.2.2.2.2.2.2.2.2.2.1 (z3.2.1))))))):x7 K s i1 :=
 Loop.of h
theorem XS(s:Qc)(i:Int) (h :
 (aJ (decide (i<((s.2.2.1).length:Int))) (((0<=i/\Int.toNat i<(s.2.2.2.2.2.2.2.2.2.2.2.1).length)/\(0<=i/\Int.toNat i<(s.2.2.1).length))/\(aJ (((ar ([]:List Int) s.2.2.2.2.2.2.2.2.2.2.2.1 (Int.toNat i)).length:Int) != (((ar b5 s.2.2.1 (Int.toNat i)).2.2.2).length:Int)) (K (JD false)) (Br K s (aG (i+1))))) (x7 K s 0))):Br K s i :=
 Loop.of h
theorem QI5(s:Qc):aK Tryz.prog 63 [(.a (aS.cells Qe s))] (JD (QU s)):=by
 refine bz o8 QIF XO 0 0 177 ui (kc QKR (kc Js (kc YK (kc QWN kn)))) (λK =>
 (aJ (((!(Zc s.2.2.1))||(!(bj s.1 (0:Int) ((s.2.1).length:Int))))||(((s.2.2.2.2.2.2.2.2.2.2.2.1).length:Int) != ((s.2.2.1).length:Int))) (K (JD false)) (((0:Int)<=0/\Int.toNat 0<(s.2.2.1).length)/\((0<=aG (((s.2.2.1).length:Int)-1)/\Int.toNat (aG (((s.2.2.1).length:Int)-1))<(s.2.2.1).length)/\(Br K s 0))))) (λhb=>?_)
 have sj:(s.2.1).length<=9223372036854775807:=hb.1.2.1.1;have sk:(s.2.2.1).length<=9223372036854775807:=hb.1.2.2.1.1;have sm:(s.2.2.2.2.2.1).length<=9223372036854775807:=hb.1.2.2.2.2.2.1.1;have sn:(s.2.2.2.2.2.2.1).length<=9223372036854775807:=hb.1.2.2.2.2.2.2.1.1;have so:(s.2.2.2.2.2.2.2.1).length<=9223372036854775807:=hb.1.2.2.2.2.2.2.2.1.1;have sq:(s.2.2.2.2.2.2.2.2.1).length<=9223372036854775807:=hb.1.2.2.2.2.2.2.2.2.1.1;have sr:(s.2.2.2.2.2.2.2.2.2.1).length<=9223372036854775807:=hb.1.2.2.2.2.2.2.2.2.2.1.1;have nU:(s.2.2.2.2.2.2.2.2.2.2.1).length<=9223372036854775807:=hb.1.2.2.2.2.2.2.2.2.2.2.1.1;have nV:(s.2.2.2.2.2.2.2.2.2.2.2.1).length<=9223372036854775807:=hb.1.2.2.2.2.2.2.2.2.2.2.2.1.1;refine⟨λh=>au (by grind[QU,YP]),λh=>?_⟩;have h0:Zc s.2.2.1=true/\bj s.1 0 s.2.1.length=true/\s.2.2.2.2.2.2.2.2.2.2.2.1.length=s.2.2.1.length:=by
  have:((s.2.2.2.2.2.2.2.2.2.2.2.1.length:Int) != (s.2.2.1.length:Int))=false:=by grind
  have h3:s.2.2.2.2.2.2.2.2.2.2.2.1.length=s.2.2.1.length:=by
   have h4:((s.2.2.2.2.2.2.2.2.2.2.2.1.length:Int)==(s.2.2.1.length:Int))=true:=by simpa[bne]using this
   have:=of_decide_eq_true (by simpa using h4:decide ((s.2.2.2.2.2.2.2.2.2.2.2.1.length:Int)=s.2.2.1.length)=true);omega
  grind
 have hm:=Yu h0.1;have eo:=rp (n:=s.2.2.1.length) hm.1 (by omega);have ei:ZN s.2.2.1=(ar b5 s.2.2.1 0).2.1:=by simp[ZN,h0.1]
 have eu:Zw s.2.2.1=(ar b5 s.2.2.1 (s.2.2.1.length-1)).2.2.1:=by simp[Zw,h0.1]
 have hk9:1<=ZH s/\ZH s<=s.2.2.1.length+1:=by unfold ZH;split <;> omega
 have saved:YP s.2.2.1 s.2.2.2.2.2.2.2.2.2.2.2.1=true->x7 (λr'=>r'=JD (QU s)) s ((0:Nat):Int):=by
  intro hgf;refine Zf s.2.2.2.2.2.1 (λr k=>r.all (Yh s)=s.2.2.2.2.2.1.all (Yh s)->x7 (λr'=>r'=JD (QU s)) s k) ?_ ?_ rfl
  ·intro he;refine XR _ _ _ ⟨λh=>by simp at h,λ_=>au ?_⟩;rw[eo.1];grind[QU]
  ·intro k x r hk aW hg ih he;have jT:x.2.length<=9223372036854775807:=by
    have dE:x∈s.2.2.2.2.2.1:=List.mem_of_mem_drop (i:=k) (by rw[hk];exact List.mem_cons_self);exact(hb.1.2.2.2.2.2.1.2 x dE).2.1.1
   have rows:(x.2.length:Int)=ZH s->∀(q:List (List Int))(j:Nat),1<=j->x.2.drop j=q->j<=x.2.length->YE s.2.2.1 j q=Yh s x->Bq (λr'=>r'=JD (QU s)) s j k:=by
    intro hlen q
    induction q with
    | nil =>
     intro j h1 hj hle iX;have:x.2.length<=j:=by simpa using hj
     refine XQ _ _ _ _ ⟨λh=>?_,λ_=>?_⟩
     ·rw[Int.toNat_natCast,hg]at h;simp at h;omega
     ·rw[QG (x:=(k:Int)+1) (by omega) (by omega)];refine ih ?_;simp only[YE]at iX;rw[<- he,List.all_cons,<- iX,Bool.true_and]
    | cons z q ihq =>
     intro j h1 hj hle iX;have mf:=Ai hj;have e2:=rp h1 (by omega:j<=9223372036854775807);have bV:=QWo h0.1 h1 (by omega:j<=s.2.2.1.length);refine XQ _ _ _ _ ⟨λ_=>?_,λh=>?_⟩
     ·rw[Int.toNat_natCast,Int.toNat_natCast,hg,ZF hj,e2.1,QG (x:=(j:Int)+1) (by omega) (by omega)];rw[YE,bV]at iX;refine⟨⟨⟨by omega,mf⟩,λ_=>⟨⟨by omega,mf⟩,e2.2,by omega⟩⟩,λh=>au ?_,λh=>ihq (j+1) (by omega) (ZA hj) mf ?_⟩
      ·have hf:Yh s x=false:=by rw[<- iX];grind[QH]
       have:s.2.2.2.2.2.1.all (Yh s)=false:=by rw[<- he,List.all_cons,hf];rfl
       simp[QU,this]
      ·rw[<- iX];grind[QH]
     ·rw[Int.toNat_natCast,hg]at h;simp at h;omega
   refine XR _ _ _ ⟨λ_=>?_,λh=>by simp at h;omega⟩;rw[Int.toNat_natCast,hg];have bad:Yh s x=false->false=QU s:=by
    intro hf;have:s.2.2.2.2.2.1.all (Yh s)=false:=by rw[<- he,List.all_cons,hf];rfl
    simp[QU,this]
   have ek:aG ((s.2.2.1.length:Int)+1)=s.2.2.1.length+1:=QG (by omega) (by omega);rw[ek]
   cases hx:x.2 with
   | nil =>
    refine⟨⟨by omega,aW⟩,⟨by simp,by simp⟩,λ_=>au (bad ?_),λh=>by simp at h⟩;simp[Yh,hx];omega
   | cons z q =>
    have z0:ar ([]:List Int) (z::q) (Int.toNat 0)=z:=Ao _ _ _;rw[z0];have bV:YQ s.2.2.1 0=(ar b5 s.2.2.1 (Int.toNat 0)).2.1:=QNL h0.1;rw[<- bV];have main:(((q.length+1:Nat):Int)==ZH s)=true->Yh s x=(QH z (YQ s.2.2.1 0)&&YE s.2.2.1 1 q):=by
     intro h;have h:((q.length+1:Nat):Int)=ZH s:=by simpa using h
     have e:(z::q).take (ZH s).toNat=z::q:=by rw[List.take_of_length_le];simp;omega
     simp only[Yh,hx,ZS,e,YE];simp;omega
    refine⟨⟨by omega,aW⟩,⟨λ_=>by simp,λ_=>by simp⟩,λh=>au (bad ?_),λh=>?_⟩
    ·by_cases hl:(((q.length+1:Nat):Int)==ZH s)=true
     ·rw[main hl];have hl:((q.length+1:Nat):Int)=ZH s:=by simpa using hl
      unfold ZH at hl;by_cases hr:s.2.2.2.2.1=true
      ·rw[if_pos hr]at hl;simp[hr]at h;grind[QH]
      ·rw[if_neg hr]at hl;simp[hr]at h;grind[QH]
     ·have:(((x.2.length:Nat):Int)==ZH s)=false:=by rw[hx];simpa using hl
      simp[Yh,this]
    ·have hl:((q.length+1:Nat):Int)=ZH s:=by
      unfold ZH;by_cases hr:s.2.2.2.2.1=true
      ·rw[if_pos hr];simp[hr]at h;omega
      ·rw[if_neg hr];simp[hr]at h;omega
     have hv:QH z (YQ s.2.2.1 0)=true:=by simp at h;simp[QH,h]
     refine rows (by rw[hx];simpa using hl) q 1 (Nat.le_refl _) (by rw[hx];rfl) (by rw[hx];simp) ?_;rw[main (by simpa using hl),hv,Bool.true_and]
 refine⟨⟨by omega,by simp;omega⟩,⟨eo.2,by rw[eo.1];omega⟩,?_⟩;refine Zf s.2.2.1 (λr k=>YR r (s.2.2.2.2.2.2.2.2.2.2.2.1.drop k)=YR s.2.2.1 s.2.2.2.2.2.2.2.2.2.2.2.1->Br (λr'=>r'=JD (QU s)) s k) ?_ ?_ rfl
 ·intro he;refine XS _ _ _ ⟨λh=>by simp at h,λ_=>saved ?_⟩;grind[YP,YR]
 ·intro k x r hk aW hg ih he;obtain⟨y,q,hq⟩:∃ y q,s.2.2.2.2.2.2.2.2.2.2.2.1.drop k=y::q:=by
   cases hq:s.2.2.2.2.2.2.2.2.2.2.2.1.drop k with
   | nil=>have:=congrArg List.length hq;simp at this;omega
   | cons y q=>exact⟨y,q,rfl⟩
  refine XS _ _ _ ⟨λ_=>?_,λh=>by simp at h;omega⟩;rw[Int.toNat_natCast,hg,ZF hq,QG (x:=(k:Int)+1) (by omega) (by omega)];rw[hq,YR]at he;rw[ZA hq]at ih;refine⟨⟨⟨by omega,by omega⟩,by omega,aW⟩,λh=>au ?_,λh=>ih ?_⟩
  ·grind[QU,YP]
  ·grind
theorem Bs:Qf Tryz.prog ui:=Qi λx _=>QI5 x.1
def x8(t:Int):aB:=b6 (aL t)
def x9:aI:=Qg 62 [(.c (.sl QE)),(.c TI)] λx=>(none,x8 (QJ x.1 x.2.1))
def K3:aF:=⟨[],false⟩
def XT:af :=
 (ag [(ag [(.ae [ab 6 5,ab 7 0,ba 8 7,aw 9 .lss 6 8]),(.cond 9 .skip (.exit 0))]),(.block 1 (ag [(.ae [ab 12 0,ab 13 5,a0 14 12 13 QE,ak 15 14 0,an 16 15 1,ab 17 1,aw 18 .eql 16 17]),(.cond 18 (ag [(.ae [ab 19 5,ab 4 19]),.ret]) .skip)])),(.ae [ab 10 5,aw 11 .add 10 (aq 1),ab 5 11])])
def XU:List (Nat × Md):=eV [0,1,5]
def XV:af :=
 (ag [(.ae [ab 4 (aq (-1))]),.ret])
def QMQ:af :=
 (ag [(.ae [ab 4 (aq 0)]),(ag [(.ae [ab 5 (aq 0)]),(.block 0 (.loop XU XT))]),XV])
def XW:List (bn × Md):=[(.t 4,.one .d)]
def XX:Qb:=TQ 0 0 XW K
def QON:Qb:=aY (aO K3 0 XV (XX K)) (XX K)
def QGm:Qb:=a7 0 (QON K)
def Bt(l:List QD)(m:Int)(i:Int):Prop:=Loop K3 0 XU XT (QGm K) ⟨[(0,(bg QE l)),(1,(aL m)),(5,(aL i))],[],0⟩
theorem XY(l:List QD)(m:Int)(i:Int) (h :
 (aJ (decide (i<(l.length:Int))) ((0<=i/\Int.toNat i<l.length)/\(aJ (((ar QS l (Int.toNat i)).1)==m) (K (x8 i)) (Bt K l m (aG (i+1))))) (K (x8 (-1:Int))))):Bt K l m i :=
 Loop.of h
theorem QWs(l:List QD)(m:Int):aK Tryz.prog 62 [(.c (.sl QE) l),(.c TI m)] (x8 (QJ l m)):=by
 refine bz K3 QMQ XW 0 0 20 x9 kn (λK =>
 (Bt K l m 0)) (λhb=>?_)
 have K4:l.length<=9223372036854775807:=hb.1.1;refine Zf l (λr k=>Jh r m k=QJ l m->Bt (λr'=>r'=x8 (QJ l m)) l m k) ?_ ?_ rfl
 ·intro he;refine XY _ _ _ _ ⟨λh=>by simp at h,λ_=>?_⟩;grind[Jh]
 ·intro k x r hk aW hg ih he;refine XY _ _ _ _ ⟨λ_=>?_,λh=>by simp at h;omega⟩;rw[Int.toNat_natCast,hg,QG (by omega) (by omega)];grind[Jh]
theorem K5:Qf Tryz.prog x9:=Qi λx _=>QWs x.1 x.2.1
def ya(t:Int):aB:=b6 (aL t)
def yc:aI:=Qg 71 [(.c (.sl QE)),(.c TI)] λx=>(none,ya (QJ x.1 x.2.1))
def K6:aF:=⟨[],false⟩
def XZ:af :=
 (ag [(.ae [aw 10 .lss 9 8]),(.cond 10 .skip (.exit 0)),(.block 1 (ag [(.ae [ab 11 9,a0 12 7 9 QE,a8 13 12 2,aC 6 (.new 108 (bG QE)),ab 5 11,aU 6 13 2]),(.ae [ak 14 6 0,an 15 14 1,ab 16 1,aw 17 .eql 15 16]),(.cond 17 (ag [(.ae [ab 18 5,ab 4 18]),.ret]) .skip)])),(.ae [aw 19 .add 9 (aq 1),ab 9 19])])
def X0:List (Nat × Md):=eV [1,7,8,9]
def X1:af :=
 (ag [(.ae [ab 4 (aq (-1))]),.ret])
def QQs:af :=
 (ag [(.ae [ab 4 (aq 0)]),(ag [(.ae [ab 7 0,ba 8 7,ab 9 (aq 0)]),(.block 0 (.loop X0 XZ))]),X1])
def X2:List (bn × Md):=[(.t 4,.one .d)]
def X3:Qb:=TQ 0 0 X2 K
def QM9:Qb:=aY (aO K6 0 X1 (X3 K)) (X3 K)
def QWc:Qb:=a7 0 (QM9 K)
def Bu(l:List QD)(m:Int)(x:Int):Prop:=Loop K6 0 X0 XZ (QWc K) ⟨[(1,(aL m)),(7,(bg QE l)),(8,(aL (l.length:Int))),(9,(aL x))],[],0⟩
theorem X4(l:List QD)(m:Int)(x:Int) (h :
 (aJ (decide (x<(l.length:Int))) ((0<=x/\Int.toNat x<l.length)/\(aJ (((ar QS l (Int.toNat x)).1)==m) (K (ya x)) (Bu K l m (aG (x+1))))) (K (ya (-1:Int))))):Bu K l m x :=
 Loop.of h
theorem QL6(l:List QD)(m:Int):aK Tryz.prog 71 [(.c (.sl QE) l),(.c TI m)] (ya (QJ l m)):=by
 refine bz K6 QQs X2 0 0 20 yc kn (λK =>
 (Bu K l m 0)) (λhb=>?_)
 have K4:l.length<=9223372036854775807:=hb.1.1;refine Zf l (λr k=>Jh r m k=QJ l m->Bu (λr'=>r'=ya (QJ l m)) l m k) ?_ ?_ rfl
 ·intro he;refine X4 _ _ _ _ ⟨λh=>by simp at h,λ_=>?_⟩;grind[Jh]
 ·intro k x r hk aW hg ih he;refine X4 _ _ _ _ ⟨λ_=>?_,λh=>by simp at h;omega⟩;rw[Int.toNat_natCast,hg,QG (by omega) (by omega)];grind[Jh]
theorem K7:Qf Tryz.prog yc:=Qi λx _=>QL6 x.1 x.2.1
def K8(t:Bool):aB:=b6 (bE t)
def uj:aI:=Qg 195 [(.c (.sl [TI])),(.c (.sl [TI]))] λx=>(none,K8 (ZB x.1 x.2.1))
def QXF:aF:=⟨[nP,Jk],false⟩
def QF8:af :=
 (ag [(.ae [ab 4 (a6 false)]),(.ae [ab 5 0,aD 6 187 [5],ab 7 6,.bt 7 true [ab 8 1,ab 9 0,ba 10 9,aD 11 100 [8,10]] 12 11,ab 4 12]),.ret])
def QNt:List (bn × Md):=[(.t 4,.one .d)]
theorem QXa(a:List Int)(b:List Int):aK Tryz.prog 195 [(.c (.sl [TI]) a),(.c (.sl [TI]) b)] (K8 (ZB a b)):=by
 refine bz QXF QF8 QNt 0 0 13 uj (kc sa (kc JP kn)) (λK =>
 K (K8 ((QK a)&&(QH b (a.length:Int))))) (λhb=>?_)
 exact au rfl
theorem Bv:Qf Tryz.prog uj:=Qi λx _=>QXa x.1 x.2.1
def K9(t:Bool):aB:=b6 (bE t)
def uk:aI:=Qg 191 [(.c (.sl [TI])),(.c (.sl [TI]))] λx=>(none,K9 (ZB x.1 x.2.1))
def QSy:aF:=⟨[Yv],false⟩
def QR8:af :=
 (ag [(.ae [ab 4 (a6 false)]),(.ae [ab 5 0,aD 6 97 [5],ab 7 6,.bt 7 true [ab 8 1,aD 9 97 [8]] 10 9,ab 11 10,.bt 11 true [ab 12 0,ba 13 12,ab 14 1,ba 15 14,aw 16 .eql 13 15] 17 16,ab 4 17]),.ret])
def QHG:List (bn × Md):=[(.t 4,.one .d)]
theorem QRy(a:List Int)(b:List Int):aK Tryz.prog 191 [(.c (.sl [TI]) a),(.c (.sl [TI]) b)] (K9 (ZB a b)):=by
 refine bz QSy QR8 QHG 0 0 18 uk (kc YK kn) (λK =>
 K (K9 (((QK a)&&(QK b))&&((a.length:Int)==(b.length:Int))))) (λhb=>?_)
 refine au ?_;rw[Bool.eq_iff_iff];unfold ZB QH;simp only[Bool.and_eq_true,beq_iff_eq];constructor
 ·rintro⟨⟨h1,h2⟩,h3⟩;exact⟨h1,h2,by omega⟩
 ·rintro⟨h1,h2,h3⟩;exact⟨⟨h1,h2⟩,by omega⟩
theorem Bw:Qf Tryz.prog uk:=Qi λx _=>QRy x.1 x.2.1
def yd(t:(List Int) × Bool):aB:=⟨(.tp [(.r [TI] 0 0 ((t.1).length)),(bE t.2)]),[(.sl 3 [TI] (.dp 0 true []) t.1)],[],false,[]⟩
def Bx:aI:=Qg 231 [(.c (.sl [TI])),(.c (.sl [TI]))] λx=>(none,yd (Zd x.1 x.2.1))
def La:aF:=⟨[uj,uc],true⟩
def X5:af :=
 (ag [(.ae [aw 19 .lss 18 17]),(.cond 19 .skip (.exit 0)),(.block 1 (ag [(.ae [ab 20 18,ab 8 20]),(.draw [ab 22 0,ab 23 8,a0 24 22 23 [TI],an 25 24 1,ab 26 1,ab 27 8,a0 28 26 27 [TI],an 29 28 1,aD 30 106 [25,29],ab 21 30,bF 31 21 0,bF 32 21 1,ab 9 31,ab 10 32] []),(.ae [ab 33 6,ab 34 9,aC 35 (.bW 3 [TI] [34]),aC 36 (.app 33 35 3 [TI]),ab 6 36]),(.ae [ab 37 7,ab 38 37,.bt 38 false [ab 39 10] 40 39,ab 7 40])])),(.ae [aw 41 .add 18 (aq 1),ab 18 41])])
def X6:List (Nat × Md):=[(0,.one .d),(1,.one .d),(6,.one .f),(7,.one .d),(17,.one .d),(18,.one .d)]
def X7:af :=
 (ag [(.ae [ab 42 6,ab 43 7,ab 4 42,ab 5 43]),.ret])
def QR2:af :=
 (ag [(.ae [ab 4 (.k (.n [TI])),ab 5 (a6 false)]),(ag [(.ae [ab 11 0,ab 12 1,aD 13 195 [11,12],bL 14 13]),(.cond 14 (ag [(.ae [ab 4 (.k (.n [TI])),ab 5 (a6 false)]),.ret]) .skip)]),(.ae [aC 15 (.bW 3 [TI] []),ab 6 15]),(.ae [ab 7 (a6 false)]),(ag [(.ae [ab 16 0,ba 17 16,ab 18 (aq 0)]),(.block 0 (.loop X6 X5))]),X7])
def X8:List (bn × Md):=[(.t 4,.one (.p 3)),(.t 5,.one .d)]
def X9:Qb:=TQ 0 0 X8 K
def QVV:Qb:=aY (aO La 0 X7 (X9 K)) (X9 K)
def QVr:Qb:=a7 0 (QVV K)
def Bz(a:List Int)(b:List Int)(out:Bool)(x:Int)(v:List Int):Prop:=Loop La 0 X6 X5 (QVr K) ⟨[(0,(bg [TI] a)),(1,(bg [TI] b)),(6,(.r [TI] 0 0 v.length)),(7,(bE out)),(17,(aL (a.length:Int))),(18,(aL x))],[(0,(.sl 3 [TI] (.dp 0 true []) v))],1⟩
theorem Qwt(a:List Int)(b:List Int)(out:Bool)(x:Int)(v:List Int) (h :
 (aJ (decide (x<(a.length:Int))) (((0<=x/\Int.toNat x<a.length)/\(0<=x/\Int.toNat x<b.length))/\(((v.length=v.length\/v.length+1<=v.length)/\v.length+1<=ca)/\(Bz K a b (out||((Q4 (ar (0:Int) a (Int.toNat x)) (ar (0:Int) b (Int.toNat x))).2)) (aG (x+1)) (List.take (v.length+1) ((List.take v.length v)++([(Q4 (ar (0:Int) a (Int.toNat x)) (ar (0:Int) b (Int.toNat x))).1])))))) (K (yd ((List.take v.length v),out))))):Bz K a b out x v :=
 Loop.of h
theorem QHs(a:List Int)(b:List Int):aK Tryz.prog 231 [(.c (.sl [TI]) a),(.c (.sl [TI]) b)] (yd (Zd a b)):=by
 refine bz La QR2 X8 0 0 44 Bx (kc Bv (kc A8 kn)) (λK =>
 (aJ (!(ZB a b)) (K (yd (([]:List Int),false))) (Bz K a b false 0 ([]:List Int)))) (λhb=>?_)
 refine⟨λh=>au (by unfold Zd;rw[if_neg (by simpa using h)]),λh=>?_⟩;have hp:ZB a b=true:=by simpa using h
 have hl:=oY.1 hp;have h6:=(Yi.1 hl.1).1;refine Zf a (λr k=>∀(v:List Int)(s:Bool),v.length=k->(v++(vz Q4 r (b.drop k)).1,s||(vz Q4 r (b.drop k)).2)=(Zd a b)->Bz (λr'=>r'=yd (Zd a b)) a b s k v) ?_ ?_ [] false rfl (by unfold Zd;rw[if_pos hp];simp)
 ·intro v s hv he;refine Qwt _ _ _ _ _ _ ⟨λh=>by simp at h,λ_=>au ?_⟩;rw[<- he];simp[vz]
 ·intro k x r hk aW hg ih v s hv he;obtain⟨y,q,hq⟩:=Yt (l:=b) (k:=k) (by omega);refine Qwt _ _ _ _ _ _ ⟨λ_=>?_,λh=>by simp at h;omega⟩;rw[Int.toNat_natCast,hg,ZF hq,dL (by omega),Q8];refine⟨⟨⟨by omega,aW⟩,by omega,by omega⟩,room (by omega),ih _ _ (Yc hv) ?_⟩;rw[<- he,hq,vz,ZA hq];simp[Bool.or_assoc]
theorem QsO:Qf Tryz.prog Bx:=Qi λx _=>QHs x.1 x.2.1
def BA(t:(List Int) × Bool):aB:=fZ (.tp [(bg [TI] t.1),(bE t.2)])
def BB:aI:=Qg 225 [(.c (.sl [TI])),(.c (.sl [TI]))] λx=>(none,BA (Zd x.1 x.2.1))
def Lb:aF:=⟨[uk,se],false⟩
def QCB:af :=
 (ag [(ag [(.ae [ab 12 8,ab 13 0,ba 14 13,aw 15 .lss 12 14,ab 16 15,.bt 16 true [ab 17 0,ab 18 1,aD 19 191 [17,18]] 20 19]),(.cond 20 .skip (.exit 0))]),(.block 1 (ag [(.draw [ab 24 0,ab 25 8,a0 26 24 25 [TI],an 27 26 1,ab 28 1,ab 29 8,a0 30 28 29 [TI],an 31 30 1,aD 32 99 [27,31],ab 23 32,bF 33 23 0,bF 34 23 1,ab 9 33,ab 10 34] []),(.ae [ab 35 6,ab 36 9,aC 37 (.bW 3 [TI] [36]),aC 38 (.app 35 37 3 [TI]),ab 6 38]),(.ae [ab 39 7,ab 40 39,.bt 40 false [ab 41 10] 42 41,ab 7 42])])),(.ae [ab 21 8,aw 22 .add 21 (aq 1),ab 8 22])])
def QtD:List (Nat × Md):=[(0,.one .d),(1,.one .d),(6,.one .f),(7,.one .d),(8,.one .d)]
def QzM:af :=
 (ag [(.ae [ab 43 6,ab 44 7,ab 4 43,ab 5 44]),.ret])
def QIu:af :=
 (ag [(.ae [ab 4 (.k (.n [TI])),ab 5 (a6 false)]),(.ae [aC 11 (.bW 3 [TI] []),ab 6 11]),(.ae [ab 7 (a6 false)]),(ag [(.ae [ab 8 (aq 0)]),(.block 0 (.loop QtD QCB))]),QzM])
def QwN:List (bn × Md):=[(.t 4,.one .d),(.t 5,.one .d)]
def QBl:Qb:=TQ 0 0 QwN K
def QPe:Qb:=aY (aO Lb 0 QzM (QBl K)) (QBl K)
def QSU:Qb:=a7 0 (QPe K)
def BC(a:List Int)(b:List Int)(sat:Bool)(i:Int)(out:List Int):Prop:=Loop Lb 0 QtD QCB (QSU K) ⟨[(0,(bg [TI] a)),(1,(bg [TI] b)),(6,(.r [TI] 0 0 out.length)),(7,(bE sat)),(8,(aL i))],[(0,(.sl 3 [TI] .ow out))],1⟩
theorem Lc(a:List Int)(b:List Int)(sat:Bool)(i:Int)(out:List Int) (h :
 (aJ ((decide (i<(a.length:Int)))&&(ZB a b)) (((0<=i/\Int.toNat i<a.length)/\(0<=i/\Int.toNat i<b.length))/\(((out.length=out.length\/out.length+1<=out.length)/\out.length+1<=ca)/\(BC K a b (sat||((Q4 (ar (0:Int) a (Int.toNat i)) (ar (0:Int) b (Int.toNat i))).2)) (aG (i+1)) (List.take (out.length+1) ((List.take out.length out)++([(Q4 (ar (0:Int) a (Int.toNat i)) (ar (0:Int) b (Int.toNat i))).1])))))) (K (BA ((List.take out.length (List.drop 0 out)),sat))))):BC K a b sat i out :=
 Loop.of h
theorem QRR(a:List Int)(b:List Int):aK Tryz.prog 225 [(.c (.sl [TI]) a),(.c (.sl [TI]) b)] (BA (Zd a b)):=by
 refine bz Lb QIu QwN 0 0 45 BB (kc Bw (kc xQ kn)) (λK =>
 (BC K a b false 0 ([]:List Int))) (λhb=>?_)
 by_cases hp:ZB a b=true;rotate_left
 ·refine Lc _ _ _ _ _ _ ⟨λh=>by simp[hp]at h,λ_=>au (by unfold Zd;rw[if_neg hp];rfl)⟩
 have hl:=oY.1 hp;have h6:=(Yi.1 hl.1).1;refine Zf a (λr k=>∀(v:List Int)(s:Bool),v.length=k->(v++(vz Q4 r (b.drop k)).1,s||(vz Q4 r (b.drop k)).2)=(Zd a b)->BC (λr'=>r'=BA (Zd a b)) a b s k v) ?_ ?_ [] false rfl (by unfold Zd;rw[if_pos hp];simp)
 ·intro v s hv he;refine Lc _ _ _ _ _ _ ⟨λh=>by simp at h,λ_=>au ?_⟩;rw[<- he];simp[vz]
 ·intro k x r hk aW hg ih v s hv he;obtain⟨y,q,hq⟩:=Yt (l:=b) (k:=k) (by omega);refine Lc _ _ _ _ _ _ ⟨λ_=>?_,λh=>by simp[hp]at h;omega⟩;rw[Int.toNat_natCast,hg,ZF hq,dL (by omega),Q8];refine⟨⟨⟨by omega,aW⟩,by omega,by omega⟩,room (by omega),ih _ _ (Yc hv) ?_⟩;rw[<- he,hq,vz,ZA hq];simp[Bool.or_assoc]
theorem Qye:Qf Tryz.prog BB:=Qi λx _=>QRR x.1 x.2.1
def ye(t:(List Int) × Bool):aB:=⟨(.tp [(.r [TI] 0 0 ((t.1).length)),(bE t.2)]),[(.sl 3 [TI] (.dp 0 true []) t.1)],[],false,[]⟩
def BD:aI:=Qg 111 [(.c (.sl [TI])),(.c (.sl [TI]))] λx=>(none,ye (QZ x.1 x.2.1))
def Ld:aF:=⟨[uj,Kg],true⟩
def Qt2:af :=
 (ag [(.ae [aw 19 .lss 18 17]),(.cond 19 .skip (.exit 0)),(.block 1 (ag [(.ae [ab 20 18,ab 8 20]),(.draw [ab 22 0,ab 23 8,a0 24 22 23 [TI],an 25 24 1,ab 26 1,ab 27 8,a0 28 26 27 [TI],an 29 28 1,aD 30 196 [25,29],ab 21 30,bF 31 21 0,bF 32 21 1,ab 9 31,ab 10 32] []),(.ae [ab 33 6,ab 34 9,aC 35 (.bW 3 [TI] [34]),aC 36 (.app 33 35 3 [TI]),ab 6 36]),(.ae [ab 37 7,ab 38 37,.bt 38 false [ab 39 10] 40 39,ab 7 40])])),(.ae [aw 41 .add 18 (aq 1),ab 18 41])])
def Qrt:List (Nat × Md):=[(0,.one .d),(1,.one .d),(6,.one .f),(7,.one .d),(17,.one .d),(18,.one .d)]
def Qxx:af :=
 (ag [(.ae [ab 42 6,ab 43 7,ab 4 42,ab 5 43]),.ret])
def QFX:af :=
 (ag [(.ae [ab 4 (.k (.n [TI])),ab 5 (a6 false)]),(ag [(.ae [ab 11 0,ab 12 1,aD 13 195 [11,12],bL 14 13]),(.cond 14 (ag [(.ae [ab 4 (.k (.n [TI])),ab 5 (a6 false)]),.ret]) .skip)]),(.ae [aC 15 (.bW 3 [TI] []),ab 6 15]),(.ae [ab 7 (a6 false)]),(ag [(.ae [ab 16 0,ba 17 16,ab 18 (aq 0)]),(.block 0 (.loop Qrt Qt2))]),Qxx])
def QwL:List (bn × Md):=[(.t 4,.one (.p 3)),(.t 5,.one .d)]
def Qvk:Qb:=TQ 0 0 QwL K
def QPS:Qb:=aY (aO Ld 0 Qxx (Qvk K)) (Qvk K)
def QOI:Qb:=a7 0 (QPS K)
def BE(a:List Int)(b:List Int)(out:Bool)(x:Int)(v:List Int):Prop:=Loop Ld 0 Qrt Qt2 (QOI K) ⟨[(0,(bg [TI] a)),(1,(bg [TI] b)),(6,(.r [TI] 0 0 v.length)),(7,(bE out)),(17,(aL (a.length:Int))),(18,(aL x))],[(0,(.sl 3 [TI] (.dp 0 true []) v))],1⟩
theorem Qwl(a:List Int)(b:List Int)(out:Bool)(x:Int)(v:List Int) (h :
 (aJ (decide (x<(a.length:Int))) (((0<=x/\Int.toNat x<a.length)/\(0<=x/\Int.toNat x<b.length))/\(((v.length=v.length\/v.length+1<=v.length)/\v.length+1<=ca)/\(BE K a b (out||((Y8 (ar (0:Int) a (Int.toNat x)) (ar (0:Int) b (Int.toNat x))).2)) (aG (x+1)) (List.take (v.length+1) ((List.take v.length v)++([(Y8 (ar (0:Int) a (Int.toNat x)) (ar (0:Int) b (Int.toNat x))).1])))))) (K (ye ((List.take v.length v),out))))):BE K a b out x v :=
 Loop.of h
theorem QIv(a:List Int)(b:List Int):aK Tryz.prog 111 [(.c (.sl [TI]) a),(.c (.sl [TI]) b)] (ye (QZ a b)):=by
 refine bz Ld QFX QwL 0 0 44 BD (kc Bv (kc QR5 kn)) (λK =>
 (aJ (!(ZB a b)) (K (ye (([]:List Int),false))) (BE K a b false 0 ([]:List Int)))) (λhb=>?_)
 refine⟨λh=>au (by unfold QZ;rw[if_neg (by simpa using h)]),λh=>?_⟩;have hp:ZB a b=true:=by simpa using h
 have hl:=oY.1 hp;have h6:=(Yi.1 hl.1).1;refine Zf a (λr k=>∀(v:List Int)(s:Bool),v.length=k->(v++(vz Y8 r (b.drop k)).1,s||(vz Y8 r (b.drop k)).2)=(QZ a b)->BE (λr'=>r'=ye (QZ a b)) a b s k v) ?_ ?_ [] false rfl (by unfold QZ;rw[if_pos hp];simp)
 ·intro v s hv he;refine Qwl _ _ _ _ _ _ ⟨λh=>by simp at h,λ_=>au ?_⟩;rw[<- he];simp[vz]
 ·intro k x r hk aW hg ih v s hv he;obtain⟨y,q,hq⟩:=Yt (l:=b) (k:=k) (by omega);refine Qwl _ _ _ _ _ _ ⟨λ_=>?_,λh=>by simp at h;omega⟩;rw[Int.toNat_natCast,hg,ZF hq,dL (by omega),Q8];refine⟨⟨⟨by omega,aW⟩,by omega,by omega⟩,room (by omega),ih _ _ (Yc hv) ?_⟩;rw[<- he,hq,vz,ZA hq];simp[Bool.or_assoc]
theorem Qsl:Qf Tryz.prog BD:=Qi λx _=>QIv x.1 x.2.1
def BF(t:(List Int) × Bool):aB:=fZ (.tp [(bg [TI] t.1),(bE t.2)])
def BG:aI:=Qg 107 [(.c (.sl [TI])),(.c (.sl [TI]))] λx=>(none,BF (QZ x.1 x.2.1))
def Le:aF:=⟨[uk,Ki],false⟩
def QD7:af :=
 (ag [(ag [(.ae [ab 12 8,ab 13 0,ba 14 13,aw 15 .lss 12 14,ab 16 15,.bt 16 true [ab 17 0,ab 18 1,aD 19 191 [17,18]] 20 19]),(.cond 20 .skip (.exit 0))]),(.block 1 (ag [(.draw [ab 24 0,ab 25 8,a0 26 24 25 [TI],an 27 26 1,ab 28 1,ab 29 8,a0 30 28 29 [TI],an 31 30 1,aD 32 192 [27,31],ab 23 32,bF 33 23 0,bF 34 23 1,ab 9 33,ab 10 34] []),(.ae [ab 35 6,ab 36 9,aC 37 (.bW 3 [TI] [36]),aC 38 (.app 35 37 3 [TI]),ab 6 38]),(.ae [ab 39 7,ab 40 39,.bt 40 false [ab 41 10] 42 41,ab 7 42])])),(.ae [ab 21 8,aw 22 .add 21 (aq 1),ab 8 22])])
def QBb:List (Nat × Md):=[(0,.one .d),(1,.one .d),(6,.one .f),(7,.one .d),(8,.one .d)]
def QA3:af :=
 (ag [(.ae [ab 43 6,ab 44 7,ab 4 43,ab 5 44]),.ret])
def QWz:af :=
 (ag [(.ae [ab 4 (.k (.n [TI])),ab 5 (a6 false)]),(.ae [aC 11 (.bW 3 [TI] []),ab 6 11]),(.ae [ab 7 (a6 false)]),(ag [(.ae [ab 8 (aq 0)]),(.block 0 (.loop QBb QD7))]),QA3])
def QrB:List (bn × Md):=[(.t 4,.one .d),(.t 5,.one .d)]
def QqI:Qb:=TQ 0 0 QrB K
def QL2:Qb:=aY (aO Le 0 QA3 (QqI K)) (QqI K)
def QOL:Qb:=a7 0 (QL2 K)
def BH(a:List Int)(b:List Int)(sat:Bool)(i:Int)(out:List Int):Prop:=Loop Le 0 QBb QD7 (QOL K) ⟨[(0,(bg [TI] a)),(1,(bg [TI] b)),(6,(.r [TI] 0 0 out.length)),(7,(bE sat)),(8,(aL i))],[(0,(.sl 3 [TI] .ow out))],1⟩
theorem Lf(a:List Int)(b:List Int)(sat:Bool)(i:Int)(out:List Int) (h :
 (aJ ((decide (i<(a.length:Int)))&&(ZB a b)) (((0<=i/\Int.toNat i<a.length)/\(0<=i/\Int.toNat i<b.length))/\(((out.length=out.length\/out.length+1<=out.length)/\out.length+1<=ca)/\(BH K a b (sat||((Y8 (ar (0:Int) a (Int.toNat i)) (ar (0:Int) b (Int.toNat i))).2)) (aG (i+1)) (List.take (out.length+1) ((List.take out.length out)++([(Y8 (ar (0:Int) a (Int.toNat i)) (ar (0:Int) b (Int.toNat i))).1])))))) (K (BF ((List.take out.length (List.drop 0 out)),sat))))):BH K a b sat i out :=
 Loop.of h
theorem QUw(a:List Int)(b:List Int):aK Tryz.prog 107 [(.c (.sl [TI]) a),(.c (.sl [TI]) b)] (BF (QZ a b)):=by
 refine bz Le QWz QrB 0 0 45 BG (kc Bw (kc QGD kn)) (λK =>
 (BH K a b false 0 ([]:List Int))) (λhb=>?_)
 by_cases hp:ZB a b=true;rotate_left
 ·refine Lf _ _ _ _ _ _ ⟨λh=>by simp[hp]at h,λ_=>au (by unfold QZ;rw[if_neg hp];rfl)⟩
 have hl:=oY.1 hp;have h6:=(Yi.1 hl.1).1;refine Zf a (λr k=>∀(v:List Int)(s:Bool),v.length=k->(v++(vz Y8 r (b.drop k)).1,s||(vz Y8 r (b.drop k)).2)=(QZ a b)->BH (λr'=>r'=BF (QZ a b)) a b s k v) ?_ ?_ [] false rfl (by unfold QZ;rw[if_pos hp];simp)
 ·intro v s hv he;refine Lf _ _ _ _ _ _ ⟨λh=>by simp at h,λ_=>au ?_⟩;rw[<- he];simp[vz]
 ·intro k x r hk aW hg ih v s hv he;obtain⟨y,q,hq⟩:=Yt (l:=b) (k:=k) (by omega);refine Lf _ _ _ _ _ _ ⟨λ_=>?_,λh=>by simp[hp]at h;omega⟩;rw[Int.toNat_natCast,hg,ZF hq,dL (by omega),Q8];refine⟨⟨⟨by omega,aW⟩,by omega,by omega⟩,room (by omega),ih _ _ (Yc hv) ?_⟩;rw[<- he,hq,vz,ZA hq];simp[Bool.or_assoc]
theorem Qwz:Qf Tryz.prog BG:=Qi λx _=>QUw x.1 x.2.1
def yf(t:(List Int) × Bool):aB:=⟨(.tp [(.r [TI] 0 0 ((t.1).length)),(bE t.2)]),[(.sl 3 [TI] (.dp 0 true []) t.1)],[],false,[]⟩
def BI:aI:=Qg 232 [(.c TI),(.c (.sl [TI]))] λx=>(none,yf (Zz x.1 x.2.1))
def Lg:aF:=⟨[xF,nP,xR],true⟩
def Qt3:af :=
 (ag [(.ae [aw 23 .lss 22 21]),(.cond 23 .skip (.exit 0)),(.block 1 (ag [(.ae [ab 24 22,ab 8 24]),(.ae [ab 26 0,ab 27 1,ab 28 8,a0 29 27 28 [TI],an 30 29 1,aD 31 239 [26,30],ab 25 31,bF 32 25 0,bF 33 25 1,ab 9 32,ab 10 33]),(.ae [ab 34 6,ab 35 9,aC 36 (.bW 3 [TI] [35]),aC 37 (.app 34 36 3 [TI]),ab 6 37]),(.ae [ab 38 7,ab 39 38,.bt 39 false [ab 40 10] 41 40,ab 7 41])])),(.ae [aw 42 .add 22 (aq 1),ab 22 42])])
def Qzm:List (Nat × Md):=[(0,.one .d),(1,.one .d),(6,.one .f),(7,.one .d),(21,.one .d),(22,.one .d)]
def QCg:af :=
 (ag [(.ae [ab 43 6,ab 44 7,ab 4 43,ab 5 44]),.ret])
def QYf:af :=
 (ag [(.ae [ab 4 (.k (.n [TI])),ab 5 (a6 false)]),(ag [(.ae [ab 11 0,aD 12 240 [11],bL 13 12,ab 14 13,.bt 14 false [ab 15 1,aD 16 187 [15],bL 17 16] 18 17]),(.cond 18 (ag [(.ae [ab 4 (.k (.n [TI])),ab 5 (a6 false)]),.ret]) .skip)]),(.ae [aC 19 (.bW 3 [TI] []),ab 6 19]),(.ae [ab 7 (a6 false)]),(ag [(.ae [ab 20 1,ba 21 20,ab 22 (aq 0)]),(.block 0 (.loop Qzm Qt3))]),QCg])
def Qyr:List (bn × Md):=[(.t 4,.one (.p 3)),(.t 5,.one .d)]
def Qt4:Qb:=TQ 0 0 Qyr K
def QVs:Qb:=aY (aO Lg 0 QCg (Qt4 K)) (Qt4 K)
def QL4:Qb:=a7 0 (QVs K)
def BJ(c:Int)(a:List Int)(out:Bool)(x:Int)(v:List Int):Prop:=Loop Lg 0 Qzm Qt3 (QL4 K) ⟨[(0,(aL c)),(1,(bg [TI] a)),(6,(.r [TI] 0 0 v.length)),(7,(bE out)),(21,(aL (a.length:Int))),(22,(aL x))],[(0,(.sl 3 [TI] (.dp 0 true []) v))],1⟩
theorem Qvq(c:Int)(a:List Int)(out:Bool)(x:Int)(v:List Int) (h :
 (aJ (decide (x<(a.length:Int))) ((0<=x/\Int.toNat x<a.length)/\(((v.length=v.length\/v.length+1<=v.length)/\v.length+1<=ca)/\(BJ K c a (out||((Q7 c (ar (0:Int) a (Int.toNat x))).2)) (aG (x+1)) (List.take (v.length+1) ((List.take v.length v)++([(Q7 c (ar (0:Int) a (Int.toNat x))).1])))))) (K (yf ((List.take v.length v),out))))):BJ K c a out x v :=
 Loop.of h
theorem QSm(c:Int)(a:List Int):aK Tryz.prog 232 [(.c TI c),(.c (.sl [TI]) a)] (yf (Zz c a)):=by
 refine bz Lg QYf Qyr 0 0 45 BI (kc IC (kc sa (kc Kk kn))) (λK =>
 (aJ ((!(Zv c))||(!(QK a))) (K (yf (([]:List Int),false))) (BJ K c a false 0 ([]:List Int)))) (λhb=>?_)
 refine⟨λh=>au (by unfold Zz;rw[if_neg (by intro h2;simp at h2;simp[h2]at h)]),λh=>?_⟩;have hp:Zv c=true/\QK a=true:=by simpa using h
 have h6:=(Yi.1 hp.2).1;refine Zf a (λr k=>∀(v:List Int)(s:Bool),v.length=k->(v++(v1 (Q7 c) r).1,s||(v1 (Q7 c) r).2)=(Zz c a)->BJ (λr'=>r'=yf (Zz c a)) c a s k v) ?_ ?_ [] false rfl (by unfold Zz;rw[if_pos (by simp[hp])];simp)
 ·intro v s hv he;refine Qvq _ _ _ _ _ _ ⟨λh=>by simp at h,λ_=>au ?_⟩;rw[<- he];simp[v1]
 ·intro k x r hk aW hg ih v s hv he;refine Qvq _ _ _ _ _ _ ⟨λ_=>?_,λh=>by simp at h;omega⟩;rw[Int.toNat_natCast,hg,dL (by omega),Q8];refine⟨⟨by omega,aW⟩,room (by omega),ih _ _ (Yc hv) ?_⟩;rw[<- he,v1];simp[Bool.or_assoc]
theorem Qv3:Qf Tryz.prog BI:=Qi λx _=>QSm x.1 x.2.1
def BK(t:(List Int) × Bool):aB:=fZ (.tp [(bg [TI] t.1),(bE t.2)])
def BL:aI:=Qg 227 [(.c TI),(.c (.sl [TI]))] λx=>(none,BK (Zz x.1 x.2.1))
def Lh:aF:=⟨[Yv,t4,xS],false⟩
def Qti:af :=
 (ag [(ag [(.ae [ab 12 8,ab 13 1,ba 14 13,aw 15 .lss 12 14,ab 16 15,.bt 16 true [ab 17 1,aD 18 97 [17]] 19 18,ab 20 19,.bt 20 true [ab 21 0,aD 22 183 [21]] 23 22]),(.cond 23 .skip (.exit 0))]),(.block 1 (ag [(.ae [ab 27 0,ab 28 1,ab 29 8,a0 30 28 29 [TI],an 31 30 1,aD 32 237 [27,31],ab 26 32,bF 33 26 0,bF 34 26 1,ab 9 33,ab 10 34]),(.ae [ab 35 6,ab 36 9,aC 37 (.bW 3 [TI] [36]),aC 38 (.app 35 37 3 [TI]),ab 6 38]),(.ae [ab 39 7,ab 40 39,.bt 40 false [ab 41 10] 42 41,ab 7 42])])),(.ae [ab 24 8,aw 25 .add 24 (aq 1),ab 8 25])])
def Qw4:List (Nat × Md):=[(0,.one .d),(1,.one .d),(6,.one .f),(7,.one .d),(8,.one .d)]
def QvJ:af :=
 (ag [(.ae [ab 43 6,ab 44 7,ab 4 43,ab 5 44]),.ret])
def QM0:af :=
 (ag [(.ae [ab 4 (.k (.n [TI])),ab 5 (a6 false)]),(.ae [aC 11 (.bW 3 [TI] []),ab 6 11]),(.ae [ab 7 (a6 false)]),(ag [(.ae [ab 8 (aq 0)]),(.block 0 (.loop Qw4 Qti))]),QvJ])
def QsT:List (bn × Md):=[(.t 4,.one .d),(.t 5,.one .d)]
def Qq9:Qb:=TQ 0 0 QsT K
def QOh:Qb:=aY (aO Lh 0 QvJ (Qq9 K)) (Qq9 K)
def QLn:Qb:=a7 0 (QOh K)
def BM(c:Int)(a:List Int)(sat:Bool)(i:Int)(out:List Int):Prop:=Loop Lh 0 Qw4 Qti (QLn K) ⟨[(0,(aL c)),(1,(bg [TI] a)),(6,(.r [TI] 0 0 out.length)),(7,(bE sat)),(8,(aL i))],[(0,(.sl 3 [TI] .ow out))],1⟩
theorem Li(c:Int)(a:List Int)(sat:Bool)(i:Int)(out:List Int) (h :
 (aJ (((decide (i<(a.length:Int)))&&(QK a))&&(Zv c)) ((0<=i/\Int.toNat i<a.length)/\(((out.length=out.length\/out.length+1<=out.length)/\out.length+1<=ca)/\(BM K c a (sat||((Q7 c (ar (0:Int) a (Int.toNat i))).2)) (aG (i+1)) (List.take (out.length+1) ((List.take out.length out)++([(Q7 c (ar (0:Int) a (Int.toNat i))).1])))))) (K (BK ((List.take out.length (List.drop 0 out)),sat))))):BM K c a sat i out :=
 Loop.of h
theorem QF4(c:Int)(a:List Int):aK Tryz.prog 227 [(.c TI c),(.c (.sl [TI]) a)] (BK (Zz c a)):=by
 refine bz Lh QM0 QsT 0 0 45 BL (kc YK (kc AZ (kc Km kn))) (λK =>
 (BM K c a false 0 ([]:List Int))) (λhb=>?_)
 by_cases hp:Zv c=true/\QK a=true;rotate_left
 ·refine Li _ _ _ _ _ _ ⟨λh=>absurd (by simp at h;exact⟨h.2,h.1.2⟩) hp,λ_=>au (by unfold Zz;rw[if_neg (by simpa using hp)];rfl)⟩
 have h6:=(Yi.1 hp.2).1;refine Zf a (λr k=>∀(v:List Int)(s:Bool),v.length=k->(v++(v1 (Q7 c) r).1,s||(v1 (Q7 c) r).2)=(Zz c a)->BM (λr'=>r'=BK (Zz c a)) c a s k v) ?_ ?_ [] false rfl (by unfold Zz;rw[if_pos (by simp[hp])];simp)
 ·intro v s hv he;refine Li _ _ _ _ _ _ ⟨λh=>by simp at h,λ_=>au ?_⟩;rw[<- he];simp[v1]
 ·intro k x r hk aW hg ih v s hv he;refine Li _ _ _ _ _ _ ⟨λ_=>?_,λh=>by simp[hp]at h;omega⟩;rw[Int.toNat_natCast,hg,dL (by omega),Q8];refine⟨⟨by omega,aW⟩,room (by omega),ih _ _ (Yc hv) ?_⟩;rw[<- he,v1];simp[Bool.or_assoc]
theorem QyU:Qf Tryz.prog BL:=Qi λx _=>QF4 x.1 x.2.1
def yg(t:Int × Bool):aB:=b6 (.tp [(aL t.1),(bE t.2)])
def yh:aI:=Qg 188 [(.c (.sl [TI])),(.c (.sl [TI]))] λx=>(none,yg (Q1 x.1 x.2.1))
def Lj:aF:=⟨[uj,xR,uc],false⟩
def QxB:af :=
 (ag [(.ae [aw 20 .lss 19 18]),(.cond 20 .skip (.exit 0)),(.block 1 (ag [(.ae [ab 21 19,ab 8 21]),(.draw [ab 23 0,ab 24 8,a0 25 23 24 [TI],an 26 25 1,ab 27 1,ab 28 8,a0 29 27 28 [TI],an 30 29 1,aD 31 239 [26,30],ab 22 31,bF 32 22 0,bF 33 22 1,ab 9 32,ab 10 33] []),(.ae [ab 35 6,ab 36 9,aD 37 106 [35,36],ab 34 37,bF 38 34 0,bF 39 34 1,ab 11 38,ab 12 39]),(.ae [ab 40 11,ab 6 40]),(.ae [ab 41 7,ab 42 41,.bt 42 false [ab 43 10] 44 43,ab 45 44,.bt 45 false [ab 46 12] 47 46,ab 7 47])])),(.ae [aw 48 .add 19 (aq 1),ab 19 48])])
def QEs:List (Nat × Md):=eV [0,1,6,7,18,19]
def Qxs:af :=
 (ag [(.ae [ab 49 6,ab 50 7,ab 4 49,ab 5 50]),.ret])
def QKI:af :=
 (ag [(.ae [ab 4 (aq 0),ab 5 (a6 false)]),(ag [(.ae [ab 13 0,ab 14 1,aD 15 195 [13,14],bL 16 15]),(.cond 16 (ag [(.ae [ab 4 (aq 0),ab 5 (a6 false)]),.ret]) .skip)]),(.ae [ab 6 (aq 0)]),(.ae [ab 7 (a6 false)]),(ag [(.ae [ab 17 0,ba 18 17,ab 19 (aq 0)]),(.block 0 (.loop QEs QxB))]),Qxs])
def Qxd:List (bn × Md):=[(.t 4,.one .d),(.t 5,.one .d)]
def Qtj:Qb:=TQ 0 0 Qxd K
def QNy:Qb:=aY (aO Lj 0 Qxs (Qtj K)) (Qtj K)
def QG1:Qb:=a7 0 (QNy K)
def BN(a:List Int)(b:List Int)(sum:Int)(out:Bool)(x:Int):Prop:=Loop Lj 0 QEs QxB (QG1 K) ⟨[(0,(bg [TI] a)),(1,(bg [TI] b)),(6,(aL sum)),(7,(bE out)),(18,(aL (a.length:Int))),(19,(aL x))],[],0⟩
theorem QuF(a:List Int)(b:List Int)(sum:Int)(out:Bool)(x:Int) (h :
 (aJ (decide (x<(a.length:Int))) (((0<=x/\Int.toNat x<a.length)/\(0<=x/\Int.toNat x<b.length))/\(BN K a b ((Q4 sum ((Q7 (ar (0:Int) a (Int.toNat x)) (ar (0:Int) b (Int.toNat x))).1)).1) ((out||((Q7 (ar (0:Int) a (Int.toNat x)) (ar (0:Int) b (Int.toNat x))).2))||((Q4 sum ((Q7 (ar (0:Int) a (Int.toNat x)) (ar (0:Int) b (Int.toNat x))).1)).2)) (aG (x+1)))) (K (yg (sum,out))))):BN K a b sum out x :=
 Loop.of h
theorem QWh(a:List Int)(b:List Int):aK Tryz.prog 188 [(.c (.sl [TI]) a),(.c (.sl [TI]) b)] (yg (Q1 a b)):=by
 refine bz Lj QKI Qxd 0 0 51 yh (kc Bv (kc Kk (kc A8 kn))) (λK =>
 (aJ (!(ZB a b)) (K (yg ((0:Int),false))) (BN K a b 0 false 0))) (λhb=>?_)
 refine⟨λh=>au (by unfold Q1;rw[if_neg (by simpa using h)]),λh=>?_⟩;have hp:ZB a b=true:=by simpa using h
 have hl:=oY.1 hp;have h6:=(Yi.1 hl.1).1;refine Zf a (λr k=>∀(z:Int)(s:Bool),((Yn r (b.drop k) z).1,s||(Yn r (b.drop k) z).2)=(Q1 a b)->BN (λr'=>r'=yg (Q1 a b)) a b z s k) ?_ ?_ 0 false (by unfold Q1;rw[if_pos hp];simp)
 ·intro z s he;refine QuF _ _ _ _ _ _ ⟨λh=>by simp at h,λ_=>au ?_⟩;rw[<- he];simp[Yn]
 ·intro k x r hk aW hg ih z s he;obtain⟨y,q,hq⟩:=Yt (l:=b) (k:=k) (by omega);refine QuF _ _ _ _ _ _ ⟨λ_=>?_,λh=>by simp at h;omega⟩;rw[Int.toNat_natCast,hg,ZF hq,dL (by omega)];refine⟨⟨⟨by omega,aW⟩,by omega,by omega⟩,ih _ _ ?_⟩;rw[<- he,hq,Yn,ZA hq];simp[Bool.or_assoc]
theorem Lk:Qf Tryz.prog yh:=Qi λx _=>QWh x.1 x.2.1
def BO(t:Int × Bool):aB:=b6 (.tp [(aL t.1),(bE t.2)])
def um:aI:=Qg 184 [(.c (.sl [TI])),(.c (.sl [TI]))] λx=>(none,BO (Q1 x.1 x.2.1))
def Ll:aF:=⟨[uk,xS,se],false⟩
def QCh:af :=
 (ag [(ag [(.ae [ab 13 8,ab 14 0,ba 15 14,aw 16 .lss 13 15,ab 17 16,.bt 17 true [ab 18 0,ab 19 1,aD 20 191 [18,19]] 21 20]),(.cond 21 .skip (.exit 0))]),(.block 1 (ag [(.draw [ab 25 0,ab 26 8,a0 27 25 26 [TI],an 28 27 1,ab 29 1,ab 30 8,a0 31 29 30 [TI],an 32 31 1,aD 33 237 [28,32],ab 24 33,bF 34 24 0,bF 35 24 1,ab 9 34,ab 10 35] []),(.ae [ab 37 6,ab 38 9,aD 39 99 [37,38],ab 36 39,bF 40 36 0,bF 41 36 1,ab 11 40,ab 12 41]),(.ae [ab 42 11,ab 6 42]),(.ae [ab 43 7,ab 44 43,.bt 44 false [ab 45 10] 46 45,ab 47 46,.bt 47 false [ab 48 12] 49 48,ab 7 49])])),(.ae [ab 22 8,aw 23 .add 22 (aq 1),ab 8 23])])
def Qux:List (Nat × Md):=eV [0,1,6,7,8]
def Qug:af :=
 (ag [(.ae [ab 50 6,ab 51 7,ab 4 50,ab 5 51]),.ret])
def QUQ:af :=
 (ag [(.ae [ab 4 (aq 0),ab 5 (a6 false)]),(.ae [ab 6 (aq 0)]),(.ae [ab 7 (a6 false)]),(ag [(.ae [ab 8 (aq 0)]),(.block 0 (.loop Qux QCh))]),Qug])
def QuE:List (bn × Md):=[(.t 4,.one .d),(.t 5,.one .d)]
def QB4:Qb:=TQ 0 0 QuE K
def QNh:Qb:=aY (aO Ll 0 Qug (QB4 K)) (QB4 K)
def QKo:Qb:=a7 0 (QNh K)
def BP(a:List Int)(b:List Int)(sum:Int)(sat:Bool)(i:Int):Prop:=Loop Ll 0 Qux QCh (QKo K) ⟨[(0,(bg [TI] a)),(1,(bg [TI] b)),(6,(aL sum)),(7,(bE sat)),(8,(aL i))],[],0⟩
theorem Lm(a:List Int)(b:List Int)(sum:Int)(sat:Bool)(i:Int) (h :
 (aJ ((decide (i<(a.length:Int)))&&(ZB a b)) (((0<=i/\Int.toNat i<a.length)/\(0<=i/\Int.toNat i<b.length))/\(BP K a b ((Q4 sum ((Q7 (ar (0:Int) a (Int.toNat i)) (ar (0:Int) b (Int.toNat i))).1)).1) ((sat||((Q7 (ar (0:Int) a (Int.toNat i)) (ar (0:Int) b (Int.toNat i))).2))||((Q4 sum ((Q7 (ar (0:Int) a (Int.toNat i)) (ar (0:Int) b (Int.toNat i))).1)).2)) (aG (i+1)))) (K (BO (sum,sat))))):BP K a b sum sat i :=
 Loop.of h
theorem QUi(a:List Int)(b:List Int):aK Tryz.prog 184 [(.c (.sl [TI]) a),(.c (.sl [TI]) b)] (BO (Q1 a b)):=by
 refine bz Ll QUQ QuE 0 0 52 um (kc Bw (kc Km (kc xQ kn))) (λK =>
 (BP K a b 0 false 0)) (λhb=>?_)
 by_cases hp:ZB a b=true;rotate_left
 ·refine Lm _ _ _ _ _ _ ⟨λh=>by simp[hp]at h,λ_=>au (by unfold Q1;rw[if_neg hp])⟩
 have hl:=oY.1 hp;have h6:=(Yi.1 hl.1).1;refine Zf a (λr k=>∀(z:Int)(s:Bool),((Yn r (b.drop k) z).1,s||(Yn r (b.drop k) z).2)=(Q1 a b)->BP (λr'=>r'=BO (Q1 a b)) a b z s k) ?_ ?_ 0 false (by unfold Q1;rw[if_pos hp];simp)
 ·intro z s he;refine Lm _ _ _ _ _ _ ⟨λh=>by simp at h,λ_=>au ?_⟩;rw[<- he];simp[Yn]
 ·intro k x r hk aW hg ih z s he;obtain⟨y,q,hq⟩:=Yt (l:=b) (k:=k) (by omega);refine Lm _ _ _ _ _ _ ⟨λ_=>?_,λh=>by simp[hp]at h;omega⟩;rw[Int.toNat_natCast,hg,ZF hq,dL (by omega)];refine⟨⟨⟨by omega,aW⟩,by omega,by omega⟩,ih _ _ ?_⟩;rw[<- he,hq,Yn,ZA hq];simp[Bool.or_assoc]
theorem BQ:Qf Tryz.prog um:=Qi λx _=>QUi x.1 x.2.1
def yi(t:(List Int)):aB:=⟨(.r [TI] 0 0 t.length),[(.sl 3 [TI] (.dp 0 true []) t)],[],false,[]⟩
def Ln:aI:=Qg 233 [(.c (.sl [TI]))] λx=>(none,yi (Z4 x.1))
def Lo:aF:=⟨[nP,Ko],true⟩
def QCm:af :=
 (ag [(.ae [aw 13 .lss 12 11]),(.cond 13 .skip (.exit 0)),(.block 1 (ag [(.ae [a0 14 10 12 [TI],an 15 14 1,ab 5 15]),(.ae [ab 16 3,ab 17 5,aD 18 259 [17],aC 19 (.bW 3 [TI] [18]),aC 20 (.app 16 19 3 [TI]),ab 3 20])])),(.ae [aw 21 .add 12 (aq 1),ab 12 21])])
def Qx0:List (Nat × Md):=[(3,.one .f),(10,.one .d),(11,.one .d),(12,.one .d)]
def QEq:af :=
 (ag [(.ae [ab 22 3,ab 2 22]),.ret])
def QKd:af :=
 (ag [(.ae [ab 2 (.k (.n [TI]))]),(ag [(.ae [ab 6 0,aD 7 187 [6],bL 8 7]),(.cond 8 (ag [(.ae [ab 2 (.k (.n [TI]))]),.ret]) .skip)]),(.ae [aC 9 (.bW 3 [TI] []),ab 3 9]),(ag [(.ae [ab 10 0,ba 11 10,ab 12 (aq 0)]),(.block 0 (.loop Qx0 QCm))]),QEq])
def QCt:List (bn × Md):=[(.t 2,.one (.p 3))]
def Qwo:Qb:=TQ 0 0 QCt K
def QHo:Qb:=aY (aO Lo 0 QEq (Qwo K)) (Qwo K)
def QTY:Qb:=a7 0 (QHo K)
def BS(a:List Int)(x:Int)(v:List Int):Prop:=Loop Lo 0 Qx0 QCm (QTY K) ⟨[(3,(.r [TI] 0 0 v.length)),(10,(bg [TI] a)),(11,(aL (a.length:Int))),(12,(aL x))],[(0,(.sl 3 [TI] (.dp 0 true []) v))],1⟩
theorem Qxh(a:List Int)(x:Int)(v:List Int) (h :
 (aJ (decide (x<(a.length:Int))) ((0<=x/\Int.toNat x<a.length)/\(((v.length=v.length\/v.length+1<=v.length)/\v.length+1<=ca)/\(BS K a (aG (x+1)) (List.take (v.length+1) ((List.take v.length v)++([(nB (ar (0:Int) a (Int.toNat x)))])))))) (K (yi (List.take v.length v))))):BS K a x v :=
 Loop.of h
theorem QRi(a:List Int):aK Tryz.prog 233 [(.c (.sl [TI]) a)] (yi (Z4 a)):=by
 refine bz Lo QKd QCt 0 0 23 Ln (kc sa (kc QXJ kn)) (λK =>
 (aJ (!(QK a)) (K (yi ([]:List Int))) (BS K a 0 ([]:List Int)))) (λhb=>?_)
 refine⟨λh=>au (by unfold Z4;rw[if_neg (by simpa using h)]),λh=>?_⟩;have hp:QK a=true:=by simpa using h
 have h6:=(Yi.1 hp).1;refine Zf a (λr k=>∀(v:List Int),v.length=k->v++r.map nB=(Z4 a)->BS (λr'=>r'=yi (Z4 a)) a k v) ?_ ?_ [] rfl (by unfold Z4;rw[if_pos hp];simp)
 ·intro v hv he;refine Qxh _ _ _ _ ⟨λh=>by simp at h,λ_=>au ?_⟩;rw[<- he];simp
 ·intro k x r hk aW hg ih v hv he;refine Qxh _ _ _ _ ⟨λ_=>?_,λh=>by simp at h;omega⟩;rw[Int.toNat_natCast,hg,dL (by omega),Q8];refine⟨⟨by omega,aW⟩,room (by omega),ih _ (Yc hv) ?_⟩;rw[<- he];simp
theorem QN8:Qf Tryz.prog Ln:=Qi λx _=>QRi x.1
def BT(t:(List Int)):aB:=fZ (bg [TI] t)
def Lp:aI:=Qg 226 [(.c (.sl [TI]))] λx=>(none,BT (Z4 x.1))
def Lq:aF:=⟨[Yv,Kq],false⟩
def QuB:af :=
 (ag [(ag [(.ae [ab 6 4,ab 7 0,ba 8 7,aw 9 .lss 6 8,ab 10 9,.bt 10 true [ab 11 0,aD 12 97 [11]] 13 12]),(.cond 13 .skip (.exit 0))]),(.block 1 (.ae [ab 16 3,ab 17 0,ab 18 4,a0 19 17 18 [TI],an 20 19 1,aD 21 256 [20],aC 22 (.bW 3 [TI] [21]),aC 23 (.app 16 22 3 [TI]),ab 3 23])),(.ae [ab 14 4,aw 15 .add 14 (aq 1),ab 4 15])])
def QsX:List (Nat × Md):=[(0,.one .d),(3,.one .f),(4,.one .d)]
def QxE:af :=
 (ag [(.ae [ab 24 3,ab 2 24]),.ret])
def QGA:af :=
 (ag [(.ae [ab 2 (.k (.n [TI]))]),(.ae [aC 5 (.bW 3 [TI] []),ab 3 5]),(ag [(.ae [ab 4 (aq 0)]),(.block 0 (.loop QsX QuB))]),QxE])
def QBG:List (bn × Md):=[(.t 2,.one .d)]
def Qxy:Qb:=TQ 0 0 QBG K
def QIM:Qb:=aY (aO Lq 0 QxE (Qxy K)) (Qxy K)
def QLq:Qb:=a7 0 (QIM K)
def BU(a:List Int)(i:Int)(out:List Int):Prop:=Loop Lq 0 QsX QuB (QLq K) ⟨[(0,(bg [TI] a)),(3,(.r [TI] 0 0 out.length)),(4,(aL i))],[(0,(.sl 3 [TI] .ow out))],1⟩
theorem Lr(a:List Int)(i:Int)(out:List Int) (h :
 (aJ ((decide (i<(a.length:Int)))&&(QK a)) (((0<=i/\Int.toNat i<a.length)/\((out.length=out.length\/out.length+1<=out.length)/\out.length+1<=ca))/\(BU K a (aG (i+1)) (List.take (out.length+1) ((List.take out.length out)++([(nB (ar (0:Int) a (Int.toNat i)))]))))) (K (BT (List.take out.length (List.drop 0 out)))))):BU K a i out :=
 Loop.of h
theorem QLN(a:List Int):aK Tryz.prog 226 [(.c (.sl [TI]) a)] (BT (Z4 a)):=by
 refine bz Lq QGA QBG 0 0 25 Lp (kc YK (kc QPb kn)) (λK =>
 (BU K a 0 ([]:List Int))) (λhb=>?_)
 by_cases hp:QK a=true;rotate_left
 ·refine Lr _ _ _ _ ⟨λh=>by simp[hp]at h,λ_=>au (by unfold Z4;rw[if_neg hp];rfl)⟩
 have h6:=(Yi.1 hp).1;refine Zf a (λr k=>∀(v:List Int),v.length=k->v++r.map nB=(Z4 a)->BU (λr'=>r'=BT (Z4 a)) a k v) ?_ ?_ [] rfl (by unfold Z4;rw[if_pos hp];simp)
 ·intro v hv he;refine Lr _ _ _ _ ⟨λh=>by simp at h,λ_=>au ?_⟩;rw[<- he];simp
 ·intro k x r hk aW hg ih v hv he;refine Lr _ _ _ _ ⟨λ_=>?_,λh=>by simp[hp]at h;omega⟩;rw[Int.toNat_natCast,hg,dL (by omega),Q8];refine⟨⟨⟨by omega,aW⟩,room (by omega)⟩,ih _ (Yc hv) ?_⟩;rw[<- he];simp
theorem QTu:Qf Tryz.prog Lp:=Qi λx _=>QLN x.1
def yj(t:(List Int)):aB:=⟨(.r [TI] 0 0 t.length),[(.sl 3 [TI] (.dp 0 true []) t)],[],false,[]⟩
def Ls:aI:=Qg 246 [(.c (.sl [TI])),(.c (.sl [TI]))] λx=>(none,yj (Z5 x.1 x.2.1))
def Lt:aF:=⟨[uj],true⟩
def Qzc:af :=
 (ag [(.ae [aw 15 .lss 14 13]),(.cond 15 .skip (.exit 0)),(.block 1 (ag [(.ae [ab 16 14,ab 6 16]),(.ae [ab 17 0,ab 18 6,a0 19 17 18 [TI],an 20 19 1,aw 21 .gtr 20 (aq 0)]),(.cond 21 (.ae [ab 22 5,ab 23 1,ab 24 6,a0 25 23 24 [TI],an 26 25 1,aC 27 (.bW 3 [TI] [26]),aC 28 (.app 22 27 3 [TI]),ab 5 28]) (.ae [ab 29 5,aC 30 (.bW 3 [TI] [(aq 0)]),aC 31 (.app 29 30 3 [TI]),ab 5 31]))])),(.ae [aw 32 .add 14 (aq 1),ab 14 32])])
def Qup:List (Nat × Md):=[(0,.one .d),(1,.one .d),(5,.one .f),(13,.one .d),(14,.one .d)]
def QAB:af :=
 (ag [(.ae [ab 33 5,ab 4 33]),.ret])
def QTc:af :=
 (ag [(.ae [ab 4 (.k (.n [TI]))]),(ag [(.ae [ab 7 0,ab 8 1,aD 9 195 [7,8],bL 10 9]),(.cond 10 (ag [(.ae [ab 4 (.k (.n [TI]))]),.ret]) .skip)]),(.ae [aC 11 (.bW 3 [TI] []),ab 5 11]),(ag [(.ae [ab 12 0,ba 13 12,ab 14 (aq 0)]),(.block 0 (.loop Qup Qzc))]),QAB])
def QA4:List (bn × Md):=[(.t 4,.one (.p 3))]
def QvH:Qb:=TQ 0 0 QA4 K
def QWQ:Qb:=aY (aO Lt 0 QAB (QvH K)) (QvH K)
def QT9:Qb:=a7 0 (QWQ K)
def yk(x:List Int)(d:List Int)(x1:Int)(v:List Int):Prop:=Loop Lt 0 Qup Qzc (QT9 K) ⟨[(0,(bg [TI] x)),(1,(bg [TI] d)),(5,(.r [TI] 0 0 v.length)),(13,(aL (x.length:Int))),(14,(aL x1))],[(0,(.sl 3 [TI] (.dp 0 true []) v))],1⟩
theorem Qr7(x:List Int)(d:List Int)(x1:Int)(v:List Int) (h :
 (aJ (decide (x1<(x.length:Int))) ((0<=x1/\Int.toNat x1<x.length)/\(aJ (decide ((ar (0:Int) x (Int.toNat x1))>0)) (((0<=x1/\Int.toNat x1<d.length)/\((v.length=v.length\/v.length+1<=v.length)/\v.length+1<=ca))/\(yk K x d (aG (x1+1)) (List.take (v.length+1) ((List.take v.length v)++([(ar (0:Int) d (Int.toNat x1))]))))) (((v.length=v.length\/v.length+1<=v.length)/\v.length+1<=ca)/\(yk K x d (aG (x1+1)) (List.take (v.length+1) ((List.take v.length v)++([(0:Int)]))))))) (K (yj (List.take v.length v))))):yk K x d x1 v :=
 Loop.of h
theorem QSu(x:List Int)(d:List Int):aK Tryz.prog 246 [(.c (.sl [TI]) x),(.c (.sl [TI]) d)] (yj (Z5 x d)):=by
 refine bz Lt QTc QA4 0 0 34 Ls (kc Bv kn) (λK =>
 (aJ (!(ZB x d)) (K (yj ([]:List Int))) (yk K x d 0 ([]:List Int)))) (λhb=>?_)
 refine⟨λh=>au (by unfold Z5;rw[if_neg (by simpa using h)]),λh=>?_⟩;have hp:ZB x d=true:=by simpa using h
 have hl:=oY.1 hp;have h6:=(Yi.1 hl.1).1;refine Zf x (λr k=>∀(v:List Int),v.length=k->v++List.zipWith (λa b=>if 0<a then b else 0) r (d.drop k)=(Z5 x d)->yk (λr'=>r'=yj (Z5 x d)) x d k v) ?_ ?_ [] rfl (by unfold Z5;rw[if_pos hp];simp)
 ·intro v hv he;refine Qr7 _ _ _ _ _ ⟨λh=>by simp at h,λ_=>au ?_⟩;rw[<- he];simp
 ·intro k y r hk aW hg ih v hv he;obtain⟨z,q,hq⟩:=Yt (l:=d) (k:=k) (by omega);refine Qr7 _ _ _ _ _ ⟨λ_=>?_,λh=>by simp at h;omega⟩;rw[Int.toNat_natCast,hg,ZF hq,dL (by omega),Q8,Q8];rw[hq,List.zipWith_cons_cons,<- ZA hq]at he;refine⟨⟨by omega,aW⟩,λh=>⟨⟨⟨by omega,by omega⟩,room (by omega)⟩,ih _ (Yc hv) ?_⟩,λh=>⟨room (by omega),ih _ (Yc hv) ?_⟩⟩
  ·rw[<- he,if_pos (by simpa using h)];simp
  ·rw[<- he,if_neg (by simpa using h)];simp
theorem QMp:Qf Tryz.prog Ls:=Qi λx _=>QSu x.1 x.2.1
def BV(t:(List Int)):aB:=fZ (bg [TI] t)
def Lu:aI:=Qg 241 [(.c (.sl [TI])),(.c (.sl [TI]))] λx=>(none,BV (Z5 x.1 x.2.1))
def Lv:aF:=⟨[uk],false⟩
def QqD:af :=
 (ag [(ag [(.ae [ab 8 6,ab 9 0,ba 10 9,aw 11 .lss 8 10,ab 12 11,.bt 12 true [ab 13 0,ab 14 1,aD 15 191 [13,14]] 16 15]),(.cond 16 .skip (.exit 0))]),(.block 1 (ag [(.ae [ab 19 0,ab 20 6,a0 21 19 20 [TI],an 22 21 1,aw 23 .gtr 22 (aq 0)]),(.cond 23 (.ae [ab 24 5,ab 25 1,ab 26 6,a0 27 25 26 [TI],an 28 27 1,aC 29 (.bW 3 [TI] [28]),aC 30 (.app 24 29 3 [TI]),ab 5 30]) (.ae [ab 31 5,aC 32 (.bW 3 [TI] [(aq 0)]),aC 33 (.app 31 32 3 [TI]),ab 5 33]))])),(.ae [ab 17 6,aw 18 .add 17 (aq 1),ab 6 18])])
def QxX:List (Nat × Md):=[(0,.one .d),(1,.one .d),(5,.one .f),(6,.one .d)]
def QyQ:af :=
 (ag [(.ae [ab 34 5,ab 4 34]),.ret])
def QF2:af :=
 (ag [(.ae [ab 4 (.k (.n [TI]))]),(.ae [aC 7 (.bW 3 [TI] []),ab 5 7]),(ag [(.ae [ab 6 (aq 0)]),(.block 0 (.loop QxX QqD))]),QyQ])
def QBm:List (bn × Md):=[(.t 4,.one .d)]
def Qrs:Qb:=TQ 0 0 QBm K
def QLS:Qb:=aY (aO Lv 0 QyQ (Qrs K)) (Qrs K)
def QGq:Qb:=a7 0 (QLS K)
def yl(x:List Int)(d:List Int)(i:Int)(out:List Int):Prop:=Loop Lv 0 QxX QqD (QGq K) ⟨[(0,(bg [TI] x)),(1,(bg [TI] d)),(5,(.r [TI] 0 0 out.length)),(6,(aL i))],[(0,(.sl 3 [TI] .ow out))],1⟩
theorem Lw(x:List Int)(d:List Int)(i:Int)(out:List Int) (h :
 (aJ ((decide (i<(x.length:Int)))&&(ZB x d)) ((0<=i/\Int.toNat i<x.length)/\(aJ (decide ((ar (0:Int) x (Int.toNat i))>0)) (((0<=i/\Int.toNat i<d.length)/\((out.length=out.length\/out.length+1<=out.length)/\out.length+1<=ca))/\(yl K x d (aG (i+1)) (List.take (out.length+1) ((List.take out.length out)++([(ar (0:Int) d (Int.toNat i))]))))) (((out.length=out.length\/out.length+1<=out.length)/\out.length+1<=ca)/\(yl K x d (aG (i+1)) (List.take (out.length+1) ((List.take out.length out)++([(0:Int)]))))))) (K (BV (List.take out.length (List.drop 0 out)))))):yl K x d i out :=
 Loop.of h
theorem QPP(x:List Int)(d:List Int):aK Tryz.prog 241 [(.c (.sl [TI]) x),(.c (.sl [TI]) d)] (BV (Z5 x d)):=by
 refine bz Lv QF2 QBm 0 0 35 Lu (kc Bw kn) (λK =>
 (yl K x d 0 ([]:List Int))) (λhb=>?_)
 by_cases hp:ZB x d=true;rotate_left
 ·refine Lw _ _ _ _ _ ⟨λh=>by simp[hp]at h,λ_=>au (by unfold Z5;rw[if_neg hp];rfl)⟩
 have hl:=oY.1 hp;have h6:=(Yi.1 hl.1).1;refine Zf x (λr k=>∀(v:List Int),v.length=k->v++List.zipWith (λa b=>if 0<a then b else 0) r (d.drop k)=(Z5 x d)->yl (λr'=>r'=BV (Z5 x d)) x d k v) ?_ ?_ [] rfl (by unfold Z5;rw[if_pos hp];simp)
 ·intro v hv he;refine Lw _ _ _ _ _ ⟨λh=>by simp at h,λ_=>au ?_⟩;rw[<- he];simp
 ·intro k y r hk aW hg ih v hv he;obtain⟨z,q,hq⟩:=Yt (l:=d) (k:=k) (by omega);refine Lw _ _ _ _ _ ⟨λ_=>?_,λh=>by simp[hp]at h;omega⟩;rw[Int.toNat_natCast,hg,ZF hq,dL (by omega),Q8,Q8];rw[hq,List.zipWith_cons_cons,<- ZA hq]at he;refine⟨⟨by omega,aW⟩,λh=>⟨⟨⟨by omega,by omega⟩,room (by omega)⟩,ih _ (Yc hv) ?_⟩,λh=>⟨room (by omega),ih _ (Yc hv) ?_⟩⟩
  ·rw[<- he,if_pos (by simpa using h)];simp
  ·rw[<- he,if_neg (by simpa using h)];simp
theorem QLT:Qf Tryz.prog Lu:=Qi λx _=>QPP x.1 x.2.1
end
end Go.Proofs.YtdplaepmjogjjaaGreat.Am

