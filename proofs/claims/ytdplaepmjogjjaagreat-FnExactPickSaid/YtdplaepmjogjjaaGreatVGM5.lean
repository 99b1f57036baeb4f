/- -/
import Derived.Test.YtdplaepmjogjjaaGreatVGM4
namespace Go.Proofs.YtdplaepmjogjjaaGreat.Am
open Go Go.RowKit Go.Proofs.YtdplaepmjogjjaaGreat
set_option linter.all false
noncomputable section
variable (K:aB->Prop)
def BT(t:Bool):aB:=b6 (bE t)
def yi:aJ:=Qg 258 [(.a [TI,TI,(.sl [TI])])] λx=>(none,BT (Zo x.1))
def QUj:aF:=⟨[xC],false⟩
def QGw:af :=
 (ag [(.ae [aC 1 (.box 235 0 3),ab 2 (a6 false)]),(ag [(.ae [ak 3 1 0,an 4 3 1,aw 5 .lss 4 (ar 1),ab 6 5,.bw 6 false [ak 7 1 0,an 8 7 1,aw 9 .gtr 8 (ar 6)] 10 9,ab 11 10,.bw 11 false [ak 12 1 1,an 13 12 1,aw 14 .lss 13 (ar 1)] 15 14,ab 16 15,.bw 16 false [ak 17 1 1,an 18 17 1,aw 19 .gtr 18 (ar 6)] 20 19]),(.cond 20 (ag [(.ae [ab 2 (a6 false)]),.ret]) .skip)]),(.ae [ak 21 1 2,an 22 21 1,ba 23 22,ak 24 1 0,an 25 24 1,ak 26 1 1,an 27 26 1,aw 28 .mul 25 27,aw 29 .eql 23 28,ab 30 29,.bw 30 true [ak 31 1 2,an 32 31 1,aD 33 238 [32]] 34 33,ab 2 34]),.ret])
def QPW:List (bn × Md):=[(.t 2,.one .d)]
theorem QMR(m:cc):aK Tryz.prog 258 [(.a [(.c TI m.1),(.c TI m.2.1),(.c (.sl [TI]) m.2.2)])] (BT (Zo m)):=by
 refine bz QUj QGw QPW 0 0 35 yi (kc Iw kn) (λK =>
 (aI ((((decide (m.1<1))||(decide (m.1>6)))||(decide (m.2.1<1)))||(decide (m.2.1>6))) (K (BT false)) (K (BT ((((m.2.2).length:Int)==(aG (m.1*m.2.1)))&&(Z3 m.2.2)))))) (λhb=>?_)
 refine⟨λh=>au ?_,λh=>au ?_⟩
 ·have:(bj m.1 1 6&&bj m.2.1 1 6)=false:=by simp[bj];simp at h;omega
  unfold Zo;rw[this];rfl
 ·have h':(1<=m.1/\m.1<=6)/\1<=m.2.1/\m.2.1<=6:=by simp at h;omega
  have hm:=rj h'.1.1 h'.1.2 h'.2.1 h'.2.2;rw[QF (x:=m.1*m.2.1) (by omega) (by omega)];unfold Zo;rw[Za.2 h'.1,Za.2 h'.2];simp
theorem Lo:Qf Tryz.prog yi:=Qh λx _=>QMR x.1
def o8(t:Bool):aB:=b6 (bE t)
def BU:aJ:=Qg 254 [(.a [TI,TI,(.sl [TI])])] λx=>(none,o8 (Zo x.1))
def Lp:aF:=⟨[Y1,tX],false⟩
def Qv7:af :=
 (ag [(ag [(.ae [ab 25 3,ak 26 1 2,an 27 26 1,ba 28 27,aw 29 .lss 25 28]),(.cond 29 .skip (.exit 0))]),(.block 1 (ag [(.ae [ak 32 1 2,an 33 32 1,ab 34 3,aZ 35 33 34 [TI],an 36 35 1,aD 37 183 [36],bL 38 37]),(.cond 38 (ag [(.ae [ab 2 (a6 false)]),.ret]) .skip)])),(.ae [ab 30 3,aw 31 .add 30 (ar 1),ab 3 31])])
def Qxt:List (Nat × Md):=[(1,.b [.d,.d,.d]),(3,.one .d)]
def QqT:af :=
 (ag [(.ae [ab 2 (a6 true)]),.ret])
def QNX:af :=
 (ag [(.ae [aC 1 (.box 235 0 3),ab 2 (a6 false)]),(ag [(.ae [ak 4 1 0,an 5 4 1,aD 6 158 [5,(ar 1),(ar 6)],bL 7 6,ab 8 7,.bw 8 false [ak 9 1 1,an 10 9 1,aD 11 158 [10,(ar 1),(ar 6)],bL 12 11] 13 12,ab 14 13,.bw 14 false [ak 15 1 2,an 16 15 1,ba 17 16,ak 18 1 0,an 19 18 1,ak 20 1 1,an 21 20 1,aw 22 .mul 19 21,aw 23 .neq 17 22] 24 23]),(.cond 24 (ag [(.ae [ab 2 (a6 false)]),.ret]) .skip)]),(ag [(.ae [ab 3 (ar 0)]),(.block 0 (.loop Qxt Qv7))]),QqT])
def QAA:List (bn × Md):=[(.t 2,.one .d)]
def QrQ:Qb:=TQ 0 0 QAA K
def QFp:Qb:=a0 (aN Lp 0 QqT (QrQ K)) (QrQ K)
def QFb:Qb:=a7 0 (QFp K)
def Lq(m:cc)(i:Int):Prop:=Loop Lp 0 Qxt Qv7 (QFb K) ⟨[(1,(.p 0 0 0)),(3,(aL i))],[(0,(.box [(aL m.1),(aL m.2.1),(bf [TI] m.2.2)]))],1⟩
theorem QJZ(m:cc)(i:Int) (h :
 (aI (decide (i<((m.2.2).length:Int))) ((0<=i/\Int.toNat i<(m.2.2).length)/\(aI (!(Zv (aq (0:Int) m.2.2 (Int.toNat i)))) (K (o8 false)) (Lq K m (aG (i+1))))) (K (o8 true)))):Lq K m i :=
 Loop.of h
theorem QX0(m:cc):aK Tryz.prog 254 [(.a [(.c TI m.1),(.c TI m.2.1),(.c (.sl [TI]) m.2.2)])] (o8 (Zo m)):=by
 refine bz Lp QNX QAA 0 0 39 BU (kc Jg (kc AW kn)) (λK =>
 (aI (((!(bj m.1 (1:Int) (6:Int)))||(!(bj m.2.1 (1:Int) (6:Int))))||(((m.2.2).length:Int) != (aG (m.1*m.2.1)))) (K (o8 false)) (Lq K m 0))) (λhb=>?_)
 have sq:(m.2.2).length<=9223372036854775807:=hb.1.2.2.1.1;refine⟨λh=>au ?_,λh=>?_⟩
 ·have:Zo m=false:=by
   cases hm:Zo m with
   | false=>rfl
   | true =>
    obtain⟨h1,h2,h3,h4,h5,h6,h7⟩:=rC hm;rw[Za.2 ⟨h1,h2⟩,Za.2 ⟨h3,h4⟩,QF (x:=m.1*m.2.1) (by have:=rj h1 h2 h3 h4;omega) (by omega),<- h5]at h;simp at h
  exact this.symm
 ·have h':bj m.1 1 6=true/\bj m.2.1 1 6=true:=by simp at h;exact h.1
  have h1:=Za.1 h'.1;have h2:=Za.1 h'.2;have hm:=rj h1.1 h1.2 h2.1 h2.2;rw[QF (x:=m.1*m.2.1) (by omega) (by omega)]at h;exact oV (Q:=λx=>o8 x=o8 (Zo m)) (p:=Zv) (c:=λx=>!(Zv x)) 0 sq (λ_=>rfl) (λi h=>QJZ (λr'=>r'=o8 (Zo m)) m i h) (au (by
   unfold Zo Z3;have h3:((m.2.2.length:Int)==m.1*m.2.1)=true:=by simp[h']at h;simp[h]
   rw[h'.1,h'.2,h3];simp))
theorem Qxm:Qf Tryz.prog BU:=Qh λx _=>QX0 x.1
def Lr(t:(List Int)):aB:=f5 (bf [TI] t)
def Ls:aJ:=Qg 255 [(.a [TI,TI,(.sl [TI])]),(.c TI)] λx=>(some (Gm x.1 x.2.1),Lr (Yz x.1 x.2.1))
def QIr:aF:=⟨[],false⟩
def QGZ:af :=
 (ag [(.ae [aC 2 (.box 235 0 3),ab 4 (.k (.n [TI]))]),(.ae [ak 5 2 2,an 6 5 1,ab 7 1,ak 8 2 1,an 9 8 1,aw 10 .mul 7 9,ab 11 1,aw 12 .add 11 (ar 1),ak 13 2 1,an 14 13 1,aw 15 .mul 12 14,aC 16 (.fB 6 (some 10) (some 15) [TI]),ab 4 16]),.ret])
def QGP:List (bn × Md):=[(.t 4,.one .d)]
theorem QFz(m:cc)(i:Int)(hp:Gm m i):aK Tryz.prog 255 [(.a [(.c TI m.1),(.c TI m.2.1),(.c (.sl [TI]) m.2.2)]),(.c TI i)] (Lr (Yz m i)):=by
 refine bz QIr QGZ QGP 0 0 17 Ls kn (λK =>
 ((0<=aG (i*m.2.1)/\aG (i*m.2.1)<=aG ((aG (i+1))*m.2.1)/\aG ((aG (i+1))*m.2.1)<=((m.2.2).length:Int))/\K (Lr (List.take (Int.toNat (aG ((aG (i+1))*m.2.1))-Int.toNat (aG (i*m.2.1))) (List.drop (Int.toNat (aG (i*m.2.1))) m.2.2))))) (λhb=>?_)
 obtain⟨h1,h2,h3,h4,h5,h6⟩:=hp;have hd:=idx h3 h4 h1;have h36:m.1*m.2.1<=36:=by
  have:=Int.mul_le_mul h5 h2 h1 (by omega:(0:Int)<=6);omega
 rw[QF (x:=i+1) (by omega) (by omega),QF (x:=i*m.2.1) (by omega) (by omega),QF (x:=(i+1)*m.2.1) (by omega) (by omega)];exact⟨⟨by omega,by omega,by omega⟩,au rfl⟩
theorem QIb:Qf Tryz.prog Ls:=Qh λx h=>QFz x.1 x.2.1 h
def BV(t:(List Int)):aB:=f5 (bf [TI] t)
def Lt:aJ:=Qg 264 [(.a [TI,TI,(.sl [TI])]),(.c TI)] λx=>(some (Gn x.1 x.2.1),BV (ZN x.1 x.2.1))
def Lu:aF:=⟨[],false⟩
def Qx5:af :=
 (ag [(ag [(.ae [ab 8 6,ak 9 2 0,an 10 9 1,aw 11 .lss 8 10]),(.cond 11 .skip (.exit 0))]),(.block 1 (.ae [ab 14 5,ak 15 2 2,an 16 15 1,ab 17 6,ak 18 2 1,an 19 18 1,aw 20 .mul 17 19,ab 21 1,aw 22 .add 20 21,aZ 23 16 22 [TI],an 24 23 1,aC 25 (.bW 3 [TI] [24]),aC 26 (.app 14 25 3 [TI]),ab 5 26])),(.ae [ab 12 6,aw 13 .add 12 (ar 1),ab 6 13])])
def QCk:List (Nat × Md):=[(1,.one .d),(2,.b [.d,.d,.d]),(5,.one .f),(6,.one .d)]
def QtP:af :=
 (ag [(.ae [ab 27 5,ab 4 27]),.ret])
def QTn:af :=
 (ag [(.ae [aC 2 (.box 235 0 3),ab 4 (.k (.n [TI]))]),(.ae [aC 7 (.bW 3 [TI] []),ab 5 7]),(ag [(.ae [ab 6 (ar 0)]),(.block 0 (.loop QCk Qx5))]),QtP])
def QB2:List (bn × Md):=[(.t 4,.one .d)]
def QrF:Qb:=TQ 0 0 QB2 K
def QVa:Qb:=a0 (aN Lu 0 QtP (QrF K)) (QrF K)
def QLP:Qb:=a7 0 (QVa K)
def BW(m:cc)(k:Int)(i:Int)(out:List Int):Prop:=Loop Lu 0 QCk Qx5 (QLP K) ⟨[(1,(aL k)),(2,(.p 0 0 0)),(5,(.r [TI] 1 0 out.length)),(6,(aL i))],[(0,(.box [(aL m.1),(aL m.2.1),(bf [TI] m.2.2)])),(1,(.sl 3 [TI] .ow out))],2⟩
theorem QzZ(m:cc)(k:Int)(i:Int)(out:List Int) (h :
 (aI (decide (i<m.1)) (((0<=aG ((aG (i*m.2.1))+k)/\Int.toNat (aG ((aG (i*m.2.1))+k))<(m.2.2).length)/\((out.length=out.length\/out.length+1<=out.length)/\out.length+1<=ca))/\(BW K m k (aG (i+1)) (List.take (out.length+1) ((List.take out.length out)++([(aq (0:Int) m.2.2 (Int.toNat (aG ((aG (i*m.2.1))+k))))]))))) (K (BV (List.take out.length (List.drop 0 out)))))):BW K m k i out :=
 Loop.of h
theorem QU6(m:cc)(k:Int)(hp:Gn m k):aK Tryz.prog 264 [(.a [(.c TI m.1),(.c TI m.2.1),(.c (.sl [TI]) m.2.2)]),(.c TI k)] (BV (ZN m k)):=by
 refine bz Lu QTn QB2 0 0 28 Lt kn (λK =>
 (BW K m k 0 ([]:List Int))) (λhb=>?_)
 obtain⟨h2,h3,h4,h5,h6,h7⟩:=hp;have h36:m.1*m.2.1<=36:=by
  have:=Int.mul_le_mul h6 h2 (by omega) (by omega:(0:Int)<=6);omega
 refine re m.1.toNat (λj=>BW (λr'=>r'=BV (ZN m k)) m k (j:Int) ((List.range j).map λi:Nat=>aq 0 m.2.2 ((i:Int)*m.2.1+k).toNat)) ?_ ?_
 ·refine QzZ _ _ _ _ _ ⟨λh=>by simp at h;omega,λ_=>au ?_⟩;unfold ZN;rw[List.drop_zero,List.take_length]
 ·intro j hj ih;have hd:=idx (r:=j) (R:=m.1) (C:=m.2.1) (by omega) (by omega) (by omega);refine QzZ _ _ _ _ _ ⟨λ_=>?_,λh=>by simp at h;omega⟩;rw[QF (x:=(j:Int)*m.2.1) (by omega) (by omega),QF (x:=(j:Int)*m.2.1+k) (by omega) (by omega),dP (by omega),Q8];rw[xj]at ih;exact⟨⟨⟨by omega,by omega⟩,room (by simp;omega)⟩,ih⟩
theorem QU5:Qf Tryz.prog Lt:=Qh λx h=>QU6 x.1 x.2.1 h
def yj(t:(List Int) × Bool):aB:=⟨(.tp [(.r [TI] 0 0 ((t.1).length)),(bE t.2)]),[(.sl 3 [TI] (.dp 0 true []) t.1)],[],false,[]⟩
def BX:aJ:=Qg 229 [(.a [TI,TI,(.sl [TI])]),(.c (.sl [TI]))] λx=>(none,yj (Q6 x.1 x.2.1))
def Lv:aF:=⟨[yi,Jr,yd],true⟩
def QvF:af :=
 (ag [(ag [(.ae [ab 22 8,ak 23 2 0,an 24 23 1,aw 25 .lss 22 24]),(.cond 25 .skip (.exit 0))]),(.block 1 (ag [(.ae [ak 29 2 2,an 30 29 1,ab 31 8,ak 32 2 1,an 33 32 1,aw 34 .mul 31 33,ab 35 8,aw 36 .add 35 (ar 1),ak 37 2 1,an 38 37 1,aw 39 .mul 36 38,aC 40 (.fB 30 (some 34) (some 39) [TI]),ab 41 1,aD 42 188 [40,41],ab 28 42,bF 43 28 0,bF 44 28 1,ab 9 43,ab 10 44]),(.ae [ab 45 6,ab 46 9,aC 47 (.bW 3 [TI] [46]),aC 48 (.app 45 47 3 [TI]),ab 6 48]),(.ae [ab 49 7,ab 50 49,.bw 50 false [ab 51 10] 52 51,ab 7 52])])),(.ae [ab 26 8,aw 27 .add 26 (ar 1),ab 8 27])])
def QCd:List (Nat × Md):=[(1,.one .d),(2,.b [.d,.d,.d]),(6,.one .f),(7,.one .d),(8,.one .d)]
def Qrv:af :=
 (ag [(.ae [ab 53 6,ab 54 7,ab 4 53,ab 5 54]),.ret])
def QNW:af :=
 (ag [(.ae [aC 2 (.box 235 0 3),ab 4 (.k (.n [TI])),ab 5 (a6 false)]),(ag [(.ae [a9 11 2 3,aD 12 258 [11],bL 13 12,ab 14 13,.bw 14 false [ab 15 1,ak 16 2 1,an 17 16 1,aD 18 100 [15,17],bL 19 18] 20 19]),(.cond 20 (ag [(.ae [ab 4 (.k (.n [TI])),ab 5 (a6 false)]),.ret]) .skip)]),(.ae [aC 21 (.bW 3 [TI] []),ab 6 21]),(.ae [ab 7 (a6 false)]),(ag [(.ae [ab 8 (ar 0)]),(.block 0 (.loop QCd QvF))]),Qrv])
def Qv4:List (bn × Md):=[(.t 4,.one (.p 3)),(.t 5,.one .d)]
def QAY:Qb:=TQ 0 0 Qv4 K
def QEY:Qb:=a0 (aN Lv 0 Qrv (QAY K)) (QAY K)
def QLN:Qb:=a7 0 (QEY K)
def BZ(m:cc)(x:List Int)(out:Bool)(r:Int)(v:List Int):Prop:=Loop Lv 0 QCd QvF (QLN K) ⟨[(1,(bf [TI] x)),(2,(.p 0 0 0)),(6,(.r [TI] 1 0 v.length)),(7,(bE out)),(8,(aL r))],[(0,(.box [(aL m.1),(aL m.2.1),(bf [TI] m.2.2)])),(1,(.sl 3 [TI] (.dp 0 true []) v))],2⟩
theorem QsU(m:cc)(x:List Int)(out:Bool)(r:Int)(v:List Int) (h :
 (aI (decide (r<m.1)) ((0<=aG (r*m.2.1)/\aG (r*m.2.1)<=aG ((aG (r+1))*m.2.1)/\aG ((aG (r+1))*m.2.1)<=((m.2.2).length:Int))/\(((v.length=v.length\/v.length+1<=v.length)/\v.length+1<=ca)/\(BZ K m x (out||((Q1 (List.take (Int.toNat (aG ((aG (r+1))*m.2.1))-Int.toNat (aG (r*m.2.1))) (List.drop (Int.toNat (aG (r*m.2.1))) m.2.2)) x).2)) (aG (r+1)) (List.take (v.length+1) ((List.take v.length v)++([(Q1 (List.take (Int.toNat (aG ((aG (r+1))*m.2.1))-Int.toNat (aG (r*m.2.1))) (List.drop (Int.toNat (aG (r*m.2.1))) m.2.2)) x).1])))))) (K (yj ((List.take v.length v),out))))):BZ K m x out r v :=
 Loop.of h
theorem QUw(m:cc)(x:List Int):aK Tryz.prog 229 [(.a [(.c TI m.1),(.c TI m.2.1),(.c (.sl [TI]) m.2.2)]),(.c (.sl [TI]) x)] (yj (Q6 m x)):=by
 refine bz Lv QNW Qv4 0 0 55 BX (kc Lo (kc JS (kc Lb kn))) (λK =>
 (aI ((!(Zo m))||(!(QH x m.2.1))) (K (yj (([]:List Int),false))) (BZ K m x false 0 ([]:List Int)))) (λhb=>?_)
 refine⟨λh=>au (by rw[Tc];intro h2;simp[h2.1,h2.2]at h),λh=>?_⟩;have hp:Zo m=true/\QH x m.2.1=true:=by simpa using h
 obtain⟨h1,h2,h3,h4,h5,h6,h7⟩:=rC hp.1;have hv:(Q6 m x)=((List.range m.1.toNat).map λi:Nat=>(Q1 (Yz m i) x).1,(List.range m.1.toNat).any λi:Nat=>(Q1 (Yz m i) x).2):=by unfold Q6;rw[if_pos (by simp[hp])]
 refine re m.1.toNat (λj=>BZ (λr'=>r'=yj (Q6 m x)) m x ((List.range j).any λi:Nat=>(Q1 (Yz m i) x).2) (j:Int) ((List.range j).map λi:Nat=>(Q1 (Yz m i) x).1)) ?_ ?_
 ·refine QsU _ _ _ _ _ _ ⟨λh=>by simp at h;omega,λ_=>au ?_⟩;rw[hv,List.take_length]
 ·intro j hj ih;have hd:=idx (r:=j) (R:=m.1) (C:=m.2.1) (by omega) (by omega) (by omega);refine QsU _ _ _ _ _ _ ⟨λ_=>?_,λh=>by simp at h;omega⟩;rw[QF (x:=(j:Int)+1) (by omega) (by omega),QF (x:=(j:Int)*m.2.1) (by omega) (by omega),QF (x:=((j:Int)+1)*m.2.1) (by omega) (by omega),Q8];rw[xj,Gp]at ih;exact⟨⟨by omega,by omega,by omega⟩,room (by simp;omega),ih⟩
theorem QDS:Qf Tryz.prog BX:=Qh λx _=>QUw x.1 x.2.1
def yk(t:(List Int) × Bool):aB:=f5 (.tp [(bf [TI] t.1),(bE t.2)])
def Lw:aJ:=Qg 223 [(.a [TI,TI,(.sl [TI])]),(.c (.sl [TI]))] λx=>(none,yk (Q6 x.1 x.2.1))
def Lx:aF:=⟨[BU,Yv,Ls,ui],false⟩
def QBg:af :=
 (ag [(ag [(.ae [ab 28 8,ak 29 2 0,an 30 29 1,aw 31 .lss 28 30]),(.cond 31 .skip (.exit 0))]),(.block 1 (ag [(.ae [a9 35 2 3,ab 36 8,aD 37 255 [35,36],ab 38 1,aD 39 184 [37,38],ab 34 39,bF 40 34 0,bF 41 34 1,ab 9 40,ab 10 41]),(.ae [ab 42 6,ab 43 9,aC 44 (.bW 3 [TI] [43]),aC 45 (.app 42 44 3 [TI]),ab 6 45]),(.ae [ab 46 7,ab 47 46,.bw 47 false [ab 48 10] 49 48,ab 7 49])])),(.ae [ab 32 8,aw 33 .add 32 (ar 1),ab 8 33])])
def QzS:List (Nat × Md):=[(1,.one .d),(2,.b [.d,.d,.d]),(6,.one .f),(7,.one .d),(8,.one .d)]
def QBz:af :=
 (ag [(.ae [ab 50 6,ab 51 7,ab 4 50,ab 5 51]),.ret])
def QRs:af :=
 (ag [(.ae [aC 2 (.box 235 0 3),ab 4 (.k (.n [TI])),ab 5 (a6 false)]),(.ae [aC 11 (.bW 3 [TI] []),ab 6 11]),(.ae [ab 7 (a6 false)]),(ag [(.ae [a9 12 2 3,aD 13 254 [12],bL 14 13,ab 15 14,.bw 15 false [ab 16 1,aD 17 97 [16],bL 18 17] 19 18,ab 20 19,.bw 20 false [ab 21 1,ba 22 21,ak 23 2 1,an 24 23 1,aw 25 .neq 22 24] 26 25]),(.cond 26 (ag [(.ae [ab 27 6,ab 4 27,ab 5 (a6 false)]),.ret]) .skip)]),(ag [(.ae [ab 8 (ar 0)]),(.block 0 (.loop QzS QBg))]),QBz])
def QwP:List (bn × Md):=[(.t 4,.one .d),(.t 5,.one .d)]
def QAe:Qb:=TQ 0 0 QwP K
def QVz:Qb:=a0 (aN Lx 0 QBz (QAe K)) (QAe K)
def QOR:Qb:=a7 0 (QVz K)
def B2(m:cc)(x:List Int)(sat:Bool)(i:Int)(out:List Int):Prop:=Loop Lx 0 QzS QBg (QOR K) ⟨[(1,(bf [TI] x)),(2,(.p 0 0 0)),(6,(.r [TI] 1 0 out.length)),(7,(bE sat)),(8,(aL i))],[(0,(.box [(aL m.1),(aL m.2.1),(bf [TI] m.2.2)])),(1,(.sl 3 [TI] .ow out))],2⟩
theorem Qvn(m:cc)(x:List Int)(sat:Bool)(i:Int)(out:List Int) (h :
 (aI (decide (i<m.1)) ((Gm m i)/\(((out.length=out.length\/out.length+1<=out.length)/\out.length+1<=ca)/\(B2 K m x (sat||((Q1 (Yz m i) x).2)) (aG (i+1)) (List.take (out.length+1) ((List.take out.length out)++([(Q1 (Yz m i) x).1])))))) (K (yk ((List.take out.length (List.drop 0 out)),sat))))):B2 K m x sat i out :=
 Loop.of h
theorem QVk(m:cc)(x:List Int):aK Tryz.prog 223 [(.a [(.c TI m.1),(.c TI m.2.1),(.c (.sl [TI]) m.2.2)]),(.c (.sl [TI]) x)] (yk (Q6 m x)):=by
 refine bz Lx QRs QwP 0 0 52 Lw (kc Qxm (kc YL (kc QIb (kc BN kn)))) (λK =>
 (aI (((!(Zo m))||(!(QK x)))||((x.length:Int) != m.2.1)) (K (yk (([]:List Int),false))) (B2 K m x false 0 ([]:List Int)))) (λhb=>?_)
 have hg:∀ n:Int,(!(QK x)||((x.length:Int) != n)) = !(QH x n):=λn=>by unfold QH;simp[bne]
 rw[Bool.or_assoc,hg];refine⟨λh=>au (by rw[Tc];intro h2;simp[h2.1,h2.2]at h),λh=>?_⟩;have hp:Zo m=true/\QH x m.2.1=true:=by simpa using h
 obtain⟨h1,h2,h3,h4,h5,h6,h7⟩:=rC hp.1;have hv:(Q6 m x)=((List.range m.1.toNat).map λi:Nat=>(Q1 (Yz m i) x).1,(List.range m.1.toNat).any λi:Nat=>(Q1 (Yz m i) x).2):=by unfold Q6;rw[if_pos (by simp[hp])]
 refine re m.1.toNat (λj=>B2 (λr'=>r'=yk (Q6 m x)) m x ((List.range j).any λi:Nat=>(Q1 (Yz m i) x).2) (j:Int) ((List.range j).map λi:Nat=>(Q1 (Yz m i) x).1)) ?_ ?_
 ·refine Qvn _ _ _ _ _ _ ⟨λh=>by simp at h;omega,λ_=>au ?_⟩;rw[hv,List.drop_zero,List.take_length]
 ·intro j hj ih;have hd:=idx (r:=j) (R:=m.1) (C:=m.2.1) (by omega) (by omega) (by omega);refine Qvn _ _ _ _ _ _ ⟨λ_=>?_,λh=>by simp at h;omega⟩;rw[dP (by omega),Q8];rw[xj,Gp]at ih;exact⟨⟨by omega,by omega,by omega,by omega,by omega,h5⟩,room (by simp;omega),ih⟩
theorem QVw:Qf Tryz.prog Lw:=Qh λx _=>QVk x.1 x.2.1
def uj(t:cc):aB:=f5 (.a [(aL t.1),(aL t.2.1),(bf [TI] t.2.2)])
def Ly:aJ:=Qg 265 [(.a [TI,TI,(.sl [TI])])] λx=>(none,uj (Yy x.1))
def uk:aF:=⟨[yi],false⟩
def QBH:af :=
 (ag [(ag [(.ae [ab 21 5,ak 22 1 0,an 23 22 1,aw 24 .lss 21 23]),(.cond 24 .skip (.exit 2))]),(.block 3 (.draw [ak 27 3 2,an 28 27 1,ak 29 1 2,an 30 29 1,ab 31 5,ak 32 1 1,an 33 32 1,aw 34 .mul 31 33,ab 35 4,aw 36 .add 34 35,aZ 37 30 36 [TI],an 38 37 1,aC 39 (.bW 3 [TI] [38]),aC 40 (.app 28 39 3 [TI]),ak 41 3 2,aV 41 40 1] [(0,12),(1,12)])),(.ae [ab 25 5,aw 26 .add 25 (ar 1),ab 5 26])])
def Qv2:List (Nat × Md):=[(1,.b [.d,.d,.d]),(2,.b [.d,.d,.d]),(3,.b [.d,.d,.f]),(4,.one .d),(5,.one .d)]
def QzA:af :=
 (.ae [ab 19 4,aw 20 .add 19 (ar 1),ab 4 20])
def Lz:af :=
 (ag [(ag [(.ae [ab 15 4,ak 16 1 1,an 17 16 1,aw 18 .lss 15 17]),(.cond 18 .skip (.exit 0))]),(.block 1 (ag [(.ae [ab 5 (ar 0)]),(.block 2 (.loop Qv2 QBH))])),QzA])
def B3:List (Nat × Md):=[(1,.b [.d,.d,.d]),(2,.b [.d,.d,.d]),(3,.b [.d,.d,.o 3]),(4,.one .d)]
def QyR:af :=
 (ag [(.ae [a9 42 3 3,aV 2 42 3]),.ret])
def QNC:af :=
 (ag [(.ae [aC 1 (.box 235 0 3),aC 2 (.new 235 (bG [TI,TI,(.sl [TI])]))]),(ag [(.ae [a9 6 1 3,aD 7 258 [6],bL 8 7]),(.cond 8 (ag [(.ae [aC 9 (.build (bG [TI,TI,(.sl [TI])]) []),aV 2 9 3]),.ret]) .skip)]),(.ae [ak 10 1 1,an 11 10 1,ak 12 1 0,an 13 12 1,aC 14 (.build (bG [TI,TI,(.sl [TI])]) [(0,1,11),(1,1,13)]),aC 3 (.new 235 (bG [TI,TI,(.sl [TI])])),aV 3 14 3]),(ag [(.ae [ab 4 (ar 0)]),(.block 0 (.loop B3 Lz))]),QyR])
def Qyo:List (bn × Md):=[(.l 2 3 true,.b [.d,.d,.d])]
def QAl:Qb:=TQ 0 0 Qyo K
def QUp:Qb:=a0 (aN uk 0 QyR (QAl K)) (QAl K)
def LB:Qb:=a7 0 (QUp K)
def Qr2:Qb:=a0 (λs'=>Loop uk 0 B3 Lz (LB K) (gc 0 B3 s')) (LB K)
def QEW:Qb:=a0 (aN uk 0 QzA (Qr2 K)) (Qr2 K)
def QFJ:Qb:=a7 1 (QEW K)
def QNn:Qb:=a7 2 (QFJ K)
def B4(m:cc)(r:Int)(t2:List Int)(c:Int):Prop:=Loop uk 0 Qv2 QBH (QNn K) ⟨[(1,(.p 0 0 0)),(2,(.p 1 0 0)),(3,(.p 3 0 0)),(4,(aL c)),(5,(aL r))],[(0,(.box [(aL m.1),(aL m.2.1),(bf [TI] m.2.2)])),(1,(.box [(aL 0),(aL 0),(bf [TI] ([]))])),(2,(.sl 3 [TI] .ow t2)),(3,(.box [(aL m.2.1),(aL m.1),(.r [TI] 2 0 t2.length)]))],4⟩
def B5(m:cc)(c:Int)(o9:List Int):Prop:=Loop uk 0 B3 Lz (LB K) ⟨[(1,(.p 0 0 0)),(2,(.p 1 0 0)),(3,(.p 3 0 0)),(4,(aL c))],[(0,(.box [(aL m.1),(aL m.2.1),(bf [TI] m.2.2)])),(1,(.box [(aL 0),(aL 0),(bf [TI] ([]))])),(2,(.sl 3 [TI] .ow o9)),(3,(.box [(aL m.2.1),(aL m.1),(.r [TI] 2 0 o9.length)]))],4⟩
theorem QqN(m:cc)(r:Int)(t2:List Int)(c:Int) (h :
 (aI (decide (r<m.1)) (((0<=aG ((aG (r*m.2.1))+c)/\Int.toNat (aG ((aG (r*m.2.1))+c))<(m.2.2).length)/\((t2.length=t2.length\/t2.length+1<=t2.length)/\t2.length+1<=ca))/\(B4 K m (aG (r+1)) (List.take (t2.length+1) ((List.take t2.length t2)++([(aq (0:Int) m.2.2 (Int.toNat (aG ((aG (r*m.2.1))+c))))]))) c)) (B5 K m (aG (c+1)) (List.take t2.length t2)))):B4 K m r t2 c :=
 Loop.of h
theorem QAK(m:cc)(c:Int)(o9:List Int) (h :
 (aI (decide (c<m.2.1)) (B4 K m 0 (List.take o9.length o9) c) (K (uj (m.2.1,m.1,(List.take o9.length (List.drop 0 o9))))))):B5 K m c o9 :=
 Loop.of h
theorem QLL(m:cc):aK Tryz.prog 265 [(.a [(.c TI m.1),(.c TI m.2.1),(.c (.sl [TI]) m.2.2)])] (uj (Yy m)):=by
 refine bz uk QNC Qyo 0 0 43 Ly (kc Lo kn) (λK =>
 (aI (!(Zo m)) (K (uj ((0:Int),(0:Int),[]))) (B5 K m 0 ([]:List Int)))) (λhb=>?_)
 refine⟨λh=>au (by unfold Yy;rw[if_neg (by simpa using h)]),λh=>?_⟩;have hp:Zo m=true:=by simpa using h
 obtain⟨h1,h2,h3,h4,h5,h6,h7⟩:=rC hp;refine re m.2.1.toNat (λk=>B5 (λr'=>r'=uj (Yy m)) m (k:Int) ((List.range k).flatMap λk:Nat=>ZN m k)) ?_ ?_
 ·refine QAK _ _ _ _ ⟨λh=>by simp at h;omega,λ_=>au ?_⟩;rw[List.drop_zero,List.take_length];unfold Yy;rw[if_pos hp]
 ·intro k hk ih;refine QAK _ _ _ _ ⟨λ_=>?_,λh=>by simp at h;omega⟩;rw[List.take_length];have avZ:((List.range k).flatMap λk:Nat=>ZN m k).length<=36:=by
   rw[Gr (R:=m.1.toNat) k (λj _=>Gs m j)];have:k*m.1.toNat<=6*6:=Nat.mul_le_mul (by omega) (by omega);omega
  have inner:=re m.1.toNat (λj=>B4 (λr'=>r'=uj (Yy m)) m (j:Int) (((List.range k).flatMap λk:Nat=>ZN m k)++(List.range j).map λi:Nat=>aq 0 m.2.2 ((i:Int)*m.2.1+(k:Nat)).toNat) (k:Int)) ?_ ?_
  ·simpa using inner
  ·refine QqN _ _ _ _ _ ⟨λh=>by simp at h;omega,λ_=>?_⟩;rw[List.take_length,dP (by omega)];rw[Gq]at ih;exact ih
  ·intro j hj l6;have hd:=idx (r:=j) (R:=m.1) (C:=m.2.1) (by omega) (by omega) (by omega);refine QqN _ _ _ _ _ ⟨λ_=>?_,λh=>by simp at h;omega⟩;rw[QF (x:=(j:Int)*m.2.1) (by omega) (by omega),QF (x:=(j:Int)*m.2.1+(k:Int)) (by omega) (by omega),dP (by omega),Q8];rw[xj,<- List.append_assoc]at l6;exact⟨⟨⟨by omega,by omega⟩,room (by rw[List.length_append];simp only[List.length_map,List.length_range];omega)⟩,l6⟩
theorem QIN:Qf Tryz.prog Ly:=Qh λx _=>QLL x.1
def B6(t:(List Int) × Bool):aB:=⟨(.tp [(.r [TI] 0 0 ((t.1).length)),(bE t.2)]),[(.sl 3 [TI] (.dp 0 true []) t.1)],[],false,[]⟩
def LC:aJ:=Qg 244 [(.a [TI,TI,(.sl [TI])]),(.c (.sl [TI]))] λx=>(none,B6 (Zs x.1 x.2.1))
def QJX:aF:=⟨[yi,Jr,Ly,BX],true⟩
def QOM:af :=
 (ag [(.ae [aC 2 (.box 235 0 3),ab 4 (.k (.n [TI])),ab 5 (a6 false)]),(ag [(.ae [a9 6 2 3,aD 7 258 [6],bL 8 7,ab 9 8,.bw 9 false [ab 10 1,ak 11 2 0,an 12 11 1,aD 13 100 [10,12],bL 14 13] 15 14]),(.cond 15 (ag [(.ae [ab 4 (.k (.n [TI])),ab 5 (a6 false)]),.ret]) .skip)]),(.ae [a9 16 2 3,aD 17 265 [16],ab 18 1,aD 19 229 [17,18],bF 20 19 0,bF 21 19 1,ab 4 20,ab 5 21]),.ret])
def QKn:List (bn × Md):=[(.t 4,.one (.p 3)),(.t 5,.one .d)]
theorem QOm(m:cc)(d:List Int):aK Tryz.prog 244 [(.a [(.c TI m.1),(.c TI m.2.1),(.c (.sl [TI]) m.2.2)]),(.c (.sl [TI]) d)] (B6 (Zs m d)):=by
 refine bz QJX QOM QKn 0 0 22 LC (kc Lo (kc JS (kc QIN (kc QDS kn)))) (λK =>
 (aI ((!(Zo m))||(!(QH d m.1))) (K (B6 (([]:List Int),false))) (K (B6 ((List.take (((Q6 (Yy m) d).1).length) ((Q6 (Yy m) d).1)),(Q6 (Yy m) d).2))))) (λhb=>?_)
 refine⟨λh=>au (by rw[Tb];intro h2;simp[h2.1,h2.2]at h),λh=>?_⟩;have hp:Zo m=true/\QH d m.1=true:=by simpa using h
 exact au (by rw[List.take_length];exact QMx hp.1 hp.2)
theorem QQX:Qf Tryz.prog LC:=Qh λx _=>QOm x.1 x.2.1
def yl(t:(List Int) × Bool):aB:=f5 (.tp [(bf [TI] t.1),(bE t.2)])
def LD:aJ:=Qg 242 [(.a [TI,TI,(.sl [TI])]),(.c (.sl [TI]))] λx=>(none,yl (Zs x.1 x.2.1))
def LF:aF:=⟨[BU,Yv,Lt,ui],false⟩
def QsW:af :=
 (ag [(ag [(.ae [ab 28 8,ak 29 2 1,an 30 29 1,aw 31 .lss 28 30]),(.cond 31 .skip (.exit 0))]),(.block 1 (ag [(.ae [a9 35 2 3,ab 36 8,aD 37 264 [35,36],ab 38 1,aD 39 184 [37,38],ab 34 39,bF 40 34 0,bF 41 34 1,ab 9 40,ab 10 41]),(.ae [ab 42 6,ab 43 9,aC 44 (.bW 3 [TI] [43]),aC 45 (.app 42 44 3 [TI]),ab 6 45]),(.ae [ab 46 7,ab 47 46,.bw 47 false [ab 48 10] 49 48,ab 7 49])])),(.ae [ab 32 8,aw 33 .add 32 (ar 1),ab 8 33])])
def QC3:List (Nat × Md):=[(1,.one .d),(2,.b [.d,.d,.d]),(6,.one .f),(7,.one .d),(8,.one .d)]
def QDR:af :=
 (ag [(.ae [ab 50 6,ab 51 7,ab 4 50,ab 5 51]),.ret])
def QW2:af :=
 (ag [(.ae [aC 2 (.box 235 0 3),ab 4 (.k (.n [TI])),ab 5 (a6 false)]),(.ae [aC 11 (.bW 3 [TI] []),ab 6 11]),(.ae [ab 7 (a6 false)]),(ag [(.ae [a9 12 2 3,aD 13 254 [12],bL 14 13,ab 15 14,.bw 15 false [ab 16 1,aD 17 97 [16],bL 18 17] 19 18,ab 20 19,.bw 20 false [ab 21 1,ba 22 21,ak 23 2 0,an 24 23 1,aw 25 .neq 22 24] 26 25]),(.cond 26 (ag [(.ae [ab 27 6,ab 4 27,ab 5 (a6 false)]),.ret]) .skip)]),(ag [(.ae [ab 8 (ar 0)]),(.block 0 (.loop QC3 QsW))]),QDR])
def QBd:List (bn × Md):=[(.t 4,.one .d),(.t 5,.one .d)]
def QBC:Qb:=TQ 0 0 QBd K
def QMe:Qb:=a0 (aN LF 0 QDR (QBC K)) (QBC K)
def QJ6:Qb:=a7 0 (QMe K)
def B7(m:cc)(d:List Int)(sat:Bool)(k:Int)(out:List Int):Prop:=Loop LF 0 QC3 QsW (QJ6 K) ⟨[(1,(bf [TI] d)),(2,(.p 0 0 0)),(6,(.r [TI] 1 0 out.length)),(7,(bE sat)),(8,(aL k))],[(0,(.box [(aL m.1),(aL m.2.1),(bf [TI] m.2.2)])),(1,(.sl 3 [TI] .ow out))],2⟩
theorem Qt7(m:cc)(d:List Int)(sat:Bool)(k:Int)(out:List Int) (h :
 (aI (decide (k<m.2.1)) ((Gn m k)/\(((out.length=out.length\/out.length+1<=out.length)/\out.length+1<=ca)/\(B7 K m d (sat||((Q1 (ZN m k) d).2)) (aG (k+1)) (List.take (out.length+1) ((List.take out.length out)++([(Q1 (ZN m k) d).1])))))) (K (yl ((List.take out.length (List.drop 0 out)),sat))))):B7 K m d sat k out :=
 Loop.of h
theorem QIm(m:cc)(d:List Int):aK Tryz.prog 242 [(.a [(.c TI m.1),(.c TI m.2.1),(.c (.sl [TI]) m.2.2)]),(.c (.sl [TI]) d)] (yl (Zs m d)):=by
 refine bz LF QW2 QBd 0 0 52 LD (kc Qxm (kc YL (kc QU5 (kc BN kn)))) (λK =>
 (aI (((!(Zo m))||(!(QK d)))||((d.length:Int) != m.1)) (K (yl (([]:List Int),false))) (B7 K m d false 0 ([]:List Int)))) (λhb=>?_)
 have hg:∀ n:Int,(!(QK d)||((d.length:Int) != n)) = !(QH d n):=λn=>by unfold QH;simp[bne]
 rw[Bool.or_assoc,hg];refine⟨λh=>au (by rw[Tb];intro h2;simp[h2.1,h2.2]at h),λh=>?_⟩;have hp:Zo m=true/\QH d m.1=true:=by simpa using h
 obtain⟨h1,h2,h3,h4,h5,h6,h7⟩:=rC hp.1;have hv:(Zs m d)=((List.range m.2.1.toNat).map λk:Nat=>(Q1 (ZN m k) d).1,(List.range m.2.1.toNat).any λk:Nat=>(Q1 (ZN m k) d).2):=by unfold Zs;rw[if_pos (by simp[hp])]
 refine re m.2.1.toNat (λj=>B7 (λr'=>r'=yl (Zs m d)) m d ((List.range j).any λk:Nat=>(Q1 (ZN m k) d).2) (j:Int) ((List.range j).map λk:Nat=>(Q1 (ZN m k) d).1)) ?_ ?_
 ·refine Qt7 _ _ _ _ _ _ ⟨λh=>by simp at h;omega,λ_=>au ?_⟩;rw[hv,List.drop_zero,List.take_length]
 ·intro j hj ih;refine Qt7 _ _ _ _ _ _ ⟨λ_=>?_,λh=>by simp at h;omega⟩;rw[dP (by omega),Q8];rw[xj,Gp]at ih;exact⟨⟨by omega,by omega,by omega,by omega,by omega,h5⟩,room (by simp;omega),ih⟩
theorem QUO:Qf Tryz.prog LD:=Qh λx _=>QIm x.1 x.2.1
def um(t:cc × Bool):aB:=⟨(.tp [(.a [(aL t.1.1),(aL t.1.2.1),(.r [TI] 0 0 ((t.1.2.2).length))]),(bE t.2)]),[(.sl 3 [TI] (.dp 0 true []) t.1.2.2)],[],false,[]⟩
def LG:aJ:=Qg 245 [(.c (.sl [TI])),(.c (.sl [TI]))] λx=>(none,um (Zm x.1 x.2.1))
def uo:aF:=⟨[J4,xN],true⟩
def QEy:af :=
 (ag [(.ae [aw 37 .lss 36 35]),(.cond 37 .skip (.exit 2)),(.block 3 (ag [(.ae [aZ 38 34 36 [TI],an 39 38 1,ab 11 39]),(.ae [ab 41 9,ab 42 11,aD 43 239 [41,42],ab 40 43,bF 44 40 0,bF 45 40 1,ab 12 44,ab 13 45]),(.ae [ak 46 6 2,an 47 46 1,ab 48 12,aC 49 (.bW 3 [TI] [48]),aC 50 (.app 47 49 3 [TI]),ak 51 6 2,aV 51 50 1]),(.ae [ab 52 7,ab 53 52,.bw 53 false [ab 54 13] 55 54,ab 7 55])])),(.ae [aw 56 .add 36 (ar 1),ab 36 56])])
def QD3:List (Nat × Md):=[(1,.one .d),(4,.b [.d,.d,.f]),(6,.b [.d,.d,.f]),(7,.one .d),(9,.one .d),(28,.one .d),(29,.one .d),(30,.one .d),(34,.one .d),(35,.one .d),(36,.one .d)]
def QAJ:af :=
 (.ae [aw 57 .add 30 (ar 1),ab 30 57])
def LH:af :=
 (ag [(.ae [aw 31 .lss 30 29]),(.cond 31 .skip (.exit 0)),(.block 1 (ag [(.ae [aZ 32 28 30 [TI],an 33 32 1,ab 9 33]),(.ae [ab 34 1,ba 35 34,ab 36 (ar 0)]),(.block 2 (.loop QD3 QEy))])),QAJ])
def B8:List (Nat × Md):=[(1,.one .d),(4,.b [.d,.d,.f]),(6,.b [.d,.d,.p 3]),(7,.one .d),(28,.one .d),(29,.one .d),(30,.one .d)]
def QB1:af :=
 (ag [(.ae [a9 58 6 3,ab 59 7,aV 4 58 3,ab 5 59]),.ret])
def QQN:af :=
 (ag [(.ae [aC 4 (.new 235 (bG [TI,TI,(.sl [TI])])),ab 5 (a6 false)]),(ag [(.ae [ab 14 0,aD 15 187 [14],bL 16 15,ab 17 16,.bw 17 false [ab 18 1,aD 19 187 [18],bL 20 19] 21 20]),(.cond 21 (ag [(.ae [aC 22 (.build (bG [TI,TI,(.sl [TI])]) []),aV 4 22 3,ab 5 (a6 false)]),.ret]) .skip)]),(.ae [ab 23 0,ba 24 23,ab 25 1,ba 26 25,aC 27 (.build (bG [TI,TI,(.sl [TI])]) [(0,1,24),(1,1,26)]),aC 6 (.new 235 (bG [TI,TI,(.sl [TI])])),aV 6 27 3]),(.ae [ab 7 (a6 false)]),(ag [(.ae [ab 28 0,ba 29 28,ab 30 (ar 0)]),(.block 0 (.loop B8 LH))]),QB1])
def QvB:List (bn × Md):=[(.l 4 3 true,.b [.d,.d,.p 3]),(.t 5,.one .d)]
def Qq7:Qb:=TQ 0 0 QvB K
def QOb:Qb:=a0 (aN uo 0 QB1 (Qq7 K)) (Qq7 K)
def LI:Qb:=a7 0 (QOb K)
def QsE:Qb:=a0 (λs'=>Loop uo 0 B8 LH (LI K) (gc 0 B8 s')) (LI K)
def QJC:Qb:=a0 (aN uo 0 QAJ (QsE K)) (QsE K)
def QI0:Qb:=a7 1 (QJC K)
def QHn:Qb:=a7 2 (QI0 K)
def B9(d:List Int)(x:List Int)(out:Bool)(x1:Int)(m2:List Int)(x2:Int):Prop:=Loop uo 0 QD3 QEy (QHn K) ⟨[(1,(bf [TI] x)),(4,(.p 0 0 0)),(6,(.p 2 0 0)),(7,(bE out)),(9,(aL (aq (0:Int) d (Int.toNat x2)))),(28,(bf [TI] d)),(29,(aL (d.length:Int))),(30,(aL x2)),(34,(bf [TI] x)),(35,(aL (x.length:Int))),(36,(aL x1))],[(0,(.box [(aL 0),(aL 0),(.n [TI])])),(1,(.sl 3 [TI] (.dp 0 true []) m2)),(2,(.box [(aL (d.length:Int)),(aL (x.length:Int)),(.r [TI] 1 0 m2.length)]))],3⟩
def Ca(d:List Int)(x:List Int)(l7:Bool)(x2:Int)(jj:List Int):Prop:=Loop uo 0 B8 LH (LI K) ⟨[(1,(bf [TI] x)),(4,(.p 0 0 0)),(6,(.p 2 0 0)),(7,(bE l7)),(28,(bf [TI] d)),(29,(aL (d.length:Int))),(30,(aL x2))],[(0,(.box [(aL 0),(aL 0),(.n [TI])])),(1,(.sl 3 [TI] (.dp 0 true []) jj)),(2,(.box [(aL (d.length:Int)),(aL (x.length:Int)),(.r [TI] 1 0 jj.length)]))],3⟩
theorem QvR(d:List Int)(x:List Int)(out:Bool)(x1:Int)(m2:List Int)(x2:Int) (h :
 (aI (decide (x1<(x.length:Int))) ((0<=x1/\Int.toNat x1<x.length)/\(((m2.length=m2.length\/m2.length+1<=m2.length)/\m2.length+1<=ca)/\(B9 K d x (out||((Q9 (aq (0:Int) d (Int.toNat x2)) (aq (0:Int) x (Int.toNat x1))).2)) (aG (x1+1)) (List.take (m2.length+1) ((List.take m2.length m2)++([(Q9 (aq (0:Int) d (Int.toNat x2)) (aq (0:Int) x (Int.toNat x1))).1]))) x2))) (Ca K d x out (aG (x2+1)) (List.take m2.length m2)))):B9 K d x out x1 m2 x2 :=
 Loop.of h
theorem QqF(d:List Int)(x:List Int)(l7:Bool)(x2:Int)(jj:List Int) (h :
 (aI (decide (x2<(d.length:Int))) ((0<=x2/\Int.toNat x2<d.length)/\(B9 K d x l7 0 (List.take jj.length jj) x2)) (K (um (((d.length:Int),(x.length:Int),(List.take jj.length jj)),l7))))):Ca K d x l7 x2 jj :=
 Loop.of h
theorem QQE(d:List Int)(x:List Int):aK Tryz.prog 245 [(.c (.sl [TI]) d),(.c (.sl [TI]) x)] (um (Zm d x)):=by
 refine bz uo QQN QvB 0 0 60 LG (kc r8 (kc Kb kn)) (λK =>
 (aI ((!(QK d))||(!(QK x))) (K (um (((0:Int),(0:Int),([]:List Int)),false))) (Ca K d x false 0 ([]:List Int)))) (λhb=>?_)
 refine⟨λh=>au (by unfold Zm;rw[if_neg (by simpa[Classical.or_iff_not_imp_left]using h)]),λh=>?_⟩;have hp:QK d=true/\QK x=true:=by simpa using h
 have h6:=(Yg.1 hp.1).1;have h7:=(Yg.1 hp.2).1;refine Zf d (λr j=>∀(v:List Int)(z:Bool),v.length<=6*j->((((d.length:Int),(x.length:Int),v++r.flatMap λa=>x.map λb=>(Q9 a b).1),z||r.any λa=>x.any λb=>(Q9 a b).2):cc × Bool)=(Zm d x)->Ca (λr'=>r'=um (Zm d x)) d x z j v) ?_ ?_ [] false (Nat.zero_le _) (by unfold Zm;rw[if_pos (by simp[hp])];simp)
 ·intro v z hv he;refine QqF _ _ _ _ _ _ ⟨λh=>by simp at h,λ_=>au ?_⟩;rw[<- he];simp
 ·intro j y r hj aW hg ih v z hv he;refine QqF _ _ _ _ _ _ ⟨λ_=>?_,λh=>by simp at h;omega⟩;rw[List.take_length];refine⟨⟨by omega,by omega⟩,Zf x (λr2 k=>∀(v2:List Int)(z2:Bool),v2.length=v.length+k->v2++r2.map (λb=>(Q9 y b).1)=v++x.map (λb=>(Q9 y b).1)->(z2||r2.any λb=>(Q9 y b).2)=(z||x.any λb=>(Q9 y b).2)->B9 (λr'=>r'=um (Zm d x)) d x z2 k v2 j) ?_ ?_ v z (by omega) rfl rfl⟩
  ·intro v2 z2 mN eH ji;refine QvR _ _ _ _ _ _ _ ⟨λh=>by simp at h,λ_=>?_⟩;rw[List.take_length,dP (by omega)];simp only[List.map_nil,List.append_nil,List.any_nil,Bool.or_false]at eH ji;refine ih _ _ (by rw[mN];omega) ?_;rw[<- he,eH,ji];simp[Bool.or_assoc]
  ·intro k w r2 hk lM ij l6 v2 z2 mN eH ji;refine QvR _ _ _ _ _ _ _ ⟨λ_=>?_,λh=>by simp at h;omega⟩;rw[Int.toNat_natCast,Int.toNat_natCast,hg,ij,dP (by omega),Q8];refine⟨⟨by omega,by omega⟩,room (by omega),l6 _ _ (by simp;omega) ?_ ?_⟩
   ·rw[<- eH];simp
   ·rw[<- ji];simp[Bool.or_assoc]
theorem QRc:Qf Tryz.prog LG:=Qh λx _=>QQE x.1 x.2.1
def uq(t:cc × Bool):aB:=f5 (.tp [(.a [(aL t.1.1),(aL t.1.2.1),(bf [TI] t.1.2.2)]),(bE t.2)])
def LJ:aJ:=Qg 243 [(.c (.sl [TI])),(.c (.sl [TI]))] λx=>(none,uq (Zm x.1 x.2.1))
def ur:aF:=⟨[Yv,xO],false⟩
def QDs:af :=
 (ag [(ag [(.ae [ab 32 9,ab 33 1,ba 34 33,aw 35 .lss 32 34]),(.cond 35 .skip (.exit 2))]),(.block 3 (ag [(.draw [ab 39 0,ab 40 8,aZ 41 39 40 [TI],an 42 41 1,ab 43 1,ab 44 9,aZ 45 43 44 [TI],an 46 45 1,aD 47 237 [42,46],ab 38 47,bF 48 38 0,bF 49 38 1,ab 10 48,ab 11 49] []),(.ae [ak 50 6 2,an 51 50 1,ab 52 10,aC 53 (.bW 3 [TI] [52]),aC 54 (.app 51 53 3 [TI]),ak 55 6 2,aV 55 54 1]),(.ae [ab 56 7,ab 57 56,.bw 57 false [ab 58 11] 59 58,ab 7 59])])),(.ae [ab 36 9,aw 37 .add 36 (ar 1),ab 9 37])])
def Qwu:List (Nat × Md):=[(0,.one .d),(1,.one .d),(4,.b [.d,.d,.d]),(6,.b [.d,.d,.f]),(7,.one .d),(8,.one .d),(9,.one .d)]
def QxX:af :=
 (.ae [ab 30 8,aw 31 .add 30 (ar 1),ab 8 31])
def LK:af :=
 (ag [(ag [(.ae [ab 26 8,ab 27 0,ba 28 27,aw 29 .lss 26 28]),(.cond 29 .skip (.exit 0))]),(.block 1 (ag [(.ae [ab 9 (ar 0)]),(.block 2 (.loop Qwu QDs))])),QxX])
def Cb:List (Nat × Md):=[(0,.one .d),(1,.one .d),(4,.b [.d,.d,.d]),(6,.b [.d,.d,.o 3]),(7,.one .d),(8,.one .d)]
def Qur:af :=
 (ag [(.ae [a9 60 6 3,ab 61 7,aV 4 60 3,ab 5 61]),.ret])
def QTz:af :=
 (ag [(.ae [aC 4 (.new 235 (bG [TI,TI,(.sl [TI])])),ab 5 (a6 false)]),(ag [(.ae [ab 12 0,aD 13 97 [12],bL 14 13,ab 15 14,.bw 15 false [ab 16 1,aD 17 97 [16],bL 18 17] 19 18]),(.cond 19 (ag [(.ae [aC 20 (.build (bG [TI,TI,(.sl [TI])]) []),aV 4 20 3,ab 5 (a6 false)]),.ret]) .skip)]),(.ae [ab 21 0,ba 22 21,ab 23 1,ba 24 23,aC 25 (.build (bG [TI,TI,(.sl [TI])]) [(0,1,22),(1,1,24)]),aC 6 (.new 235 (bG [TI,TI,(.sl [TI])])),aV 6 25 3]),(.ae [ab 7 (a6 false)]),(ag [(.ae [ab 8 (ar 0)]),(.block 0 (.loop Cb LK))]),Qur])
def Qr6:List (bn × Md):=[(.l 4 3 true,.b [.d,.d,.d]),(.t 5,.one .d)]
def Qrb:Qb:=TQ 0 0 Qr6 K
def QJL:Qb:=a0 (aN ur 0 Qur (Qrb K)) (Qrb K)
def LL:Qb:=a7 0 (QJL K)
def QCT:Qb:=a0 (λs'=>Loop ur 0 Cb LK (LL K) (gc 0 Cb s')) (LL K)
def QVt:Qb:=a0 (aN ur 0 QxX (QCT K)) (QCT K)
def QMU:Qb:=a7 1 (QVt K)
def QTT:Qb:=a7 2 (QMU K)
def Cd(d:List Int)(x:List Int)(sat:Bool)(k:Int)(m2:List Int)(i:Int):Prop:=Loop ur 0 Qwu QDs (QTT K) ⟨[(0,(bf [TI] d)),(1,(bf [TI] x)),(4,(.p 0 0 0)),(6,(.p 2 0 0)),(7,(bE sat)),(8,(aL i)),(9,(aL k))],[(0,(.box [(aL 0),(aL 0),(bf [TI] ([]))])),(1,(.sl 3 [TI] .ow m2)),(2,(.box [(aL (d.length:Int)),(aL (x.length:Int)),(.r [TI] 1 0 m2.length)]))],3⟩
def Ce(d:List Int)(x:List Int)(l8:Bool)(i:Int)(jj:List Int):Prop:=Loop ur 0 Cb LK (LL K) ⟨[(0,(bf [TI] d)),(1,(bf [TI] x)),(4,(.p 0 0 0)),(6,(.p 2 0 0)),(7,(bE l8)),(8,(aL i))],[(0,(.box [(aL 0),(aL 0),(bf [TI] ([]))])),(1,(.sl 3 [TI] .ow jj)),(2,(.box [(aL (d.length:Int)),(aL (x.length:Int)),(.r [TI] 1 0 jj.length)]))],3⟩
theorem QCc(d:List Int)(x:List Int)(sat:Bool)(k:Int)(m2:List Int)(i:Int) (h :
 (aI (decide (k<(x.length:Int))) (((0<=i/\Int.toNat i<d.length)/\(0<=k/\Int.toNat k<x.length))/\(((m2.length=m2.length\/m2.length+1<=m2.length)/\m2.length+1<=ca)/\(Cd K d x (sat||((Q9 (aq (0:Int) d (Int.toNat i)) (aq (0:Int) x (Int.toNat k))).2)) (aG (k+1)) (List.take (m2.length+1) ((List.take m2.length m2)++([(Q9 (aq (0:Int) d (Int.toNat i)) (aq (0:Int) x (Int.toNat k))).1]))) i))) (Ce K d x sat (aG (i+1)) (List.take m2.length m2)))):Cd K d x sat k m2 i :=
 Loop.of h
theorem QyT(d:List Int)(x:List Int)(l8:Bool)(i:Int)(jj:List Int) (h :
 (aI (decide (i<(d.length:Int))) (Cd K d x l8 0 (List.take jj.length jj) i) (K (uq (((d.length:Int),(x.length:Int),(List.take jj.length (List.drop 0 jj))),l8))))):Ce K d x l8 i jj :=
 Loop.of h
theorem QE2(d:List Int)(x:List Int):aK Tryz.prog 243 [(.c (.sl [TI]) d),(.c (.sl [TI]) x)] (uq (Zm d x)):=by
 refine bz ur QTz Qr6 0 0 62 LJ (kc YL (kc Kd kn)) (λK =>
 (aI ((!(QK d))||(!(QK x))) (K (uq (((0:Int),(0:Int),[]),false))) (Ce K d x false 0 ([]:List Int)))) (λhb=>?_)
 refine⟨λh=>au (by unfold Zm;rw[if_neg (by simpa[Classical.or_iff_not_imp_left]using h)]),λh=>?_⟩;have hp:QK d=true/\QK x=true:=by simpa using h
 have h6:=(Yg.1 hp.1).1;have h7:=(Yg.1 hp.2).1;refine Zf d (λr j=>∀(v:List Int)(z:Bool),v.length<=6*j->((((d.length:Int),(x.length:Int),v++r.flatMap λa=>x.map λb=>(Q9 a b).1),z||r.any λa=>x.any λb=>(Q9 a b).2):cc × Bool)=(Zm d x)->Ce (λr'=>r'=uq (Zm d x)) d x z j v) ?_ ?_ [] false (Nat.zero_le _) (by unfold Zm;rw[if_pos (by simp[hp])];simp)
 ·intro v z hv he;refine QyT _ _ _ _ _ _ ⟨λh=>by simp at h,λ_=>au ?_⟩;rw[<- he];simp
 ·intro j y r hj aW hg ih v z hv he;refine QyT _ _ _ _ _ _ ⟨λ_=>?_,λh=>by simp at h;omega⟩;rw[List.take_length];refine Zf x (λr2 k=>∀(v2:List Int)(z2:Bool),v2.length=v.length+k->v2++r2.map (λb=>(Q9 y b).1)=v++x.map (λb=>(Q9 y b).1)->(z2||r2.any λb=>(Q9 y b).2)=(z||x.any λb=>(Q9 y b).2)->Cd (λr'=>r'=uq (Zm d x)) d x z2 k v2 j) ?_ ?_ v z (by omega) rfl rfl
  ·intro v2 z2 mN eH ji;refine QCc _ _ _ _ _ _ _ ⟨λh=>by simp at h,λ_=>?_⟩;rw[List.take_length,dP (by omega)];simp only[List.map_nil,List.append_nil,List.any_nil,Bool.or_false]at eH ji;refine ih _ _ (by rw[mN];omega) ?_;rw[<- he,eH,ji];simp[Bool.or_assoc]
  ·intro k w r2 hk lM ij l6 v2 z2 mN eH ji;refine QCc _ _ _ _ _ _ _ ⟨λ_=>?_,λh=>by simp at h;omega⟩;rw[Int.toNat_natCast,Int.toNat_natCast,hg,ij,dP (by omega),Q8];refine⟨⟨⟨by omega,by omega⟩,by omega,by omega⟩,room (by omega),l6 _ _ (by simp;omega) ?_ ?_⟩
   ·rw[<- eH];simp
   ·rw[<- ji];simp[Bool.or_assoc]
theorem QNS:Qf Tryz.prog LJ:=Qh λx _=>QE2 x.1 x.2.1
def LM(t:cc):aB:=f5 (.a [(aL t.1),(aL t.2.1),(bf [TI] t.2.2)])
def Cf:aJ:=Qg 230 [(.a aM)] λx=>(none,LM (Q3 x.1))
def QU8:aF:=⟨[],false⟩
def QML:af :=
 (ag [(.ae [aC 1 (.box 134 0 4),aC 2 (.new 235 (bG [TI,TI,(.sl [TI])]))]),(.ae [ak 3 1 2,an 4 3 1,ak 5 1 1,an 6 5 1,ak 7 1 3,an 8 7 1,aC 9 (.build (bG [TI,TI,(.sl [TI])]) [(0,1,4),(1,1,6),(2,1,8)]),aV 2 9 3]),.ret])
def QJA:List (bn × Md):=[(.l 2 3 true,.b [.d,.d,.d])]
theorem QRF(o:aH):aK Tryz.prog 230 [(.a (aT.cells aM o))] (LM (Q3 o)):=by
 refine bz QU8 QML QJA 0 0 10 Cf kn (λK =>
 K (LM (o.2.2.1,o.2.1,o.2.2.2))) (λhb=>?_)
 exact au rfl
theorem Qr3:Qf Tryz.prog Cf:=Qh λx _=>QRF x.1
def LN(t:cc):aB:=f5 (.a [(aL t.1),(aL t.2.1),(bf [TI] t.2.2)])
def Cg:aJ:=Qg 224 [(.a aM)] λx=>(none,LN (Q3 x.1))
def QVc:aF:=⟨[],false⟩
def QMk:af :=
 (ag [(.ae [aC 1 (.box 134 0 4),aC 2 (.new 235 (bG [TI,TI,(.sl [TI])]))]),(.ae [ak 3 1 2,an 4 3 1,ak 5 1 1,an 6 5 1,ak 7 1 3,an 8 7 1,aC 9 (.build (bG [TI,TI,(.sl [TI])]) [(0,1,4),(1,1,6),(2,1,8)]),aV 2 9 3]),.ret])
def QLF:List (bn × Md):=[(.l 2 3 true,.b [.d,.d,.d])]
theorem QHm(o:aH):aK Tryz.prog 224 [(.a (aT.cells aM o))] (LN (Q3 o)):=by
 refine bz QVc QMk QLF 0 0 10 Cg kn (λK =>
 K (LN (o.2.2.1,o.2.1,o.2.2.2))) (λhb=>?_)
 exact au rfl
theorem Qq0:Qf Tryz.prog Cg:=Qh λx _=>QHm x.1
def pb(t:(List Int) × Bool):aB:=⟨(.tp [(.r [TI] 0 0 ((t.1).length)),(bE t.2)]),[(.sl 3 [TI] (.dp 0 true []) t.1)],[],false,[]⟩
def LO:aJ:=Qg 170 [(.a aM),(.c (.sl [TI]))] λx=>(none,pb (ZY x.1 x.2.1))
def QUB:aF:=⟨[xF,Jr,Cf,BX,Bu,BF,Le],true⟩
def QPY:af :=
 (ag [(.ae [aC 2 (.box 134 0 4),ab 4 (.k (.n [TI])),ab 5 (a6 false)]),(ag [(.ae [a9 10 2 4,aD 11 228 [10],bL 12 11,ab 13 12,.bw 13 false [ab 14 1,ak 15 2 1,an 16 15 1,aD 17 100 [14,16],bL 18 17] 19 18]),(.cond 19 (ag [(.ae [ab 4 (.k (.n [TI])),ab 5 (a6 false)]),.ret]) .skip)]),(ag [(.ae [ak 20 2 0,an 21 20 1]),(.block 0 (ag [(.ae [aw 23 .eql 21 (ar 1),ab 22 23]),(.cond 22 (ag [(.ae [a9 24 2 4,aD 25 230 [24],ab 26 1,aD 27 229 [25,26],bF 28 27 0,bF 29 27 1,ab 4 28,ab 5 29]),.ret]) (ag [(.ae [aw 31 .eql 21 (ar 2),ab 30 31]),(.cond 30 (ag [(.ae [ab 32 1,ak 33 2 3,an 34 33 1,aD 35 231 [32,34],bF 36 35 0,bF 37 35 1,ab 4 36,ab 5 37]),.ret]) (ag [(.ae [aw 39 .eql 21 (ar 4),ab 38 39]),(.cond 38 (ag [(.ae [ak 40 2 3,an 41 40 1,aZ 42 41 (ar 0) [TI],an 43 42 1,ab 44 1,aD 45 232 [43,44],bF 46 45 0,bF 47 45 1,ab 4 46,ab 5 47]),.ret]) (ag [(.ae [aw 49 .eql 21 (ar 5),ab 48 49]),(.cond 48 (ag [(.ae [a9 51 2 4,aD 52 230 [51],ab 53 1,aD 54 229 [52,53],ab 50 54,bF 55 50 0,bF 56 50 1,ab 6 55,ab 7 56]),(.ae [ab 58 1,ab 59 6,aD 60 231 [58,59],ab 57 60,bF 61 57 0,bF 62 57 1,ab 8 61,ab 9 62]),(.ae [ab 63 8,ab 64 7,ab 65 64,.bw 65 false [ab 66 9] 67 66,ab 4 63,ab 5 67]),.ret]) .skip)]))]))]))]))]),(.ae [ab 68 1,aD 69 233 [68],ab 4 69,ab 5 (a6 false)]),.ret])
def QRe:List (bn × Md):=[(.t 4,.one (.p 3)),(.t 5,.one .d)]
theorem QVU(o:aH)(x:List Int):aK Tryz.prog 170 [(.a (aT.cells aM o)),(.c (.sl [TI]) x)] (pb (ZY o x)):=by
 refine bz QUB QPY QRe 0 0 70 LO (kc IQ (kc JS (kc Qr3 (kc QDS (kc XX (kc QDB (kc QJz kn))))))) (λK =>
 (aI ((!(Zh o))||(!(QH x o.2.1))) (K (pb (([]:List Int),false))) (aI (o.1==1) (K (pb ((List.take (((Q6 (Q3 o) x).1).length) ((Q6 (Q3 o) x).1)),(Q6 (Q3 o) x).2))) (aI (o.1==2) (K (pb ((List.take (((Zb x o.2.2.2).1).length) ((Zb x o.2.2.2).1)),(Zb x o.2.2.2).2))) (aI (o.1==4) (((0:Int)<=0/\Int.toNat 0<(o.2.2.2).length)/\K (pb ((List.take (((Zy (aq (0:Int) o.2.2.2 (Int.toNat 0)) x).1).length) ((Zy (aq (0:Int) o.2.2.2 (Int.toNat 0)) x).1)),(Zy (aq (0:Int) o.2.2.2 (Int.toNat 0)) x).2))) (aI (o.1==5) (K (pb ((List.take (((Zb x (List.take (((Q6 (Q3 o) x).1).length) (List.drop 0 ((Q6 (Q3 o) x).1)))).1).length) ((Zb x (List.take (((Q6 (Q3 o) x).1).length) (List.drop 0 ((Q6 (Q3 o) x).1)))).1)),(((Q6 (Q3 o) x).2)||((Zb x (List.take (((Q6 (Q3 o) x).1).length) (List.drop 0 ((Q6 (Q3 o) x).1)))).2))))) (K (pb ((List.take ((Yd x).length) (Yd x)),false))))))))) (λhb=>?_)
 refine⟨λh=>au (by rw[Te];intro h2;simp[h2.1,h2.2]at h),λh=>?_⟩;have hp:Zh o=true/\QH x o.2.1=true:=by simpa using h
 have hk:=Au hp.1;have hv:(ZY o x)=(if o.1=1 then Q6 (Q3 o) x else if o.1=2 then Zb x o.2.2.2 else if o.1=4 then Zy (aq 0 o.2.2.2 0) x
    else if o.1=5 then((Zb x (Q6 (Q3 o) x).1).1,(Q6 (Q3 o) x).2||(Zb x (Q6 (Q3 o) x).1).2) else(Yd x,false)):=by
  unfold ZY;rw[if_pos (by rw[hp.1,hp.2];rfl)]
 refine⟨λh1=>au ?_,λh1=>⟨λh2=>au ?_,λh2=>⟨λh4=>⟨⟨by omega,At hp.1 (by simpa using h4)⟩,au ?_⟩,λh4=>⟨λh5=>au ?_,λh5=>au ?_⟩⟩⟩⟩
 all_goals (rw[hv];clear hv;simp at *;simp[*])
theorem QRm:Qf Tryz.prog LO:=Qh λx _=>QVU x.1 x.2.1
def pc(t:(List Int) × Bool):aB:=f5 (.tp [(bf [TI] t.1),(bE t.2)])
def LP:aJ:=Qg 160 [(.a aM),(.c (.sl [TI]))] λx=>(none,pc (ZY x.1 x.2.1))
def QT1:aF:=⟨[xD,Yv,Cg,Lw,Bx,Lg,BI],false⟩
def QNc:af :=
 (ag [(.ae [aC 2 (.box 134 0 4),ab 4 (.k (.n [TI])),ab 5 (a6 false)]),(ag [(.ae [a9 10 2 4,aD 11 222 [10],bL 12 11,ab 13 12,.bw 13 false [ab 14 1,aD 15 97 [14],bL 16 15] 17 16,ab 18 17,.bw 18 false [ab 19 1,ba 20 19,ak 21 2 1,an 22 21 1,aw 23 .neq 20 22] 24 23]),(.cond 24 (ag [(.ae [aC 25 (.bW 3 [TI] []),ab 4 25,ab 5 (a6 false)]),.ret]) .skip)]),(ag [(.ae [ak 26 2 0,an 27 26 1]),(.block 0 (ag [(.ae [aw 29 .eql 27 (ar 1),ab 28 29]),(.cond 28 (ag [(.ae [a9 30 2 4,aD 31 224 [30],ab 32 1,aD 33 223 [31,32],bF 34 33 0,bF 35 33 1,ab 4 34,ab 5 35]),.ret]) (ag [(.ae [aw 37 .eql 27 (ar 2),ab 36 37]),(.cond 36 (ag [(.ae [ab 38 1,ak 39 2 3,an 40 39 1,aD 41 225 [38,40],bF 42 41 0,bF 43 41 1,ab 4 42,ab 5 43]),.ret]) (ag [(.ae [aw 45 .eql 27 (ar 3),ab 44 45]),(.cond 44 (ag [(.ae [ab 46 1,aD 47 226 [46],ab 4 47,ab 5 (a6 false)]),.ret]) (ag [(.ae [aw 49 .eql 27 (ar 4),ab 48 49]),(.cond 48 (ag [(.ae [ak 50 2 3,an 51 50 1,aZ 52 51 (ar 0) [TI],an 53 52 1,ab 54 1,aD 55 227 [53,54],bF 56 55 0,bF 57 55 1,ab 4 56,ab 5 57]),.ret]) .skip)]))]))]))]))]),(.ae [a9 59 2 4,aD 60 224 [59],ab 61 1,aD 62 223 [60,61],ab 58 62,bF 63 58 0,bF 64 58 1,ab 6 63,ab 7 64]),(.ae [ab 66 1,ab 67 6,aD 68 225 [66,67],ab 65 68,bF 69 65 0,bF 70 65 1,ab 8 69,ab 9 70]),(.ae [ab 71 8,ab 72 7,ab 73 72,.bw 73 false [ab 74 9] 75 74,ab 4 71,ab 5 75]),.ret])
def QOE:List (bn × Md):=[(.t 4,.one .d),(.t 5,.one .d)]
theorem QOf(o:aH)(x:List Int):aK Tryz.prog 160 [(.a (aT.cells aM o)),(.c (.sl [TI]) x)] (pc (ZY o x)):=by
 refine bz QT1 QNc QOE 0 0 76 LP (kc IP (kc YL (kc Qq0 (kc QVw (kc X3 (kc QE4 (kc Qxj kn))))))) (λK =>
 (aI (((!(Zh o))||(!(QK x)))||((x.length:Int) != o.2.1)) (K (pc (([]:List Int),false))) (aI (o.1==1) (K (pc ((Q6 (Q3 o) x).1,(Q6 (Q3 o) x).2))) (aI (o.1==2) (K (pc ((Zb x o.2.2.2).1,(Zb x o.2.2.2).2))) (aI (o.1==3) (K (pc ((Yd x),false))) (aI (o.1==4) (((0:Int)<=0/\Int.toNat 0<(o.2.2.2).length)/\K (pc ((Zy (aq (0:Int) o.2.2.2 (Int.toNat 0)) x).1,(Zy (aq (0:Int) o.2.2.2 (Int.toNat 0)) x).2))) (K (pc ((Zb x ((Q6 (Q3 o) x).1)).1,(((Q6 (Q3 o) x).2)||((Zb x ((Q6 (Q3 o) x).1)).2))))))))))) (λhb=>?_)
 rw[Bool.or_assoc,Gt];refine⟨λh=>au (by rw[Te];intro h2;simp[h2.1,h2.2]at h),λh=>?_⟩;have hp:Zh o=true/\QH x o.2.1=true:=by simpa using h
 have hk:=Au hp.1;have hv:(ZY o x)=(if o.1=1 then Q6 (Q3 o) x else if o.1=2 then Zb x o.2.2.2 else if o.1=4 then Zy (aq 0 o.2.2.2 0) x
    else if o.1=5 then((Zb x (Q6 (Q3 o) x).1).1,(Q6 (Q3 o) x).2||(Zb x (Q6 (Q3 o) x).1).2) else(Yd x,false)):=by
  unfold ZY;rw[if_pos (by rw[hp.1,hp.2];rfl)]
 refine⟨λh1=>au ?_,λh1=>⟨λh2=>au ?_,λh2=>⟨λh3=>au ?_,λh3=>⟨λh4=>⟨⟨by omega,At hp.1 (by simpa using h4)⟩,au ?_⟩,λh4=>au ?_⟩⟩⟩⟩
 all_goals (rw[hv];clear hv;simp at *)
 ·simp[*]
 ·simp[*]
 ·simp[*]
 ·simp[*]
 ·have h5:o.1=5:=by omega
  simp[h5]
theorem QOr:Qf Tryz.prog LP:=Qh λx _=>QOf x.1 x.2.1
def pd(t:(List Int) × (List Int) × Bool):aB:=⟨(.tp [(.r [TI] 0 0 ((t.1).length)),(.r [TI] 1 0 ((t.2.1).length)),(bE t.2.2)]),[(.sl 3 [TI] (.dp 0 true []) t.1),(.sl 3 [TI] (.dp 0 true []) t.2.1)],[],false,[]⟩
def LQ:aJ:=Qg 197 [(.a aM),(.c (.sl [TI])),(.c (.sl [TI]))] λx=>(none,pd (ZU x.1 x.2.1 x.2.2.1))
def QV4:aF:=⟨[xF,Jr,Cf,LC,LG,JG,BF,yd,Bu,Lj],true⟩
def QHF:af :=
 (ag [(.ae [aC 3 (.box 134 0 4),ab 6 (.k (.n [TI])),ab 7 (.k (.n [TI])),ab 8 (a6 false)]),(ag [(.ae [a9 23 3 4,aD 24 228 [23],bL 25 24,ab 26 25,.bw 26 false [ab 27 1,ak 28 3 1,an 29 28 1,aD 30 100 [27,29],bL 31 30] 32 31,ab 33 32,.bw 33 false [ab 34 2,ak 35 3 2,an 36 35 1,aD 37 100 [34,36],bL 38 37] 39 38]),(.cond 39 (ag [(.ae [ab 6 (.k (.n [TI])),ab 7 (.k (.n [TI])),ab 8 (a6 false)]),.ret]) .skip)]),(ag [(.ae [ak 40 3 0,an 41 40 1]),(.block 0 (ag [(.ae [aw 43 .eql 41 (ar 1),ab 42 43]),(.cond 42 (ag [(.ae [a9 45 3 4,aD 46 230 [45],ab 47 2,aD 48 244 [46,47],ab 44 48,bF 49 44 0,bF 50 44 1,ab 9 49,ab 10 50]),(.ae [ab 52 2,ab 53 1,aD 54 245 [52,53],ab 51 54,bF 55 51 0,bF 56 51 1,aC 11 (.new 235 (bG [TI,TI,(.sl [TI])])),aV 11 55 3,ab 12 56]),(.draw [ab 57 9,ak 58 11 2,an 59 58 1,ab 60 10,ab 61 60,.bw 61 false [ab 62 12] 63 62,ab 6 57,ab 7 59,ab 8 63] []),.ret]) (ag [(.ae [aw 65 .eql 41 (ar 2),ab 64 65]),(.cond 64 (ag [(.ae [ab 66 2,aD 67 104 [66],ab 68 2,aD 69 104 [68],ab 6 67,ab 7 69,ab 8 (a6 false)]),.ret]) (ag [(.ae [aw 71 .eql 41 (ar 4),ab 70 71]),(.cond 70 (ag [(.ae [ak 73 3 3,an 74 73 1,aZ 75 74 (ar 0) [TI],an 76 75 1,ab 77 2,aD 78 232 [76,77],ab 72 78,bF 79 72 0,bF 80 72 1,ab 13 79,ab 14 80]),(.ae [ab 82 2,ab 83 1,aD 84 188 [82,83],ab 81 84,bF 85 81 0,bF 86 81 1,ab 15 85,ab 16 86]),(.ae [ab 87 13,ab 88 15,aC 89 (.bW 3 [TI] [88]),ab 90 14,ab 91 90,.bw 91 false [ab 92 16] 93 92,ab 6 87,ab 7 89,ab 8 93]),.ret]) (ag [(.ae [aw 95 .eql 41 (ar 5),ab 94 95]),(.cond 94 (ag [(.ae [a9 97 3 4,aD 98 230 [97],ab 99 2,aD 100 244 [98,99],ab 96 100,bF 101 96 0,bF 102 96 1,ab 17 101,ab 18 102]),(.ae [ab 104 2,ab 105 17,aD 106 231 [104,105],ab 103 106,bF 107 103 0,bF 108 103 1,ab 19 107,ab 20 108]),(.ae [ab 110 2,ab 111 1,aD 112 245 [110,111],ab 109 112,bF 113 109 0,bF 114 109 1,aC 21 (.new 235 (bG [TI,TI,(.sl [TI])])),aV 21 113 3,ab 22 114]),(.draw [ab 115 19,ak 116 21 2,an 117 116 1,ab 118 18,ab 119 118,.bw 119 false [ab 120 20] 121 120,ab 122 121,.bw 122 false [ab 123 22] 124 123,ab 6 115,ab 7 117,ab 8 124] []),.ret]) .skip)]))]))]))]))]),(.ae [ab 125 1,ab 126 2,aD 127 246 [125,126],ab 6 127,ab 7 (.k (.n [TI])),ab 8 (a6 false)]),.ret])
def QQ7:List (bn × Md):=[(.t 6,.one (.p 3)),(.t 7,.one (.p 3)),(.t 8,.one .d)]
theorem QRw(o:aH)(x:List Int)(d:List Int):aK Tryz.prog 197 [(.a (aT.cells aM o)),(.c (.sl [TI]) x),(.c (.sl [TI]) d)] (pd (ZU o x d)):=by
 refine bz QV4 QHF QQ7 0 0 128 LQ (kc IQ (kc JS (kc Qr3 (kc QQX (kc QRc (kc nQ (kc QDB (kc Lb (kc XX (kc QVr kn)))))))))) (λK =>
 let z2:=Zy (aq (0:Int) o.2.2.2 (Int.toNat 0)) d
 let z3:=Zs (Q3 o) d
 let z1:=Zb d (List.take ((z3.1).length) (List.drop 0 (z3.1)))
 let z4:=List.take ((((Zm d x).1).2.2).length) (((Zm d x).1).2.2)
 let z5:=List.take ((id (α:=List Int) d).length) (id (α:=List Int) d)
 (aI (((!(Zh o))||(!(QH x o.2.1)))||(!(QH d o.2.2.1))) (K (pd (([]:List Int),([]:List Int),false))) (aI (o.1==1) (K (pd ((List.take ((z3.1).length) (z3.1)),z4,((z3.2)||((Zm d x).2))))) (aI (o.1==2) (((Qt (α:=List Int) d)/\(Qt (α:=List Int) d))/\K (pd (z5,z5,false))) (aI (o.1==4) (((0:Int)<=0/\Int.toNat 0<(o.2.2.2).length)/\K (pd ((List.take ((z2.1).length) (z2.1)),[(Q1 d x).1],((z2.2)||((Q1 d x).2))))) (aI (o.1==5) (K (pd ((List.take ((z1.1).length) (z1.1)),z4,(((z3.2)||(z1.2))||((Zm d x).2))))) (K (pd ((List.take ((Z9 x d).length) (Z9 x d)),([]:List Int),false))))))))) (λhb=>?_)
 conv=>zeta
 refine⟨λh=>au (by rw[Tf];intro h2;simp[h2.1,h2.2]at h),λh=>?_⟩;have hp:(Zh o=true/\QH x o.2.1=true)/\QH d o.2.2.1=true:=by simpa using h
 have hk:=Au hp.1.1;have hdl:=(Yg.1 (Aq.1 hp.2).1).1;have hv:(ZU o x d)=(if o.1=1 then((Zs (Q3 o) d).1,(Zm d x).1.2.2,(Zs (Q3 o) d).2||(Zm d x).2)
    else if o.1=2 then(d,d,false)
    else if o.1=4 then((Zy (aq 0 o.2.2.2 0) d).1,[(Q1 d x).1],(Zy (aq 0 o.2.2.2 0) d).2||(Q1 d x).2)
    else if o.1=5 then((Zb d (Zs (Q3 o) d).1).1,(Zm d x).1.2.2,(Zs (Q3 o) d).2||(Zm d x).2||(Zb d (Zs (Q3 o) d).1).2)
    else(Z9 x d,[],false)):=by
  unfold ZU;rw[if_pos (by rw[hp.1.1,hp.1.2,hp.2];rfl)]
 have gA:Qt (α:=List Int) d:=by unfold Qt;rw[ZH];omega
 refine⟨λh1=>au ?_,λh1=>⟨λh2=>⟨⟨gA,gA⟩,au ?_⟩,λh2=>⟨λh4=>⟨⟨by omega,At hp.1.1 (by simpa using h4)⟩,au ?_⟩,λh4=>⟨λh5=>au ?_,λh5=>au ?_⟩⟩⟩⟩
 all_goals (rw[hv];clear hv;simp at *)
 ·simp[*]
 ·simp[*]
 ·simp[*]
 ·simp[*,Bool.or_assoc,Bool.or_comm,Bool.or_left_comm]
 ·simp[*]
theorem QP0:Qf Tryz.prog LQ:=Qh λx _=>QRw x.1 x.2.1 x.2.2.1
def pe(t:(List Int) × (List Int) × Bool):aB:=f5 (.tp [(bf [TI] t.1),(bf [TI] t.2.1),(bE t.2.2)])
def LR:aJ:=Qg 193 [(.a aM),(.c (.sl [TI])),(.c (.sl [TI]))] λx=>(none,pe (ZU x.1 x.2.1 x.2.2.1))
def QOS:aF:=⟨[xD,Yv,Ll,BI,ui,Cg,LD,LJ,Bx],false⟩
def QGb:af :=
 (ag [(.ae [aC 3 (.box 134 0 4),ab 6 (.k (.n [TI])),ab 7 (.k (.n [TI])),ab 8 (a6 false)]),(ag [(.ae [a9 19 3 4,aD 20 222 [19],bL 21 20,ab 22 21,.bw 22 false [ab 23 1,aD 24 97 [23],bL 25 24] 26 25,ab 27 26,.bw 27 false [ab 28 1,ba 29 28,ak 30 3 1,an 31 30 1,aw 32 .neq 29 31] 33 32,ab 34 33,.bw 34 false [ab 35 2,aD 36 97 [35],bL 37 36] 38 37,ab 39 38,.bw 39 false [ab 40 2,ba 41 40,ak 42 3 2,an 43 42 1,aw 44 .neq 41 43] 45 44]),(.cond 45 (ag [(.ae [aC 46 (.bW 3 [TI] []),aC 47 (.bW 3 [TI] []),ab 6 46,ab 7 47,ab 8 (a6 false)]),.ret]) .skip)]),(ag [(.ae [ak 48 3 0,an 49 48 1]),(.block 0 (ag [(.ae [aw 51 .eql 49 (ar 2),ab 50 51]),(.cond 50 (ag [(.ae [aC 52 (.bW 3 [TI] []),ab 53 2,aC 54 (.app 52 53 3 [TI]),aC 55 (.bW 3 [TI] []),ab 56 2,aC 57 (.app 55 56 3 [TI]),ab 6 54,ab 7 57,ab 8 (a6 false)]),.ret]) (ag [(.ae [aw 59 .eql 49 (ar 3),ab 58 59]),(.cond 58 (ag [(.ae [ab 60 1,ab 61 2,aD 62 241 [60,61],aC 63 (.bW 3 [TI] []),ab 6 62,ab 7 63,ab 8 (a6 false)]),.ret]) (ag [(.ae [aw 65 .eql 49 (ar 4),ab 64 65]),(.cond 64 (ag [(.ae [ak 67 3 3,an 68 67 1,aZ 69 68 (ar 0) [TI],an 70 69 1,ab 71 2,aD 72 227 [70,71],ab 66 72,bF 73 66 0,bF 74 66 1,ab 9 73,ab 10 74]),(.ae [ab 76 2,ab 77 1,aD 78 184 [76,77],ab 75 78,bF 79 75 0,bF 80 75 1,ab 11 79,ab 12 80]),(.ae [ab 81 9,ab 82 11,aC 83 (.bW 3 [TI] [82]),ab 84 10,ab 85 84,.bw 85 false [ab 86 12] 87 86,ab 6 81,ab 7 83,ab 8 87]),.ret]) .skip)]))]))]))]),(.ae [a9 89 3 4,aD 90 224 [89],ab 91 2,aD 92 242 [90,91],ab 88 92,bF 93 88 0,bF 94 88 1,ab 13 93,ab 14 94]),(.ae [ab 96 2,ab 97 1,aD 98 243 [96,97],ab 95 98,bF 99 95 0,bF 100 95 1,aC 15 (.new 235 (bG [TI,TI,(.sl [TI])])),aV 15 99 3,ab 16 100]),(ag [(.ae [ak 101 3 0,an 102 101 1,aw 103 .eql 102 (ar 1)]),(.cond 103 (ag [(.draw [ab 104 13,ak 105 15 2,an 106 105 1,ab 107 14,ab 108 107,.bw 108 false [ab 109 16] 110 109,ab 6 104,ab 7 106,ab 8 110] []),.ret]) .skip)]),(.ae [ab 112 2,ab 113 13,aD 114 225 [112,113],ab 111 114,bF 115 111 0,bF 116 111 1,ab 17 115,ab 18 116]),(.draw [ab 117 17,ak 118 15 2,an 119 118 1,ab 120 14,ab 121 120,.bw 121 false [ab 122 16] 123 122,ab 124 123,.bw 124 false [ab 125 18] 126 125,ab 6 117,ab 7 119,ab 8 126] []),.ret])
def QPO:List (bn × Md):=[(.t 6,.one .d),(.t 7,.one .d),(.t 8,.one .d)]
theorem QNT(o:aH)(x:List Int)(d:List Int):aK Tryz.prog 193 [(.a (aT.cells aM o)),(.c (.sl [TI]) x),(.c (.sl [TI]) d)] (pe (ZU o x d)):=by
 refine bz QOS QGb QPO 0 0 127 LR (kc IP (kc YL (kc QMz (kc Qxj (kc BN (kc Qq0 (kc QUO (kc QNS (kc X3 kn))))))))) (λK =>
 (aI (((((!(Zh o))||(!(QK x)))||((x.length:Int) != o.2.1))||(!(QK d)))||((d.length:Int) != o.2.2.1)) (K (pe (([]:List Int),([]:List Int),false))) (aI (o.1==2) ((((0=0\/0+d.length<=0)/\0+d.length<=ca)/\((0=0\/0+d.length<=0)/\0+d.length<=ca))/\K (pe ((List.take (0+d.length) (List.drop 0 (d:List Int))),(List.take (0+d.length) (List.drop 0 (d:List Int))),false))) (aI (o.1==3) (K (pe ((Z9 x d),([]:List Int),false))) (aI (o.1==4) (((0:Int)<=0/\Int.toNat 0<(o.2.2.2).length)/\K (pe ((Zy (aq (0:Int) o.2.2.2 (Int.toNat 0)) d).1,[(Q1 d x).1],(((Zy (aq (0:Int) o.2.2.2 (Int.toNat 0)) d).2)||((Q1 d x).2))))) (aI (o.1==1) (K (pe ((Zs (Q3 o) d).1,((Zm d x).1).2.2,(((Zs (Q3 o) d).2)||((Zm d x).2))))) (K (pe ((Zb d ((Zs (Q3 o) d).1)).1,((Zm d x).1).2.2,((((Zs (Q3 o) d).2)||((Zm d x).2))||((Zb d ((Zs (Q3 o) d).1)).2))))))))))) (λhb=>?_)
 rw[show(!(Zh o)||!(QK x)||((x.length:Int) != o.2.1)||!(QK d)||((d.length:Int) != o.2.2.1))=(!(Zh o)||!(QH x o.2.1)||!(QH d o.2.2.1)) by rw[<- Gt,<- Gt];simp only[Bool.or_assoc]];refine⟨λh=>au (by rw[Tf];intro h2;simp[h2.1,h2.2]at h),λh=>?_⟩;have hp:(Zh o=true/\QH x o.2.1=true)/\QH d o.2.2.1=true:=by simpa using h
 have hk:=Au hp.1.1;have hdl:=(Yg.1 (Aq.1 hp.2).1).1;have hv:(ZU o x d)=(if o.1=1 then((Zs (Q3 o) d).1,(Zm d x).1.2.2,(Zs (Q3 o) d).2||(Zm d x).2)
    else if o.1=2 then(d,d,false)
    else if o.1=4 then((Zy (aq 0 o.2.2.2 0) d).1,[(Q1 d x).1],(Zy (aq 0 o.2.2.2 0) d).2||(Q1 d x).2)
    else if o.1=5 then((Zb d (Zs (Q3 o) d).1).1,(Zm d x).1.2.2,(Zs (Q3 o) d).2||(Zm d x).2||(Zb d (Zs (Q3 o) d).1).2)
    else(Z9 x d,[],false)):=by
  unfold ZU;rw[if_pos (by rw[hp.1.1,hp.1.2,hp.2];rfl)]
 refine⟨λh2=>⟨⟨⟨.inl rfl,by rw[Zg];omega⟩,.inl rfl,by rw[Zg];omega⟩,au ?_⟩,λh2=>⟨λh3=>au ?_,λh3=>⟨λh4=>⟨⟨by omega,At hp.1.1 (by simpa using h4)⟩,au ?_⟩,λh4=>⟨λh1=>au ?_,λh1=>au ?_⟩⟩⟩⟩
 all_goals (rw[hv];clear hv;simp at *)
 ·simp[*]
 ·simp[*]
 ·simp[*]
 ·simp[*]
 ·have h5:o.1=5:=by omega
  simp[h5]
theorem QWY:Qf Tryz.prog LR:=Qh λx _=>QNT x.1 x.2.1 x.2.2.1
def LS(t:Int × Bool):aB:=b6 (.tp [(aL t.1),(bE t.2)])
def LU:aJ:=Qg 105 [(.c (.sl [TI])),(.c (.sl [TI]))] λx=>(none,LS (Yb x.1 x.2.1))
def QId:aF:=⟨[BA,yd],false⟩
def QQd:af :=
 (ag [(.ae [ab 4 (ar 0),ab 5 (a6 false)]),(.ae [ab 11 0,ab 12 1,aD 13 111 [11,12],ab 10 13,bF 14 10 0,bF 15 10 1,ab 6 14,ab 7 15]),(.ae [ab 17 6,ab 18 6,aD 19 188 [17,18],ab 16 19,bF 20 16 0,bF 21 16 1,ab 8 20,ab 9 21]),(.ae [ab 22 8,aw 23 .shr 22 (.k (.c (.int .u64) (1:Int))),ab 24 7,ab 25 24,.bw 25 false [ab 26 9] 27 26,ab 4 23,ab 5 27]),.ret])
def QWJ:List (bn × Md):=[(.t 4,.one .d),(.t 5,.one .d)]
theorem QQJ(y:List Int)(t:List Int):aK Tryz.prog 105 [(.c (.sl [TI]) y),(.c (.sl [TI]) t)] (LS (Yb y t)):=by
 refine bz QId QQd QWJ 0 0 28 LU (kc Qy5 (kc Lb kn)) (λK =>
 (((0:Int)<=1)/\K (LS ((Int.fdiv ((Q1 (List.take (((QY y t).1).length) (List.drop 0 ((QY y t).1))) (List.take (((QY y t).1).length) (List.drop 0 ((QY y t).1)))).1) (2 ^ (min (Int.toNat 1) (IntKind.i64.bits)))),(((QY y t).2)||((Q1 (List.take (((QY y t).1).length) (List.drop 0 ((QY y t).1))) (List.take (((QY y t).1).length) (List.drop 0 ((QY y t).1)))).2)))))) (λhb=>?_)
 exact⟨by omega,au (by simp only[List.drop_zero,List.take_length];rfl)⟩
theorem QIP:Qf Tryz.prog LU:=Qh λx _=>QQJ x.1 x.2.1
def LV(t:Int × Bool):aB:=b6 (.tp [(aL t.1),(bE t.2)])
def LW:aJ:=Qg 98 [(.c (.sl [TI])),(.c (.sl [TI]))] λx=>(none,LV (Yb x.1 x.2.1))
def QK5:aF:=⟨[BD,ui],false⟩
def QPb:af :=
 (ag [(.ae [ab 4 (ar 0),ab 5 (a6 false)]),(.ae [ab 11 0,ab 12 1,aD 13 107 [11,12],ab 10 13,bF 14 10 0,bF 15 10 1,ab 6 14,ab 7 15]),(.ae [ab 17 6,ab 18 6,aD 19 184 [17,18],ab 16 19,bF 20 16 0,bF 21 16 1,ab 8 20,ab 9 21]),(.ae [ab 22 8,aw 23 .quo 22 (ar 2),ab 24 7,ab 25 24,.bw 25 false [ab 26 9] 27 26,ab 4 23,ab 5 27]),.ret])
def QWU:List (bn × Md):=[(.t 4,.one .d),(.t 5,.one .d)]
theorem QH7(y:List Int)(t:List Int):aK Tryz.prog 98 [(.c (.sl [TI]) y),(.c (.sl [TI]) t)] (LV (Yb y t)):=by
 refine bz QK5 QPb QWU 0 0 28 LW (kc QqQ (kc BN kn)) (λK =>
 ((¬ ((2:Int):Int)=0)/\K (LV (aG (Int.tdiv ((Q1 ((QY y t).1) ((QY y t).1)).1) (2:Int)),(((QY y t).2)||((Q1 ((QY y t).1) ((QY y t).1)).2)))))) (λhb=>?_)
 have h:=QF2 (QY y t).1;have hf:=S6.1 (QTt (QY y t).1 (QY y t).1);refine⟨by omega,au ?_⟩;unfold Yb;generalize(Q1 (QY y t).1 (QY y t).1).1=q at *;rw[Int.tdiv_eq_ediv_of_nonneg h,QF (x:=q / 2) (by omega) (by omega),Int.fdiv_eq_ediv_of_nonneg _ (by omega)]
theorem QFl:Qf Tryz.prog LW:=Qh λx _=>QH7 x.1 x.2.1
def ym(t:(List (List Int)) × Bool):aB:=⟨(.tp [(.r [(.sl [TI])] 0 0 ((t.1).length)),(bE t.2)]),[(.sl 106 [(.sl [TI])] (.dp 0 true []) t.1)],[],false,[]⟩
def Ch:aJ:=Qg 73 [(.a [(.sl aM)]),(.c (.sl [TI]))] λx=>(none,ym (JP x.1 x.2.1))
def LX:aF:=⟨[t6,xH,Jr,JG,LO],true⟩
def Qri:af :=
 (ag [(.ae [aw 30 .lss 29 28]),(.cond 30 .skip (.exit 0)),(.block 1 (ag [(.ae [ab 31 29,aZ 32 27 29 aM,a9 33 32 4,aC 9 (.new 134 (bG aM)),ab 8 31,aV 9 33 4]),(.draw [a9 35 9 4,ab 36 6,ab 37 8,aZ 38 36 37 [(.sl [TI])],ak 39 38 0,an 40 39 1,aD 41 170 [35,40],ab 34 41,bF 42 34 0,bF 43 34 1,ab 10 42,ab 11 43] []),(.ae [ab 44 6,ab 45 10,aC 46 (.build [(.n [TI])] [(0,1,45)]),aC 47 (.bW 106 [(.sl [TI])] [46]),aC 48 (.app 44 47 106 [(.sl [TI])]),ab 6 48]),(.ae [ab 49 7,ab 50 49,.bw 50 false [ab 51 11] 52 51,ab 7 52])])),(.ae [aw 53 .add 29 (ar 1),ab 29 53])])
def Qs6:List (Nat × Md):=[(6,.one .f),(7,.one .d),(27,.one .d),(28,.one .d),(29,.one .d)]
def Qrx:af :=
 (ag [(.ae [ab 54 6,ab 55 7,ab 4 54,ab 5 55]),.ret])
def QOu:af :=
 (ag [(.ae [aC 2 (.box 77 0 1),ab 4 (.k (.n [(.sl [TI])])),ab 5 (a6 false)]),(ag [(.ae [a9 12 2 1,aD 13 167 [12],bL 14 13,ab 15 14,.bw 15 false [ab 16 1,a9 17 2 1,aD 18 101 [17],aD 19 100 [16,18],bL 20 19] 21 20]),(.cond 21 (ag [(.ae [ab 4 (.k (.n [(.sl [TI])])),ab 5 (a6 false)]),.ret]) .skip)]),(.ae [ab 22 1,aD 23 104 [22],aC 24 (.build [(.n [TI])] [(0,1,23)]),aC 25 (.bW 106 [(.sl [TI])] [24]),ab 6 25]),(.ae [ab 7 (a6 false)]),(ag [(.ae [ak 26 2 0,an 27 26 1,ba 28 27,ab 29 (ar 0)]),(.block 0 (.loop Qs6 Qri))]),Qrx])
def Qxh:List (bn × Md):=[(.t 4,.one (.p 106)),(.t 5,.one .d)]
def QyS:Qb:=TQ 0 0 Qxh K
def QUW:Qb:=a0 (aN LX 0 Qrx (QyS K)) (QyS K)
def QUS:Qb:=a7 0 (QUW K)
def Ci(m:List aH)(out:Bool)(x1:Int)(rows:List (List Int)):Prop:=Loop LX 0 Qs6 Qri (QUS K) ⟨[(6,(.r [(.sl [TI])] 0 0 rows.length)),(7,(bE out)),(27,(bf aM m)),(28,(aL (m.length:Int))),(29,(aL x1))],[(0,(.sl 106 [(.sl [TI])] (.dp 0 true []) rows))],1⟩
theorem QwK(m:List aH)(out:Bool)(x1:Int)(rows:List (List Int)) (h :
 (aI (decide (x1<(m.length:Int))) ((0<=x1/\Int.toNat x1<m.length)/\(((0<=x1/\Int.toNat x1<rows.length)/\((0+(Int.toNat x1))<rows.length))/\(((rows.length=rows.length\/rows.length+1<=rows.length)/\rows.length+1<=ca)/\(Ci K m (out||((ZY (aq b5 m (Int.toNat x1)) (aq ([]:List Int) rows (0+(Int.toNat x1)))).2)) (aG (x1+1)) (List.take (rows.length+1) ((List.take rows.length rows)++([(List.take (((ZY (aq b5 m (Int.toNat x1)) (aq ([]:List Int) rows (0+(Int.toNat x1)))).1).length) (List.drop 0 ((ZY (aq b5 m (Int.toNat x1)) (aq ([]:List Int) rows (0+(Int.toNat x1)))).1)))]))))))) (K (ym ((List.take rows.length rows),out))))):Ci K m out x1 rows :=
 Loop.of h
theorem QRE(m:List aH)(x:List Int):aK Tryz.prog 73 [(.a [(.c (.sl aM) m)]),(.c (.sl [TI]) x)] (ym (JP m x)):=by
 refine bz LX QOu Qxh 0 0 56 Ch (kc AZ (kc IX (kc JS (kc nQ (kc QRm kn))))) (λK =>
 (aI ((!(Zc m))||(!(QH x (ZO m)))) (K (ym (([]:List (List Int)),false))) ((Qt (α:=List Int) x)/\(Ci K m false 0 ([(List.take ((id (α:=List Int) x).length) (List.drop 0 (id (α:=List Int) x)))]))))) (λhb=>?_)
 refine⟨λh=>au (by unfold JP;rw[if_neg (by intro h2;simp at h2;simp[h2.1,h2.2]at h)]),λh=>?_⟩;have hp:Zc m=true/\QH x (ZO m)=true:=by simpa using h
 have hl:=Yw hp.1;have hx:=(Yg.1 (Aq.1 hp.2).1).1;have hm:=Gv hp.1 hp.2;rw[rD];refine⟨by unfold Qt;rw[ZH];omega,?_⟩;refine Zf m (λr k=>∀(v:List (List Int))(z:Bool),v.length=k+1->(v.take k++(QV r (aq [] v k)).1,z||(QV r (aq [] v k)).2)=QV m x->Ci (λr'=>r'=ym (JP m x)) m z k v) ?_ ?_ [x] false rfl (by simp[aq])
 ·intro v z hv he;refine QwK _ _ _ _ _ ⟨λh=>by simp at h,λ_=>au ?_⟩;rw[hm,<- he,List.take_length];simp only[QV,Bool.or_false];rw[Aw [] hv]
 ·intro k o r hk aW hg ih v z hv he;refine QwK _ _ _ _ _ ⟨λ_=>?_,λh=>by simp at h;omega⟩;rw[Int.toNat_natCast,hg,Nat.zero_add,dP (by omega),Q8,Av];refine⟨⟨by omega,aW⟩,⟨⟨by omega,by omega⟩,by omega⟩,room (by omega),ih _ _ (Ye hv) ?_⟩;rw[Tg [] _ hv,Th _ hv,<- he,QV];have:=Aw [] hv;simp only[Bool.or_assoc];rw[List.append_cons,this]
theorem Qtk:Qf Tryz.prog Ch:=Qh λx _=>QRE x.1 x.2.1
def Cj(t:(List (List Int)) × Bool):aB:=f5 (.tp [(bf [(.sl [TI])] t.1),(bE t.2)])
def Ck:aJ:=Qg 64 [(.c (.sl aM)),(.c (.sl [TI]))] λx=>(some (Ar x.1 x.2.1),Cj (QV x.1 x.2.1))
def LY:aF:=⟨[LP],false⟩
def Qzq:af :=
 (ag [(ag [(.ae [ab 16 8,ab 17 0,ba 18 17,aw 19 .lss 16 18]),(.cond 19 .skip (.exit 0))]),(.block 1 (ag [(.draw [ab 23 0,ab 24 8,aZ 25 23 24 aM,a9 26 25 4,ab 27 6,ab 28 8,aZ 29 27 28 [(.sl [TI])],ak 30 29 0,an 31 30 1,aD 32 160 [26,31],ab 22 32,bF 33 22 0,bF 34 22 1,ab 9 33,ab 10 34] []),(.ae [ab 35 6,ab 36 9,aC 37 (.build [(.n [TI])] [(0,1,36)]),aC 38 (.bW 106 [(.sl [TI])] [37]),aC 39 (.app 35 38 106 [(.sl [TI])]),ab 6 39]),(.ae [ab 40 7,ab 41 40,.bw 41 false [ab 42 10] 43 42,ab 7 43])])),(.ae [ab 20 8,aw 21 .add 20 (ar 1),ab 8 21])])
def Qwd:List (Nat × Md):=[(0,.one .d),(6,.one .f),(7,.one .d),(8,.one .d)]
def QBu:af :=
 (ag [(.ae [ab 44 6,ab 45 7,ab 4 44,ab 5 45]),.ret])
def QJE:af :=
 (ag [(.ae [ab 4 (.k (.n [(.sl [TI])])),ab 5 (a6 false)]),(.ae [aC 11 (.bW 3 [TI] []),ab 12 1,aC 13 (.app 11 12 3 [TI]),aC 14 (.build [(.n [TI])] [(0,1,13)]),aC 15 (.bW 106 [(.sl [TI])] [14]),ab 6 15]),(.ae [ab 7 (a6 false)]),(ag [(.ae [ab 8 (ar 0)]),(.block 0 (.loop Qwd Qzq))]),QBu])
def Qsu:List (bn × Md):=[(.t 4,.one .d),(.t 5,.one .d)]
def QD9:Qb:=TQ 0 0 Qsu K
def QVY:Qb:=a0 (aN LY 0 QBu (QD9 K)) (QD9 K)
def QL5:Qb:=a7 0 (QVY K)
def Cl(ops:List aH)(sat:Bool)(i:Int)(out:List (List Int)):Prop:=Loop LY 0 Qwd Qzq (QL5 K) ⟨[(0,(bf aM ops)),(6,(.r [(.sl [TI])] 0 0 out.length)),(7,(bE sat)),(8,(aL i))],[(0,(.sl 106 [(.sl [TI])] .ow out))],1⟩
theorem QqP(ops:List aH)(sat:Bool)(i:Int)(out:List (List Int)) (h :
 (aI (decide (i<(ops.length:Int))) (((0<=i/\Int.toNat i<ops.length)/\((0<=i/\Int.toNat i<out.length)/\((0+(Int.toNat i))<out.length)))/\(((out.length=out.length\/out.length+1<=out.length)/\out.length+1<=ca)/\(Cl K ops (sat||((ZY (aq b5 ops (Int.toNat i)) (aq ([]:List Int) out (0+(Int.toNat i)))).2)) (aG (i+1)) (List.take (out.length+1) ((List.take out.length out)++([(ZY (aq b5 ops (Int.toNat i)) (aq ([]:List Int) out (0+(Int.toNat i)))).1])))))) (K (Cj ((List.take out.length (List.drop 0 out)),sat))))):Cl K ops sat i out :=
 Loop.of h
theorem QFc(ops:List aH)(x:List Int)(hp:Ar ops x):aK Tryz.prog 64 [(.c (.sl aM) ops),(.c (.sl [TI]) x)] (Cj (QV ops x)):=by
 refine bz LY QJE Qsu 0 0 46 Ck (kc QOr kn) (λK =>
 (((0=0\/0+x.length<=0)/\0+x.length<=ca)/\(Cl K ops false 0 ([(List.take (0+x.length) (List.drop 0 (x:List Int)))])))) (λhb=>?_)
 obtain⟨eS,fg⟩:=hp;rw[tJ];refine⟨⟨.inl rfl,by rw[Zg];omega⟩,?_⟩;refine Zf ops (λr k=>∀(v:List (List Int))(z:Bool),v.length=k+1->(v.take k++(QV r (aq [] v k)).1,z||(QV r (aq [] v k)).2)=QV ops x->Cl (λr'=>r'=Cj (QV ops x)) ops z k v) ?_ ?_ [x] false rfl (by simp[aq])
 ·intro v z hv he;refine QqP _ _ _ _ _ ⟨λh=>by simp at h,λ_=>au ?_⟩;rw[<- he,Av];simp only[QV,Bool.or_false];rw[Aw [] hv]
 ·intro k o r hk aW hg ih v z hv he;refine QqP _ _ _ _ _ ⟨λ_=>?_,λh=>by simp at h;omega⟩;rw[Int.toNat_natCast,hg,Nat.zero_add,dP (by omega),Q8];refine⟨⟨⟨by omega,aW⟩,⟨by omega,by omega⟩,by omega⟩,room (by omega),ih _ _ (Ye hv) ?_⟩;rw[Tg [] _ hv,Th _ hv,<- he,QV];have:=Aw [] hv;simp only[Bool.or_assoc];rw[List.append_cons,this]
theorem QqC:Qf Tryz.prog Ck:=Qh λx h=>QFc x.1 x.2.1 h
def Cm(t:(List (List Int)) × (List Int) × Bool):aB:=⟨(.tp [(.r [(.sl [TI])] 0 0 ((t.1).length)),(.r [TI] 1 0 ((t.2.1).length)),(bE t.2.2)]),[(.sl 106 [(.sl [TI])] (.dp 0 true []) t.1),(.sl 3 [TI] (.dp 0 true []) t.2.1)],[],false,[]⟩
def LZ:aJ:=Qg 112 [(.c (.sl aM)),(.c (.sl [(.sl [TI])])),(.c (.sl [TI]))] λx=>(some (tI x.1 x.2.1 x.2.2.1),Cm (Q2 x.1 x.2.1 x.2.2.1))
def Cn:aF:=⟨[LQ],true⟩
def L0:af :=
 (ag [(ag [(.ae [ab 21 11,aw 22 .geq 21 (ar 0)]),(.cond 22 .skip (.exit 0))]),(.block 1 (ag [(.draw [ab 26 0,ab 27 11,aZ 28 26 27 aM,a9 29 28 4,ab 30 1,ab 31 11,aZ 32 30 31 [(.sl [TI])],ak 33 32 0,an 34 33 1,ab 35 2,aD 36 197 [29,34,35],ab 25 36,bF 37 25 0,bF 38 25 1,bF 39 25 2,ab 12 37,ab 13 38,ab 14 39] []),(.ae [ab 40 9,ab 41 11,ab 42 13,aC 43 (.build [(.n [TI])] [(0,1,42)]),aZ 44 40 41 [(.sl [TI])],aV 44 43 1]),(.ae [ab 45 12,ab 2 45]),(.ae [ab 46 10,ab 47 46,.bw 47 false [ab 48 14] 49 48,ab 10 49])])),(.ae [ab 23 11,aw 24 .sub 23 (ar 1),ab 11 24])])
def L1:List (Nat × Md):=[(0,.one .f),(1,.one .f),(2,.one .f),(9,.one .f),(10,.one .d),(11,.one .d)]
def QBV:af :=
 (ag [(.ae [ab 50 9,ab 51 2,ab 52 10,ab 6 50,ab 7 51,ab 8 52]),.ret])
def QGL:af :=
 (ag [(.ae [ab 6 (.k (.n [(.sl [TI])])),ab 7 (.k (.n [TI])),ab 8 (a6 false)]),(.ae [ab 15 0,ba 16 15,aC 17 (.mk 106 [(.sl [TI])] [(.n [TI])] 16),ab 9 17]),(.ae [ab 10 (a6 false)]),(ag [(.ae [ab 18 0,ba 19 18,aw 20 .sub 19 (ar 1),ab 11 20]),(.block 0 (.loop L1 L0))]),QBV])
def QAg:List (bn × Md):=[(.t 6,.one (.p 106)),(.t 7,.one (.p 3)),(.t 8,.one .d)]
def QxN:Qb:=TQ 0 0 QAg K
def QIY:Qb:=a0 (aN Cn 0 QBV (QxN K)) (QxN K)
def QsT:Qb:=a7 0 (QIY K)
def Co(ops:List aH)(rows:List (List Int))(out:Bool)(i:Int)(d1:List Int)(fv:List (List Int)):Prop:=Loop Cn 0 L1 L0 (QsT K) ⟨[(0,(bf aM ops)),(1,(bf [(.sl [TI])] rows)),(2,(.r [TI] 0 0 d1.length)),(9,(.r [(.sl [TI])] 1 0 fv.length)),(10,(bE out)),(11,(aL i))],[(0,(.sl 3 [TI] (.dp 0 true []) d1)),(1,(.sl 106 [(.sl [TI])] (.dp 0 true []) fv))],2⟩
def QB3(ops:List aH)(rows:List (List Int))(d:List Int):Prop:=Loop Cn 0 L1 L0 (QsT K) ⟨[(0,(bf aM ops)),(1,(bf [(.sl [TI])] rows)),(2,(bf [TI] d)),(9,(.r [(.sl [TI])] 0 0 ((List.take (Int.toNat (ops.length:Int)) (List.replicate (Int.toNat (ops.length:Int)) ([]:List Int))).length))),(10,(bE false)),(11,(aL (aG ((ops.length:Int)-1))))],[(0,(.sl 106 [(.sl [TI])] (.dp 0 true []) (List.take (Int.toNat (ops.length:Int)) (List.replicate (Int.toNat (ops.length:Int)) ([]:List Int)))))],1⟩
theorem Qtv(ops:List aH)(rows:List (List Int))(out:Bool)(i:Int)(d1:List Int)(fv:List (List Int)) (h :
 let z1:=ZU (aq b5 ops (Int.toNat i)) (aq ([]:List Int) rows (Int.toNat i)) (List.take d1.length (List.drop 0 d1))
 (aI (decide (i>=0)) (((0<=i/\Int.toNat i<ops.length)/\(0<=i/\Int.toNat i<rows.length))/\(((0<=i/\Int.toNat i<fv.length)/\((0+(Int.toNat i))<fv.length))/\(Co K ops rows (out||(z1.2.2)) (aG (i-1)) (List.take ((z1.1).length) (z1.1)) (List.take fv.length ((fv).set (0+(Int.toNat i)) (List.take ((z1.2.1).length) (List.drop 0 (z1.2.1)))))))) (K (Cm ((List.take fv.length fv),(List.take d1.length d1),out))))):Co K ops rows out i d1 fv :=
 Loop.of h
theorem QEV(ops:List aH)(rows:List (List Int))(d:List Int) (h :
 let z1:=List.take (Int.toNat (ops.length:Int)) (List.replicate (Int.toNat (ops.length:Int)) ([]:List Int))
 let z3:=aG ((ops.length:Int)-1)
 let z2:=ZU (aq b5 ops (Int.toNat z3)) (aq ([]:List Int) rows (Int.toNat z3)) d
 (aI (decide (z3>=0)) (((0<=aG ((ops.length:Int)-1)/\Int.toNat z3<ops.length)/\(0<=aG ((ops.length:Int)-1)/\Int.toNat z3<rows.length))/\(((0<=aG ((ops.length:Int)-1)/\Int.toNat z3<z1.length)/\((0+(Int.toNat z3))<z1.length))/\(Co K ops rows (false||(z2.2.2)) (aG (z3-1)) (List.take ((z2.1).length) (z2.1)) (List.take (z1.length) ((z1).set (0+(Int.toNat z3)) (List.take ((z2.2.1).length) (List.drop 0 (z2.2.1)))))))) (K (⟨(.tp [(.r [(.sl [TI])] 0 0 ((List.take (z1.length) z1).length)),(bf [TI] d),(bE false)]),[(.sl 106 [(.sl [TI])] (.dp 0 true []) (List.take (z1.length) z1))],[],true,[]⟩)))):QB3 K ops rows d :=
 Loop.of h
theorem QK6(ops:List aH)(rows:List (List Int))(d:List Int)(hp:tI ops rows d):aK Tryz.prog 112 [(.c (.sl aM) ops),(.c (.sl [(.sl [TI])]) rows),(.c (.sl [TI]) d)] (Cm (Q2 ops rows d)):=by
 refine bz Cn QGL QAg 0 0 53 LZ (kc QP0 kn) (λK =>
 ((0<=(ops.length:Int)/\(ops.length:Int)<=ca)/\(QB3 K ops rows d))) (λhb=>?_)
 obtain⟨⟨eS,fg⟩,hp3⟩:=hp;have zt:ops.length<=4294967296:=fg;refine⟨⟨by omega,by rw[gT];omega⟩,?_⟩;have key:∀ j,j<ops.length->Co (λr'=>r'=Cm (Q2 ops rows d)) ops rows ((Q2 (ops.drop j) (rows.drop j) d).2.2) ((j:Int)-1) ((Q2 (ops.drop j) (rows.drop j) d).2.1) (List.replicate j ([]:List Int)++(Q2 (ops.drop j) (rows.drop j) d).1):=by
  intro j
  induction j with
  | zero =>
   intro _;refine Qtv _ _ _ _ _ _ _ ⟨λh=>by simp at h,λ_=>au ?_⟩;simp
  | succ j ih =>
   intro hj;obtain⟨a,s,ha⟩:=Ys (l:=ops) (k:=j) (by omega);obtain⟨e,t,he⟩:=Ys (l:=rows) (k:=j) (by omega);have ja:(Q2 (ops.drop (j+1)) (rows.drop (j+1)) d).1.length=ops.length-(j+1):=by rw[Gl _ _ _ (by simp;omega)];simp
   refine Qtv _ _ _ _ _ _ _ ⟨λ_=>?_,λh=>by simp at h⟩;simp only[List.drop_zero,List.take_length];rw[show Int.toNat (((j+1:Nat):Int)-1)=j by omega,Nat.zero_add,ZJ ha,ZJ he,QF (x:=((j+1:Nat):Int)-1-1) (by omega) (by omega),Gu];have ih:=ih (by omega);rw[ha,he,<- Zz ha,<- Zz he,Q2]at ih;refine⟨⟨⟨by omega,by omega⟩,by omega,by omega⟩,⟨⟨by omega,by simp[ja];omega⟩,by simp[ja];omega⟩,?_⟩;rw[List.take_of_length_le (by simp[ja];omega),Bool.or_comm,show((j+1:Nat):Int)-1-1=(j:Int)-1 by omega];exact ih
 obtain⟨j,hj⟩:∃ j,ops.length=j+1:=⟨ops.length-1,by omega⟩
 have h0:=key j (by omega);obtain⟨a,s,ha⟩:=Ys (l:=ops) (k:=j) (by omega);obtain⟨e,t,he⟩:=Ys (l:=rows) (k:=j) (by omega);have hs:s=[]:=by rw[<- Zz ha];exact List.drop_eq_nil_of_le (by omega)
 rw[ha,hs,he]at h0;simp only[Q2,Bool.or_false]at h0;have hw:aG ((ops.length:Int)-1)=(j:Int):=by rw[QF (by omega) (by omega)];omega
 have hr:List.take ops.length (List.replicate ops.length ([]:List Int))=List.replicate (j+1) []++[]:=by rw[List.take_of_length_le (by simp),hj];simp
 refine QEV _ _ _ _ ?_
 conv=>zeta
 simp only[hw,Int.toNat_natCast,hr,Nat.zero_add,ZJ ha,ZJ he,Gu,List.take_length,List.drop_zero,Bool.false_or];rw[QF (x:=(j:Int)-1) (by omega) (by omega)];refine⟨λ_=>?_,λh=>absurd h (by simp)⟩;refine⟨⟨⟨by omega,by omega⟩,by omega,by omega⟩,⟨⟨by omega,by simp⟩,by simp⟩,?_⟩;rw[List.take_of_length_le (by simp)];exact h0
theorem QXE:Qf Tryz.prog LZ:=Qh λx h=>QK6 x.1 x.2.1 x.2.2.1 h
def Cp(t:(List (List Int)) × (List Int) × Bool):aB:=f5 (.tp [(bf [(.sl [TI])] t.1),(bf [TI] t.2.1),(bE t.2.2)])
def L2:aJ:=Qg 108 [(.c (.sl aM)),(.c (.sl [(.sl [TI])])),(.c (.sl [TI]))] λx=>(some (Gg x.1 x.2.1 x.2.2.1),Cp (Q2 x.1 x.2.1 x.2.2.1))
def L3:aF:=⟨[LR],false⟩
def Qs1:af :=
 (ag [(ag [(.ae [ab 21 11,aw 22 .geq 21 (ar 0)]),(.cond 22 .skip (.exit 0))]),(.block 1 (ag [(.draw [ab 26 0,ab 27 11,aZ 28 26 27 aM,a9 29 28 4,ab 30 1,ab 31 11,aZ 32 30 31 [(.sl [TI])],ak 33 32 0,an 34 33 1,ab 35 2,aD 36 193 [29,34,35],ab 25 36,bF 37 25 0,bF 38 25 1,bF 39 25 2,ab 12 37,ab 13 38,ab 14 39] []),(.ae [ab 40 9,ab 41 11,ab 42 13,aC 43 (.build [(.n [TI])] [(0,1,42)]),aZ 44 40 41 [(.sl [TI])],aV 44 43 1]),(.ae [ab 45 12,ab 2 45]),(.ae [ab 46 10,ab 47 46,.bw 47 false [ab 48 14] 49 48,ab 10 49])])),(.ae [ab 23 11,aw 24 .sub 23 (ar 1),ab 11 24])])
def QBj:List (Nat × Md):=[(0,.one .d),(1,.one .d),(2,.one .d),(9,.one .f),(10,.one .d),(11,.one .d)]
def QuE:af :=
 (ag [(.ae [ab 50 9,ab 51 2,ab 52 10,ab 6 50,ab 7 51,ab 8 52]),.ret])
def QKI:af :=
 (ag [(.ae [ab 6 (.k (.n [(.sl [TI])])),ab 7 (.k (.n [TI])),ab 8 (a6 false)]),(.ae [ab 15 0,ba 16 15,aC 17 (.mk 106 [(.sl [TI])] [(.n [TI])] 16),ab 9 17]),(.ae [ab 10 (a6 false)]),(ag [(.ae [ab 18 0,ba 19 18,aw 20 .sub 19 (ar 1),ab 11 20]),(.block 0 (.loop QBj Qs1))]),QuE])
def QqK:List (bn × Md):=[(.t 6,.one .d),(.t 7,.one .d),(.t 8,.one .d)]
def Qw9:Qb:=TQ 0 0 QqK K
def QFa:Qb:=a0 (aN L3 0 QuE (Qw9 K)) (Qw9 K)
def QOW:Qb:=a7 0 (QFa K)
def Cq(ops:List aH)(dm:List (List Int))(d1:List Int)(sat:Bool)(i:Int)(g:List (List Int)):Prop:=Loop L3 0 QBj Qs1 (QOW K) ⟨[(0,(bf aM ops)),(1,(bf [(.sl [TI])] dm)),(2,(bf [TI] d1)),(9,(.r [(.sl [TI])] 0 0 g.length)),(10,(bE sat)),(11,(aL i))],[(0,(.sl 106 [(.sl [TI])] .ow g))],1⟩
theorem QsQ(ops:List aH)(dm:List (List Int))(d1:List Int)(sat:Bool)(i:Int)(g:List (List Int)) (h :
 (aI (decide (i>=0)) (((0<=i/\Int.toNat i<ops.length)/\(0<=i/\Int.toNat i<dm.length))/\(((0<=i/\Int.toNat i<g.length)/\((0+(Int.toNat i))<g.length))/\(Cq K ops dm ((ZU (aq b5 ops (Int.toNat i)) (aq ([]:List Int) dm (Int.toNat i)) d1).1) (sat||((ZU (aq b5 ops (Int.toNat i)) (aq ([]:List Int) dm (Int.toNat i)) d1).2.2)) (aG (i-1)) (List.take g.length ((g).set (0+(Int.toNat i)) ((ZU (aq b5 ops (Int.toNat i)) (aq ([]:List Int) dm (Int.toNat i)) d1).2.1)))))) (K (Cp ((List.take g.length (List.drop 0 g)),d1,sat))))):Cq K ops dm d1 sat i g :=
 Loop.of h
theorem QHp(ops:List aH)(dm:List (List Int))(d:List Int)(hp:Gg ops dm d):aK Tryz.prog 108 [(.c (.sl aM) ops),(.c (.sl [(.sl [TI])]) dm),(.c (.sl [TI]) d)] (Cp (Q2 ops dm d)):=by
 refine bz L3 QKI QqK 0 0 53 L2 (kc QWY kn) (λK =>
 ((0<=(ops.length:Int)/\(ops.length:Int)<=ca)/\(Cq K ops dm d false (aG ((ops.length:Int)-1)) (List.take (Int.toNat (ops.length:Int)) (List.replicate (Int.toNat (ops.length:Int)) ([]:List Int)))))) (λhb=>?_)
 obtain⟨eS,fg⟩:=hp;have zt:ops.length<=4294967296:=fg;refine⟨⟨by omega,by rw[gT];omega⟩,?_⟩;rw[QF (x:=(ops.length:Int)-1) (by omega) (by omega),Int.toNat_natCast,List.take_of_length_le (by simp)];have key:∀ j,j<=ops.length->Cq (λr'=>r'=Cp (Q2 ops dm d)) ops dm ((Q2 (ops.drop j) (dm.drop j) d).2.1) ((Q2 (ops.drop j) (dm.drop j) d).2.2) ((j:Int)-1) (List.replicate j ([]:List Int)++(Q2 (ops.drop j) (dm.drop j) d).1):=by
  intro j
  induction j with
  | zero =>
   intro _;refine QsQ _ _ _ _ _ _ _ ⟨λh=>by simp at h,λ_=>au ?_⟩;simp
  | succ j ih =>
   intro hj;obtain⟨a,s,ha⟩:=Ys (l:=ops) (k:=j) (by omega);obtain⟨e,t,he⟩:=Ys (l:=dm) (k:=j) (by omega);have ja:(Q2 (ops.drop (j+1)) (dm.drop (j+1)) d).1.length=ops.length-(j+1):=by rw[Gl _ _ _ (by simp;omega)];simp
   refine QsQ _ _ _ _ _ _ _ ⟨λ_=>?_,λh=>by simp at h⟩;rw[show Int.toNat (((j+1:Nat):Int)-1)=j by omega,Nat.zero_add,ZJ ha,ZJ he,QF (x:=((j+1:Nat):Int)-1-1) (by omega) (by omega),Gu];have ih:=ih (by omega);rw[ha,he,<- Zz ha,<- Zz he,Q2]at ih;refine⟨⟨⟨by omega,by omega⟩,by omega,by omega⟩,⟨⟨by omega,by simp[ja];omega⟩,by simp[ja];omega⟩,?_⟩;rw[List.take_of_length_le (by simp[ja];omega),Bool.or_comm,show((j+1:Nat):Int)-1-1=(j:Int)-1 by omega];exact ih
 have h0:=key ops.length (Nat.le_refl _);rw[List.drop_length]at h0;simpa[Q2]using h0
theorem QPf:Qf Tryz.prog L2:=Qh λx h=>QHp x.1 x.2.1 x.2.2.1 h
end
end Go.Proofs.YtdplaepmjogjjaaGreat.Am

set_option linter.all false
namespace Go.Proofs.YtdplaepmjogjjaaGreat.Am
open Go Sz
def uv(m:Zx)(cB:List Int)(s:Nat):Nat:=if s=0 then 0 else if s<=cB.length then(aq 0 cB (s-1)).toNat else m.length
def Cr(m:Zx)(cB:List Int)(s:Nat):List aH:=(m.drop (uv m cB s)).take (uv m cB (s+1)-uv m cB s)
section
variable {m:Zx} {cB:List Int} (hc:rf m cB=true)
include hc
end
def Cs(m:Zx)(cB:List Int)(x:List Int)(s:Nat):List Int:=nG (m.take (uv m cB s)) x
def Qxe(m:Zx)(cB:List Int)(x:List Int)(s:Nat):List (List Int):=(QV (Cr m cB s) (Cs m cB x s)).1
def L4(m:Zx)(cB:List Int)(x:List Int)(s:Nat):Bool:=(QV (Cr m cB s) (Cs m cB x s)).2
def QU1(m:Zx)(cB:List Int)(p:Qo)(s:Nat):List (List Int) × List Int × Bool :=
 Q2 (m.drop (uv m cB s)) (QV (m.drop (uv m cB s)) (Cs m cB p.1 s)).1 (QY (nG m p.1) p.2).1
def yn(m:Zx)(cB:List Int)(p:Qo)(s:Nat):List Int:=(QU1 m cB p s).2.1
def QXM(m:Zx)(cB:List Int)(p:Qo)(s:Nat):List (List Int) × List Int × Bool:=Q2 (Cr m cB s) (Qxe m cB p.1 s) (yn m cB p (s+1))
section
variable {m:Zx} {cB:List Int} (hc:rf m cB=true)
include hc
end
end Go.Proofs.YtdplaepmjogjjaaGreat.Am
namespace Go.Proofs.YtdplaepmjogjjaaGreat.Am
open Go Sz
structure yo(c:ZK)(b:List Qo):Prop where
 model:Zc (JO c)=true
 batch:QG2 (JO c) b=true
 cB:rf (JO c) (JL c)=true
 L5:(JL c).length+1<=4
 ds:1<=F6 c/\F6 c<=2
 nC:(SB c).length=(JL c).length+1
 axo:QIF c=true
 L6:QOw c b.length=true
def l9(c:ZK):Nat:=(JL c).length+1
abbrev ic(b:List Qo)(k:Nat):Qo:=aq QW b k
section
variable {m:Zx} {cB:List Int} (hc:rf m cB=true)
include hc
variable {p:Qo} (hp:SC m p=true)
include hp
end
end Go.Proofs.YtdplaepmjogjjaaGreat.Am
namespace Go.Proofs.YtdplaepmjogjjaaGreat.Am
open Go Sz
section
variable (c:ZK) (b:List Qo)
def L7(s:Nat):Bool:=aq false (SB c) s
def yp(s:Nat):List bt:=QSV (F6 c) (l9 c:Nat) s b.length (L7 c s)
abbrev opS(s:Nat):List aH:=Cr (JO c) (JL c) s
abbrev inS(s j:Nat):List Int:=Cs (JO c) (JL c) (ic b j).1 s
abbrev yq(s j:Nat):List (List Int):=Qxe (JO c) (JL c) (ic b j).1 s
abbrev doS(s j:Nat):List Int:=yn (JO c) (JL c) (ic b j) s
abbrev L8(s j:Nat):=QXM (JO c) (JL c) (ic b j) s
abbrev nV(j:Nat):List Int:=nG (JO c) (ic b j).1
def Ct(s:Nat):Bool:=decide (s+1=l9 c)
def QHg(s:Nat)(r:List (List Int)):List (List Int):=if L7 c s then r.take 1 else r
def L9(s:Nat):Nat->List (List Int)
 | 0=>(QMX (opS c s)).1
 | g+1=>(ZE (L9 s g) (L8 c b s g).1).1
def Ma:Nat->Int
 | 0=>0
 | f+1=>(Q4 (Ma f) (Yb (nV c b f) (ic b f).2).1).1
def Mb(f:Nat):Bool:=(Yb (nV c b f) (ic b f).2).2||(Q4 (Ma c b f) (Yb (nV c b f) (ic b f).2).1).2
def QW8(s j:Nat):Bool:=L4 (JO c) (JL c) (ic b j).1 s||(Ct c s&&Mb c b j)
def QRT(s j:Nat):Bool:=(L8 c b s j).2.2||(ZE (L9 c b s j) (L8 c b s j).1).2||(Ct c s&&(QY (nV c b j) (ic b j).2).2)
def Mc(s f g:Nat):Bool:=(List.range f).any (QW8 c b s)||(List.range g).any (QRT c b s)
def QGT(s f g:Nat):List QC:=(List.range' g (f-g)).map λj:Nat=>((j:Int),QHg c s (yq c b s j))
def QRb(s g:Nat)(k1:Int):List (List Int):=if k1=5 then yq c b s g else []
def vX(s f:Nat)(k1:Int):List Int:=if k1=1 then inS c b s f else []
def vY(s f:Nat)(k1:Int):List Int:=if k1=2/\s+1<l9 c then inS c b (s+1) (f-1) else []
def vG(s g:Nat)(k1:Int):List Int:=if k1=4\/(k1=5/\s+1<l9 c) then doS c b (s+1) g else []
def vD(s g:Nat)(k1:Int):List Int:=if k1=6/\0<s then doS c b s (g-1) else []
def st(s:Nat)(k f g:Nat)(k1:Int):Qc :=
 ((k:Int),yp c b s,opS c s,Ct c s,L7 c s,QGT c b s f g,QRb c b s g k1,vX c b s f k1,vY c b s f k1,vG c b s g k1,vD c b s g k1,L9 c b s g,(if Ct c s then Ma c b f else 0),Mc c b s f g)
end
structure axu(M f g:Nat)(kk:Int):Prop where
 gf:g<=f
 fM:f<=M
 k1:kk=1->f<M
 k2:kk=2->1<=f
 k45:kk=4\/kk=5->g<f
 k6:kk=6->1<=g
section
variable {c:ZK} {b:List Qo} (A:yo c b)
include A
end
end Go.Proofs.YtdplaepmjogjjaaGreat.Am
namespace Go.Proofs.YtdplaepmjogjjaaGreat.Am
open Go Sz
structure Loc(ds n M s:Int)(rd:Bool)(f g:Nat)(k1:Int)(i:bt)(last:Bool):Prop where
 c0:g<=f/\(f:Int)<=M/\1<=i.1/\i.1<=8/\0<=i.2/\i.2<M/\(i.1=8↔last=true)/\i≠(0,0)
 c1:i.1=1->0<s/\i.2=f/\k1≠1
 c2:i.1=2->i.2=f/\(0<s->k1=1)
 c3:i.1=3->s<n-1/\i.2=(f:Int)-1/\k1=2
 c4:i.1=4->s<n-1/\i.2=g
 c5:i.1=5->rd=true/\i.2=g/\g<f/\(s<n-1->k1=4)
 c6:i.1=6->i.2=g/\g<f/\(rd=true->k1=5)/\(rd=false->s<n-1->k1=4)
 c7:i.1=7->0<s/\i.2=(g:Int)-1/\k1=6
 c8:i.1=8->(f:Int)=M/\(g:Int)=M/\k1≠0
 c9:k1=1->i.1=2
 c10:k1=2->s<n-1->i.1=3
 c11:k1=4->i.1=5\/i.1=6
 c12:k1=5->i.1=6
 c13:k1=6->0<s->i.1=7
 c14:k1=5->rd=true
 c15:k1=6->1<=g
 c16:k1=2->1<=f
 c17:k1≠8
 c18:k1=4->s<n-1
 c19:k1=1->0<s
 c20:k1=4\/k1=5->g<f
 c21:k1=1->(f:Int)<M
 c22:s<n-1->(rA f k1:Int)<M->tm ds n M s i<=tm ds n M s (3,(rA f k1:Int))
 c23:0<s->(rz f k1:Int)<M->tm ds n M s i<=tm ds n M s (1,(rz f k1:Int))
 c24:s<n-1->(rB n s g k1:Int)<M->tm ds n M s i<=tm ds n M s (4,(rB n s g k1:Int))
 c25:0<s->(Gj g k1:Int)<M->tm ds n M s i<=tm ds n M s (7,(Gj g k1:Int))
 c26:ds=2->(f:Int)-g<=n-s
 c27:ds=2->i.1=2->(f:Int)-g<n-s
section
variable (c:ZK) (b:List Qo)
def nW(s:Nat):Nat:=(yp c b s).length
def F(s k:Nat):Nat:=cf ((yp c b s).take k)
def G(s k:Nat):Nat:=cg ((yp c b s).take k)
def K1(s k:Nat):Int:=QKQ (yp c b s) k
def sc(s k:Nat):Nat:=rA (F c b s k) (K1 c b s k)
def rc(s k:Nat):Nat:=rz (F c b s k) (K1 c b s k)
def rg(s k:Nat):Nat:=rB (l9 c:Nat) (s:Int) (G c b s k) (K1 c b s k)
def sg(s k:Nat):Nat:=Gj (G c b s k) (K1 c b s k)
abbrev QqG(s:Nat):Int:=aq 0 (QPm c) s
end
section
variable {c:ZK} {b:List Qo} (A:yo c b)
include A
structure Ok(c:ZK)(b:List Qo)(ks:Nat->Nat):Prop where
 le:∀ s,s<l9 c->ks s<=nW c b s
 qa:∀ s,s+1<l9 c->rc c b (s+1) (ks (s+1))<=sc c b s (ks s)/\(sc c b s (ks s):Int)-rc c b (s+1) (ks (s+1))<=QqG c s
 qb:∀ s,s+1<l9 c->rg c b s (ks s)<=sg c b (s+1) (ks (s+1))/\(sg c b (s+1) (ks (s+1)):Int)-rg c b s (ks s)<=QqG c s
 fl:(∃ s,s<l9 c/\ks s=nW c b s)->∀ s,s<l9 c->nW c b s<=ks s+1
end
end Go.Proofs.YtdplaepmjogjjaaGreat.Am

set_option linter.all false
namespace Go.Proofs.YtdplaepmjogjjaaGreat.Am
open Go Sz
def fT(ks:Nat->Nat)(s:Nat):Nat->Nat:=λj=>if j=s then ks j+1 else ks j
section
variable {c:ZK} {b:List Qo} (A:yo c b)
include A
end
end Go.Proofs.YtdplaepmjogjjaaGreat.Am
namespace Go.Proofs.YtdplaepmjogjjaaGreat.Am
open Go Sz
section
variable {c:ZK} {b:List Qo} (A:yo c b)
include A
def left(c:ZK)(b:List Qo)(ks:Nat->Nat):Nat:=((List.range (l9 c)).map λs=>nW c b s-ks s).sum
end
end Go.Proofs.YtdplaepmjogjjaaGreat.Am
namespace Go.Proofs.YtdplaepmjogjjaaGreat.Am
open Go Sz
section
variable {c:ZK} {b:List Qo} (A:yo c b)
include A
end
end Go.Proofs.YtdplaepmjogjjaaGreat.Am

set_option linter.all false
namespace Go.Proofs.YtdplaepmjogjjaaGreat.Am
open Go Sz
section
variable {m:Zx} {cB:List Int} (hc:rf m cB=true)
include hc
end
end Go.Proofs.YtdplaepmjogjjaaGreat.Am
namespace Go.Proofs.YtdplaepmjogjjaaGreat.Am
open Go Sz
end Go.Proofs.YtdplaepmjogjjaaGreat.Am
namespace Go.Proofs.YtdplaepmjogjjaaGreat.Am
open Go Sz
def QxC(r:List Int):Int:=if 0<r.length then aG (aq 0 r (r.length-1)+1) else 1
def ext(lim:Int)(r:List Int):List (List Int):=(List.range (lim+1-QxC r).toNat).map λj:Nat=>r++[QxC r+(j:Int)]
def fill(now:List Int)(i:Nat):Nat->List Int
 | 0=>now
 | f+1=>fill (now.set i (aG (aq 0 now (i-1)+1))) (i+1) f
end Go.Proofs.YtdplaepmjogjjaaGreat.Am

set_option linter.all false
namespace Go.Proofs.YtdplaepmjogjjaaGreat.Am
open Go Sz
def JJ(s:Qc)(_:Int)(_ _:List Int):Prop:=sz s<=2147483648
def pf(s:Qc)(_:Int):Prop:=sz s<=2147483648
def pg(s:Qc)(_:Int)(_:List Int):Prop:=sz s<=2147483648
def sr(p:Qm)(_:Int):Prop:=sz p<=1073741824
theorem ZL(s:Qc):sz s=sz (Qw s)+sz (aE s)+sz (Qi s)+sz (QB s)+sz (sX s)+sz (sY s)+sz (sG s)+sz (sD s)+sz (Qz s):=by
 simp only[QP,QL,Q0];((try simp only[bU,Qw,aE,Qn,Qp,Qi,QB,sX,sY,sG,sD,Qz,Qx,bh,QA,QE,Qr,Qq]at *);omega)
theorem uw(p:Qm):sz p=sz (QA p)+sz (QE p)+sz (Qr p)+sz (Qq p):=by
 simp only[QP];((try simp only[bU,Qw,aE,Qn,Qp,Qi,QB,sX,sY,sG,sD,Qz,Qx,bh,QA,QE,Qr,Qq]at *);omega)
theorem ux{α:Type}[Sz α](d:α)(v:α):∀(l:List α)(i:Nat),sz (l.set i v)+sz (aq d l i)<=sz l+sz v+sz d
 | [],i=>by simp[aq]
 | x::l,0=>by simp only[List.set_cons_zero,Jq,Aj];omega
 | x::l,i+1=>by
  have:=ux d v l i;simp only[List.set_cons_succ,Jq,QVo];omega
theorem nX{α:Type}[Sz α](d:α)(l:List α)(i:Nat):sz (aq d l i)<=sz l+sz d:=by
 by_cases h:i<l.length
 ·have:=Ag (JA h d);omega
 ·have:aq d l i=d:=by simp[aq,List.getD_eq_getElem?_getD,List.getElem?_eq_none (Nat.le_of_not_lt h)]
  rw[this];omega
theorem kR{v:List Int}(h:QK v=true):v.length<=6:=by
 simp only[QK,Bool.and_eq_true,Za]at h;omega
theorem Y8{v:List Int}{n:Int}(h:QH v n=true):v.length<=6:=by
 simp only[QH,Bool.and_eq_true]at h;exact kR h.1
theorem Me(f:Int->Int->Int × Bool):∀(a b:List Int),(vz f a b).1.length<=a.length
 | [],b=>by simp[vz]
 | a::aa,[]=>by simp[vz]
 | a::aa,b::bb=>by simp only[vz,List.length_cons];have:=Me f aa bb;omega
theorem Qx6(f:Int->Int × Bool):∀(a:List Int),(v1 f a).1.length<=a.length
 | []=>by simp[v1]
 | a::aa=>by simp only[v1,List.length_cons];have:=Qx6 f aa;omega
theorem QzN{a b:List Int}(h:ZB a b=true):a.length<=6:=by
 simp only[ZB,Bool.and_eq_true]at h;exact kR h.1
theorem Mf(a b:List Int):(Zb a b).1.length<=6:=by
 unfold Zb
 split
 ·rename_i h;have:=Me Q4 a b;have:=QzN h;omega
 ·simp
theorem QtQ(c:Int)(a:List Int):(Zy c a).1.length<=6:=by
 unfold Zy
 split
 ·rename_i h;simp only[Bool.and_eq_true]at h;have:=Qx6 (Q9 c) a;have:=kR h.2;omega
 ·simp
theorem QGW(a:List Int):(Yd a).length<=6:=by
 unfold Yd
 split
 ·rename_i h;simp;exact kR h
 ·simp
theorem QHU(x d:List Int):(Z9 x d).length<=6:=by
 unfold Z9
 split
 ·rename_i h;have:=QzN h;simp;omega
 ·simp
theorem QO0(m:cc)(x:List Int):(Q6 m x).1.length<=6:=by
 unfold Q6
 split
 ·rename_i h;simp only[Bool.and_eq_true,Zo,Za]at h;simp;omega
 ·simp
theorem QHW(m:cc)(x:List Int):(Zs m x).1.length<=6:=by
 unfold Zs
 split
 ·rename_i h;simp only[Bool.and_eq_true,Zo,Za]at h;simp;omega
 ·simp
theorem yr(o:aH)(x:List Int):(ZY o x).1.length<=6:=by
 unfold ZY
 split
 ·split
  ·exact QO0 _ _
  ·split
   ·exact Mf _ _
   ·split
    ·exact QtQ _ _
    ·split
     ·exact Mf _ _
     ·exact QGW _
 ·simp
theorem Mg(o:aH)(x d:List Int):(ZU o x d).1.length<=6:=by
 unfold ZU
 split
 ·rename_i h;simp only[Bool.and_eq_true]at h
  split
  ·exact QHW _ _
  ·split
   ·exact Y8 h.2
   ·split
    ·exact QtQ _ _
    ·split
     ·exact Mf _ _
     ·exact QHU _ _
 ·simp
theorem QTW:∀(ops:List aH)(rows:List (List Int))(d:List Int),(Q2 ops rows d).2.1.length<=6+d.length
 | [],rows,d=>by simp[Q2]
 | o::os,[],d=>by simp[Q2]
 | o::os,r::rs,d=>by simp only[Q2];have:=Mg o r (Q2 os rs d).2.1;omega
theorem yt:∀(ops:List aH)(x:List Int),sz (QV ops x).1<=1+x.length+7*ops.length
 | [],x=>by simp only[QV,Jq,ZH,List.length_nil];have:sz ([]:List (List Int))=0:=rfl;omega
 | o::r,x=>by
  have h1:=yt r (ZY o x).1;have h2:=yr o x;simp only[QV,Jq,ZH,List.length_cons];omega
theorem QyU:∀(a b:List (List Int)),sz (ZE a b).1<=sz a
 | [],b=>by simp[ZE]
 | a::aa,[]=>by simp only[ZE];exact Nat.zero_le _
 | a::aa,b::bb=>by
  have h1:=QyU aa bb;have h2:=Me Q4 a b;simp only[ZE,Jq,ZH];omega
theorem YN{s:Qc}(h:QU s=true):Zc (aE s)=true:=by
 simp only[QU,Bool.and_eq_true]at h;exact h.1.1.1.1
theorem Qve{s:Qc}(h:QU s=true):(aE s).length<=8:=(Yw (YN h)).2
theorem Qyg{s:Qc}(h:QU s=true):0<=bU s/\bU s<=(Qw s).length:=by
 simp only[QU,Bool.and_eq_true,Za]at h;exact h.1.1.1.2
theorem Mh{s:Qc}(h:QU s=true):∀ x,x∈Qi s->Yf s x=true:=by
 simp only[QU,Bool.and_eq_true,List.all_eq_true]at h;exact h.1.2
theorem QAE{s:Qc}(h:QU s=true):(Qz s).length=(aE s).length/\YV (aE s) (Qz s)=true:=by
 simp only[QU,Bool.and_eq_true,YR,beq_iff_eq]at h;exact h.1.1.2
theorem Mi{s:Qc}{x:QC}(h:QU s=true)(hx:Yf s x=true):1<=x.2.length/\(x.2.length:Int)=ZI s/\QH (aq [] x.2 0) (ZO (aE s))=true:=by
 simp only[Yf,Bool.and_eq_true,beq_iff_eq]at hx;obtain⟨h1,h2⟩:=hx;have h3:1<=x.2.length:=by unfold ZI at h1;split at h1 <;> omega
 refine⟨h3,h1,?_⟩;unfold ZQ at h2;rw[<- h1,Int.toNat_natCast,List.take_length]at h2
 cases hr:x.2 with
 | nil=>rw[hr]at h3;simp at h3
 | cons r rs =>
  rw[hr]at h2;simp only[YG,Bool.and_eq_true]at h2;have hm:=YN h;have hl:=Yw hm;have:YU (aE s) 0=ZO (aE s):=by
   unfold YU ZO;rw[if_pos (by omega),if_pos hm]
  rw[Aj,<- this];exact h2.1
theorem QqM:∀(l:List QC)(m k:Int),0<=k->Jt l m k<k+l.length/\-1<=Jt l m k
 | [],m,k,hk=>by simp only[Jt,List.length_nil];omega
 | x::r,m,k,hk=>by
  have:=QqM r m (k+1) (by omega);simp only[Jt,List.length_cons]
  split <;> omega
theorem yu(l:List QC)(m:Int):QJ l m<l.length/\-1<=QJ l m:=by
 have:=QqM l m 0 (Int.le_refl _);unfold QJ;omega
theorem QEE(s:Qc)(m:Int)(x t:List Int):sz (ZV s m x t)<=sz s+100:=by
 unfold ZV
 split
 ·rename_i h;simp only[Y7,Bool.and_eq_true]at h;have h1:=Qve h.1.1.1;have h2:=Y8 h.1.1.2;have h3:=yt (aE s) x;have h4:=nX [] (QV (aE s) x).1 (aE s).length;have h5:sz (if Qp s=true then List.take 1 (QV (aE s) x).1 else(QV (aE s) x).1)<=sz (QV (aE s) x).1:=by
   split
   ·exact F4 _ _
   ·exact Nat.le_refl _
  have h6:sz (if Qn s=true then sY s else aq [] (QV (aE s) x).1 (aE s).length)<=sz (sY s)+sz (aq [] (QV (aE s) x).1 (aE s).length):=by
   split <;> ((try simp only[bU,Qw,aE,Qn,Qp,Qi,QB,sX,sY,sG,sD,Qz,Qx,bh,QA,QE,Qr,Qq]at *);omega)
  have h7:(aq [] (QV (aE s) x).1 (aE s).length).length<=6:=by
   have:aq [] (QV (aE s) x).1 (aE s).length=nG (aE s) x:=rfl;rw[this];have hv:∀(ops:List aH)(x:List Int),x.length<=6->(nG ops x).length<=6:=by
    intro ops
    induction ops with
    | nil=>intro x hx;rw[QXX];exact hx
    | cons o r ih=>intro x hx;rw[QN0];exact ih _ (yr o x)
   exact hv _ _ h2
  have h8:=ZH (aq [] (QV (aE s) x).1 (aE s).length);have e:sz ([]:List Int)=0:=rfl;rw[ZL,ZL s];have e3:sz ([]:List QC)=0:=rfl;simp only[Qi,sX,Af,Jq,YJ,QL,e,e3];have e2:sz ([]:List QC)=0:=rfl
  ((try simp only[bU,Qw,aE,Qn,Qp,Qi,QB,sX,sY,sG,sD,Qz,Qx,bh,QA,QE,Qr,Qq]at *);omega)
 ·((try simp only[bU,Qw,aE,Qn,Qp,Qi,QB,sX,sY,sG,sD,Qz,Qx,bh,QA,QE,Qr,Qq]at *);omega)
theorem QTw(s:Qc)(m:Int):sz (Yn s m)<=sz s+100:=by
 unfold Yn;simp only
 split
 ·rename_i h;simp only[Bool.and_eq_true,decide_eq_true_eq]at h;have h1:=Qve h.1;have hf:=yu (Qi s) m;have hk:(QJ (Qi s) m).toNat<(Qi s).length:=by((try simp only[bU,Qw,aE,Qn,Qp,Qi,QB,sX,sY,sG,sD,Qz,Qx,bh,QA,QE,Qr,Qq]at *);omega)
  have h2:=Y8 (Mi h.1 (Mh h.1 _ (JA hk QS))).2.2;have h3:=yt (aE s) (aq [] (aq QS (Qi s) (QJ (Qi s) m).toNat).2 0);rw[ZL,ZL s]
  ((try simp only[bU,Qw,aE,Qn,Qp,Qi,QB,sX,sY,sG,sD,Qz,Qx,bh,QA,QE,Qr,Qq]at *);omega)
 ·((try simp only[bU,Qw,aE,Qn,Qp,Qi,QB,sX,sY,sG,sD,Qz,Qx,bh,QA,QE,Qr,Qq]at *);omega)
theorem QNF(s:Qc)(m:Int)(t:List Int):sz (ZD s m t)<=sz s+100:=by
 unfold ZD;simp only
 split
 ·rename_i h;simp only[Yx,Bool.and_eq_true]at h;have h1:=Y8 h.2;have h2:=QTW (aE s) (Zq s (QJ (Qi s) m)) (eM s (QJ (Qi s) m) t).1;have h3:=QyU (lW s).1 (Q2 (aE s) (Zq s (QJ (Qi s) m)) (eM s (QJ (Qi s) m) t).1).1;have h4:=F3 (Qi s) (QJ (Qi s) m).toNat
  have h5:sz (List.drop ((QJ (Qi s) m).toNat+1) (Qi s))<=sz (List.drop (QJ (Qi s) m).toNat (Qi s)):=by
   rw[<- List.drop_drop];exact QPh _ _
  have h6:=ZH (Q2 (aE s) (Zq s (QJ (Qi s) m)) (eM s (QJ (Qi s) m) t).1).2.1;have e:sz ([]:List Int)=0:=rfl;have e2:sz ([]:List (List Int))=0:=rfl;rw[ZL,ZL s];simp only[Qi,QB,sG,Qz,Af,e,e2,ZZ]
  ((try simp only[bU,Qw,aE,Qn,Qp,Qi,QB,sX,sY,sG,sD,Qz,Qx,bh,QA,QE,Qr,Qq]at *);omega)
 ·((try simp only[bU,Qw,aE,Qn,Qp,Qi,QB,sX,sY,sG,sD,Qz,Qx,bh,QA,QE,Qr,Qq]at *);omega)
theorem QrU(q:Qd):sz (Ze q).1+sz (Ze q).2.1.2<=sz q:=by
 unfold Ze
 split
 ·rename_i h;simp only[Bool.and_eq_true,decide_eq_true_eq]at h;obtain⟨c,l⟩:=q
  cases l with
  | nil=>simp at h
  | cons x l=>simp only[List.tail_cons,Aj,YJ,QL,Jq];rw[QP x,QL];((try simp only[bU,Qw,aE,Qn,Qp,Qi,QB,sX,sY,sG,sD,Qz,Qx,bh,QA,QE,Qr,Qq]at *);omega)
 ·have:sz ([]:List Int)=0:=rfl;simp only;((try simp only[bU,Qw,aE,Qn,Qp,Qi,QB,sX,sY,sG,sD,Qz,Qx,bh,QA,QE,Qr,Qq]at *);omega)
theorem Qyi(q:Qd)(x:Ql):sz (Z4 q x).1<=sz q+1+sz x.2:=by
 unfold Z4
 split
 ·have:sz ([]:List Ql)=0:=rfl;simp only[YJ,Af,Jq,QL];rw[QP q,QL,QP x,QL];((try simp only[bU,Qw,aE,Qn,Qp,Qi,QB,sX,sY,sG,sD,Qz,Qx,bh,QA,QE,Qr,Qq]at *);omega)
 ·simp only;((try simp only[bU,Qw,aE,Qn,Qp,Qi,QB,sX,sY,sG,sD,Qz,Qx,bh,QA,QE,Qr,Qq]at *);omega)
theorem QSM(p:Qm)(k:Nat)(x:Qc)(i:bt):sz (ZM p k x i).1+sz (ZM p k x i).2.1+sz (ZM p k x i).2.2<=sz x+sz (Qr p)+sz (Qq p)+100:=by
 have e:sz ([]:List Int)=0:=rfl;have ed:sz Qv=0:=rfl;unfold ZM;simp only
 split
 ·have h1:=QrU (aq Qv (Qr p) (k-1));have h2:=ux Qv (Ze (aq Qv (Qr p) (k-1))).1 (Qr p) (k-1);have h3:sz (kM x (Ze (aq Qv (Qr p) (k-1))).2.1.2)<=sz x+sz (Ze (aq Qv (Qr p) (k-1))).2.1.2:=by
   rw[ZL,ZL x];simp only[kM];((try simp only[bU,Qw,aE,Qn,Qp,Qi,QB,sX,sY,sG,sD,Qz,Qx,bh,QA,QE,Qr,Qq]at *);omega)
  simp only;((try simp only[bU,Qw,aE,Qn,Qp,Qi,QB,sX,sY,sG,sD,Qz,Qx,bh,QA,QE,Qr,Qq]at *);omega)
 split
 ·have h:=QEE x i.2 (if k=0 then(aq QW (QA p) i.2.toNat).1 else sX x) (aq QW (QA p) i.2.toNat).2;simp only;((try simp only[bU,Qw,aE,Qn,Qp,Qi,QB,sX,sY,sG,sD,Qz,Qx,bh,QA,QE,Qr,Qq]at *);omega)
 split
 ·have h1:=Qyi (aq Qv (Qr p) k) (i.2,sY x);have h2:=ux Qv (Z4 (aq Qv (Qr p) k) (i.2,sY x)).1 (Qr p) k;have h3:sz (kN x [])+sz (sY x)=sz x:=by rw[ZL,ZL x];simp only[kN,e];((try simp only[bU,Qw,aE,Qn,Qp,Qi,QB,sX,sY,sG,sD,Qz,Qx,bh,QA,QE,Qr,Qq]at *);omega)
  simp only at h1 ⊢;((try simp only[bU,Qw,aE,Qn,Qp,Qi,QB,sX,sY,sG,sD,Qz,Qx,bh,QA,QE,Qr,Qq]at *);omega)
 split
 ·have h1:=QrU (aq Qv (Qq p) k);have h2:=ux Qv (Ze (aq Qv (Qq p) k)).1 (Qq p) k;have h3:sz (kO x (Ze (aq Qv (Qq p) k)).2.1.2)<=sz x+sz (Ze (aq Qv (Qq p) k)).2.1.2:=by
   rw[ZL,ZL x];simp only[kO];((try simp only[bU,Qw,aE,Qn,Qp,Qi,QB,sX,sY,sG,sD,Qz,Qx,bh,QA,QE,Qr,Qq]at *);omega)
  simp only;((try simp only[bU,Qw,aE,Qn,Qp,Qi,QB,sX,sY,sG,sD,Qz,Qx,bh,QA,QE,Qr,Qq]at *);omega)
 split
 ·have h:=QTw x i.2;simp only;((try simp only[bU,Qw,aE,Qn,Qp,Qi,QB,sX,sY,sG,sD,Qz,Qx,bh,QA,QE,Qr,Qq]at *);omega)
 split
 ·have h:=QNF x i.2 (aq QW (QA p) i.2.toNat).2;have h3:∀ y:Qc,sz (gr y [])<=sz y:=by intro y;rw[ZL,ZL y];simp only[gr,e];((try simp only[bU,Qw,aE,Qn,Qp,Qi,QB,sX,sY,sG,sD,Qz,Qx,bh,QA,QE,Qr,Qq]at *);omega)
  have h4:=h3 (ZD x i.2 (aq QW (QA p) i.2.toNat).2);simp only
  split <;> ((try simp only[bU,Qw,aE,Qn,Qp,Qi,QB,sX,sY,sG,sD,Qz,Qx,bh,QA,QE,Qr,Qq]at *);omega)
 split
 ·have h1:=Qyi (aq Qv (Qq p) (k-1)) (i.2,sD x);have h2:=ux Qv (Z4 (aq Qv (Qq p) (k-1)) (i.2,sD x)).1 (Qq p) (k-1);have h3:sz (gr x [])+sz (sD x)=sz x:=by rw[ZL,ZL x];simp only[gr,e];((try simp only[bU,Qw,aE,Qn,Qp,Qi,QB,sX,sY,sG,sD,Qz,Qx,bh,QA,QE,Qr,Qq]at *);omega)
  simp only at h1 ⊢;((try simp only[bU,Qw,aE,Qn,Qp,Qi,QB,sX,sY,sG,sD,Qz,Qx,bh,QA,QE,Qr,Qq]at *);omega)
 ·simp only;((try simp only[bU,Qw,aE,Qn,Qp,Qi,QB,sX,sY,sG,sD,Qz,Qx,bh,QA,QE,Qr,Qq]at *);omega)
theorem QKb(p:Qm)(s:Int):sz (ZA p s)<=sz p+100:=by
 unfold ZA
 split
 ·have h1:=QSM p s.toNat (aq Qy (QE p) s.toNat) (Qk p s)
  have h2:=ux Qy (Gh (ZM p s.toNat (aq Qy (QE p) s.toNat) (Qk p s)).1 (bU (aq Qy (QE p) s.toNat)+1)) (QE p) s.toNat
  have h3:∀(y:Qc)(v:Int),sz (Gh y v)=sz y:=by intro y v;rw[ZL,ZL y];rfl
  rw[h3]at h2;have ed:sz Qy=0:=rfl;rw[uw,uw p];simp only
  ((try simp only[bU,Qw,aE,Qn,Qp,Qi,QB,sX,sY,sG,sD,Qz,Qx,bh,QA,QE,Qr,Qq]at *);omega)
 ·((try simp only[bU,Qw,aE,Qn,Qp,Qi,QB,sX,sY,sG,sD,Qz,Qx,bh,QA,QE,Qr,Qq]at *);omega)
end Go.Proofs.YtdplaepmjogjjaaGreat.Am
namespace Go.Proofs.YtdplaepmjogjjaaGreat.Am
open Go Sz
theorem Mj(a b:Int):decide (a>=b) = !decide (a<b):=by
 rw[Bool.eq_iff_iff];simp
theorem Ml{s:Qc}{m:Int}{x t:List Int}(h:¬ Y7 s m x t=true):ZV s m x t=s:=by unfold ZV;rw[if_neg h]
theorem QCm{s:Qc}{m:Int}(h:¬ (QU s&&decide (0<=QJ (Qi s) m))=true):Yn s m=s:=by unfold Yn;simp only;rw[if_neg h]
theorem QCJ{s:Qc}{m:Int}{t:List Int}(h:¬ Yx s (QJ (Qi s) m) t=true):ZD s m t=s:=by unfold ZD;simp only;rw[if_neg h]
theorem QMp{m:Zx}(h:Zc m=true):ZO m=(aq b5 m 0).2.1:=by unfold ZO;rw[if_pos h]
theorem QrO{m:Zx}(h:Zc m=true):Zu m=(aq b5 m (m.length-1)).2.2.1:=by unfold Zu;rw[if_pos h]
theorem QzF(s:Qc)(m:Int)(x t:List Int):Y7 s m x t=(!(((!(QU s))||(!(QH x (ZO (Zn s)))))||decide (QJ s.2.2.2.2.2.1 m>=0))&&!(s.2.2.2.1&&(!(QH t (Zu (Zn s)))))):=by
 unfold Y7;rw[Mj];show(QU s&&QH x (ZO (Zn s))&&decide (QJ s.2.2.2.2.2.1 m<0)&&(!s.2.2.2.1||QH t (Zu (Zn s))))=_
 cases QU s <;> cases QH x (ZO (Zn s)) <;> cases decide (QJ s.2.2.2.2.2.1 m<0) <;> cases s.2.2.2.1 <;> cases QH t (Zu (Zn s)) <;> rfl
theorem QLj(s:Qc)(m:Int)(x t:List Int)(k:Nat)(hk:QU s=true->k=s.2.2.1.length-1) :
  (((((!(QU s))||(!(QK x)))||((x.length:Int) != ((aq b5 s.2.2.1 0).2.1)))||decide (QJ s.2.2.2.2.2.1 m>=0))||(s.2.2.2.1&&((!(QK t))||((t.length:Int) != ((aq b5 s.2.2.1 k).2.2.1))))) = !Y7 s m x t:=by
 rw[QzF,Mj]
 cases hs:QU s
 ·rfl
 ·have hm:=YN hs;rw[hk hs,show Zn s=s.2.2.1 from rfl,QMp hm,QrO hm];unfold QH;simp only[bne]
  cases QK x <;> cases((x.length:Int)==(aq b5 s.2.2.1 0).2.1) <;> cases decide (QJ s.2.2.2.2.2.1 m<0) <;> cases s.2.2.2.1 <;> cases QK t <;> cases((t.length:Int)==(aq b5 s.2.2.1 (s.2.2.1.length-1)).2.2.1) <;> rfl
theorem Cu(s:Qc)(m:Int):((!(QU s))||decide (QJ s.2.2.2.2.2.1 m<0)) = !(QU s&&decide (0<=QJ s.2.2.2.2.2.1 m)):=by
 have:=Mj (QJ s.2.2.2.2.2.1 m) 0;rw[show decide (0<=QJ s.2.2.2.2.2.1 m)=decide (QJ s.2.2.2.2.2.1 m>=0) from rfl,this]
 cases QU s <;> cases decide (QJ s.2.2.2.2.2.1 m<0) <;> rfl
theorem QvQ{s:Qc}{m:Int}{x t:List Int}(h:Y7 s m x t=true):ZV s m x t =
  (bU s,Qw s,aE s,Qn s,Qp s,Qi s++[(m,if Qp s then(QV (aE s) x).1.take 1 else(QV (aE s) x).1)],QB s,[],(if Qn s then sY s else aq [] (QV (aE s) x).1 (aE s).length),sG s,sD s,Qz s,
   (if Qn s then(Q4 (Qx s) (Yb (aq [] (QV (aE s) x).1 (aE s).length) t).1).1 else Qx s),
   (bh s||(QV (aE s) x).2||(Qn s&&((Yb (aq [] (QV (aE s) x).1 (aE s).length) t).2||(Q4 (Qx s) (Yb (aq [] (QV (aE s) x).1 (aE s).length) t).1).2)))):=by
 unfold ZV;rw[if_pos h]
theorem yv{s:Qc}{m:Int}{t:List Int}{rows:List (List Int)}{d:List Int}{b:Bool}(h:Yx s (QJ (Qi s) m) t=true)(hr:rows=Zq s (QJ (Qi s) m))(hd:(d,b)=eM s (QJ (Qi s) m) t):ZD s m t =
  (bU s,Qw s,aE s,Qn s,Qp s,(Qi s).take (QJ (Qi s) m).toNat++(Qi s).drop ((QJ (Qi s) m).toNat+1),[],sX s,sY s,[],(Q2 (aE s) rows d).2.1,
   (ZZ (lW s) ((Q2 (aE s) rows d).1,0,b||(Q2 (aE s) rows d).2.2)).1,(ZZ (lW s) ((Q2 (aE s) rows d).1,0,b||(Q2 (aE s) rows d).2.2)).2.1,(ZZ (lW s) ((Q2 (aE s) rows d).1,0,b||(Q2 (aE s) rows d).2.2)).2.2):=by
 unfold ZD;simp only;rw[if_pos h,<- hr,<- hd]
theorem JB(s:Qc)(k:Int)(t:List Int):Yx s k t=(QU s&&decide (0<=k)&&((Zq s k).length==(aE s).length+1)&&ZQ (aE s) (Zq s k) (aE s).length&&QH (eM s k t).1 (Zu (aE s))):=rfl
theorem yw{α:Type}{l:List α}{k:Nat}(hk:k<l.length):List.take (k+(List.take (l.length-(k+1)) (List.drop (k+1) l)).length) (List.take k l++List.take (l.length-(k+1)) (List.drop (k+1) l))=List.take k l++List.drop (k+1) l:=by
 have e:List.take (l.length-(k+1)) (List.drop (k+1) l)=List.drop (k+1) l:=List.take_of_length_le (by simp);rw[e];exact List.take_of_length_le (by simp;omega)
theorem QwO(f:Int->Int->Int)(x:List Int):∀ d:List Int,(d.flatMap λa=>x.map (f a)).length=d.length*x.length
 | []=>by simp
 | a::d=>by rw[List.flatMap_cons,List.length_append,QwO f x d,List.length_map,List.length_cons,Nat.add_mul];omega
theorem QB5(d x:List Int):(Zm d x).1.2.2.length<=36:=by
 unfold Zm
 split
 ·rename_i h;simp only[Bool.and_eq_true]at h;have h1:=kR h.1;have h2:=kR h.2;simp only;rw[QwO (λa b=>(Q9 a b).1) x d];exact Nat.le_trans (Nat.mul_le_mul h1 h2) (by omega)
 ·simp
theorem QKh(o:aH)(x d:List Int):(ZU o x d).2.1.length<=36:=by
 unfold ZU
 split
 ·rename_i h;simp only[Bool.and_eq_true]at h
  split
  ·exact QB5 _ _
  ·split
   ·exact Nat.le_trans (Y8 h.2) (by omega)
   ·split
    ·simp
    ·split
     ·exact QB5 _ _
     ·simp
 ·simp
theorem uy:∀(ops:List aH)(rows:List (List Int))(d:List Int),sz (Q2 ops rows d).1<=37*ops.length
 | [],rows,d=>by simp[Q2]
 | o::os,[],d=>by simp only[Q2];exact Nat.zero_le _
 | o::os,r::rs,d=>by
  have h1:=QKh o r (Q2 os rs d).2.1;have h2:=uy os rs d;simp only[Q2,Jq,ZH,List.length_cons];omega
theorem QQj{ops:List aH}{rows:List (List Int)}{k:Nat}(hk:k<ops.length)(hr:k<rows.length) :
  YG ops k ((rows.drop k).take (ops.length-k))=(QH (aq [] rows k) (aq b5 ops k).2.1&&YG ops (k+1) ((rows.drop (k+1)).take (ops.length-(k+1)))):=by
 rw[List.drop_eq_getElem_cons hr,show ops.length-k=(ops.length-(k+1))+1 by omega,List.take_succ_cons,YG];have:aq [] rows k=rows[k]:=Ai (List.getElem?_eq_getElem hr) _;rw[<- this];unfold YU;rw[if_pos hk]
end Go.Proofs.YtdplaepmjogjjaaGreat.Am
namespace Go.Proofs.YtdplaepmjogjjaaGreat.Am
open Go Sz
theorem Qyj{nb:Int}:∀ {l:List Qc},Ja nb l=true->∀ x,x∈l->QU x=true/\∀ i,i∈x.2.1->0<=i.2/\i.2<nb
 | [],_,x,hx=>by cases hx
 | s::r,h,x,hx=>by
  simp only[Ja,Bool.and_eq_true,List.all_eq_true,Za]at h
  rcases List.mem_cons.1 hx with rfl | hx
  ·exact⟨h.1.1.1,λi hi=>by have:=h.1.2 i hi;omega⟩
  ·exact Qyj h.2 x hx
theorem QA7{p:Qm}{s:Int}(he:ZG p s=true):∃ k:Nat,s=k/\k<p.2.1.length/\p.2.1.length<=4/\p.2.2.1.length+1=p.2.1.length/\p.2.2.2.length+1=p.2.1.length/\QU (aq Qy p.2.1 k)=true/\
  0<=(Qk p s).2/\(Qk p s).2<p.1.length/\((Qk p s).1=1->0<k)/\((Qk p s).1=3->k+1<p.2.1.length)/\((Qk p s).1=4->k+1<p.2.1.length)/\((Qk p s).1=7->0<k)/\
  ((Qk p s).1=1\/(Qk p s).1=2\/(Qk p s).1=3\/(Qk p s).1=4\/(Qk p s).1=5\/(Qk p s).1=6\/(Qk p s).1=7\/(Qk p s).1=8):=by
 simp only[ZG,Bool.and_eq_true]at he;obtain⟨⟨h1,h2⟩,h3⟩:=he;simp only[Zk,Bool.and_eq_true,Za,beq_iff_eq]at h1;have kB:=Za.1 h2;obtain⟨k,rfl⟩:=Int.eq_ofNat_of_zero_le kB.1;have hk:k<p.2.1.length:=by omega
 have hg:=Qyj h1.2.2 _ (JA hk Qy);have gU:(Qk p (k:Int)).1=1\/(Qk p (k:Int)).1=2\/(Qk p (k:Int)).1=3\/(Qk p (k:Int)).1=4\/(Qk p (k:Int)).1=5\/(Qk p (k:Int)).1=6\/(Qk p (k:Int)).1=7\/(Qk p (k:Int)).1=8:=by
  generalize(Qk p (k:Int)).1=kd at h3;unfold Jm at h3;simp only at h3
  split at h3
  ·omega
  split at h3
  ·omega
  split at h3
  ·omega
  split at h3
  ·omega
  split at h3
  ·omega
  split at h3
  ·omega
  ·cases h3
 have hM:0<=(Qk p (k:Int)).2/\(Qk p (k:Int)).2<p.1.length:=by
  have hn:Qk p (k:Int)=rh (aq Qy p.2.1 k):=by
   unfold Qk;rw[if_pos h2,Int.toNat_natCast]
  rw[hn]at gU ⊢;unfold rh at gU ⊢
  split
  ·rename_i ph;have ph:=Za.1 ph;exact hg.2 _ (JA (by omega) eF)
  ·rename_i ph;rw[if_neg ph]at gU;simp at gU
 refine⟨k,rfl,hk,by omega,by omega,by omega,hg.1,hM.1,hM.2,?_,?_,?_,?_,gU⟩
 all_goals
  intro y7;rw[y7]at h3;simp[Jm]at h3;omega
theorem QDK{p:Qm}{s:Int}(h:ZG p s=false):ZA p s=p:=by unfold ZA;rw[if_neg (by rw[h];simp)]
theorem QCj{p:Qm}{k:Nat}{x y:Qc}{a b:List Qd}(h:ZG p (k:Int)=true)(hx:x=aq Qy p.2.1 k)(hy:ZM p k x (Qk p (k:Int))=(y,a,b))(ph:y.1=x.1) :
  ZA p (k:Int)=(p.1,p.2.1.set k (y.1+1,y.2),a,b):=by
 unfold ZA;rw[if_pos h];simp only[Int.toNat_natCast];rw[show aq Qy (QE p) k=x from hx.symm,hy];simp only;rw[ph];rfl
theorem Mm(s:Qc)(m:Int)(x t:List Int):(ZV s m x t).1=s.1:=by unfold ZV;split <;> rfl
theorem QwX(s:Qc)(m:Int):(Yn s m).1=s.1:=by unfold Yn;simp only;split <;> rfl
theorem Cv(s:Qc)(m:Int)(t:List Int):(ZD s m t).1=s.1:=by unfold ZD;simp only;split <;> rfl
theorem pi1{p:Qm}{k:Nat}{x:Qc}{i:bt}(h:i.1=1):ZM p k x i=(kM x (Ze (aq Qv (Qr p) (k-1))).2.1.2,(Qr p).set (k-1) (Ze (aq Qv (Qr p) (k-1))).1,Qq p):=by
 unfold ZM;simp only[h];simp
theorem Mn{p:Qm}{k:Nat}{x:Qc}{i:bt}(h:i.1=2):ZM p k x i=(ZV x i.2 (if k=0 then(aq QW (QA p) i.2.toNat).1 else sX x) (aq QW (QA p) i.2.toNat).2,Qr p,Qq p):=by
 unfold ZM;simp only[h];simp
theorem pi3{p:Qm}{k:Nat}{x:Qc}{i:bt}(h:i.1=3):ZM p k x i=(kN x [],(Qr p).set k (Z4 (aq Qv (Qr p) k) (i.2,sY x)).1,Qq p):=by
 unfold ZM;simp only[h];simp
theorem pi4{p:Qm}{k:Nat}{x:Qc}{i:bt}(h:i.1=4):ZM p k x i=(kO x (Ze (aq Qv (Qq p) k)).2.1.2,Qr p,(Qq p).set k (Ze (aq Qv (Qq p) k)).1):=by
 unfold ZM;simp only[h];simp
theorem pi5{p:Qm}{k:Nat}{x:Qc}{i:bt}(h:i.1=5):ZM p k x i=(Yn x i.2,Qr p,Qq p):=by
 unfold ZM;simp only[h];simp
theorem Cw{p:Qm}{k:Nat}{x:Qc}{i:bt}(h:i.1=6):ZM p k x i=((if k=0 then gr (ZD x i.2 (aq QW (QA p) i.2.toNat).2) [] else ZD x i.2 (aq QW (QA p) i.2.toNat).2),Qr p,Qq p):=by
 unfold ZM;simp only[h];simp
theorem pi7{p:Qm}{k:Nat}{x:Qc}{i:bt}(h:i.1=7):ZM p k x i=(gr x [],Qr p,(Qq p).set (k-1) (Z4 (aq Qv (Qq p) (k-1)) (i.2,sD x)).1):=by
 unfold ZM;simp only[h];simp
theorem pi8{p:Qm}{k:Nat}{x:Qc}{i:bt}(h:i.1=8):ZM p k x i=(x,Qr p,Qq p):=by
 unfold ZM;simp only[h];simp
end Go.Proofs.YtdplaepmjogjjaaGreat.Am

namespace Go.Proofs.YtdplaepmjogjjaaGreat.Am
open Go Go.RowKit Go.Proofs.YtdplaepmjogjjaaGreat
set_option linter.all false
set_option maxHeartbeats 2000000
noncomputable section
variable (K:aB->Prop)
def uz(t:Qc):aB:=⟨(.a [(aL t.1),(.r QO 0 0 ((t.2.1).length)),(.r aM 1 0 ((t.2.2.1).length)),(bE t.2.2.2.1),(bE t.2.2.2.2.1),(.r QD 2 0 ((t.2.2.2.2.2.1).length)),(.r [(.sl [TI])] 3 0 ((t.2.2.2.2.2.2.1).length)),(.r [TI] 4 0 ((t.2.2.2.2.2.2.2.1).length)),(.r [TI] 5 0 ((t.2.2.2.2.2.2.2.2.1).length)),(.r [TI] 6 0 ((t.2.2.2.2.2.2.2.2.2.1).length)),(.r [TI] 7 0 ((t.2.2.2.2.2.2.2.2.2.2.1).length)),(.r [(.sl [TI])] 8 0 ((t.2.2.2.2.2.2.2.2.2.2.2.1).length)),(aL t.2.2.2.2.2.2.2.2.2.2.2.2.1),(bE t.2.2.2.2.2.2.2.2.2.2.2.2.2)]),[(.sl 175 QO (.dp 0 true []) t.2.1),(.sl 134 aM (.dp 0 true []) t.2.2.1),(.sl 108 QD (.dp 0 true []) t.2.2.2.2.2.1),(.sl 106 [(.sl [TI])] (.dp 0 true []) t.2.2.2.2.2.2.1),(.sl 3 [TI] (.dp 0 true []) t.2.2.2.2.2.2.2.1),(.sl 3 [TI] (.dp 0 true []) t.2.2.2.2.2.2.2.2.1),(.sl 3 [TI] (.dp 0 true []) t.2.2.2.2.2.2.2.2.2.1),(.sl 3 [TI] (.dp 0 true []) t.2.2.2.2.2.2.2.2.2.2.1),(.sl 106 [(.sl [TI])] (.dp 0 true []) t.2.2.2.2.2.2.2.2.2.2.2.1)],[],false,[]⟩
def uA:aJ:=Qg 70 [(.a Qe)] λx=>(some (Qt (α:=Qc) x.1),uz (id (α:=Qc) x.1))
def Mp:aF:=⟨[Kj,xR,JG,Kt],true⟩
def QEe:af :=
 (ag [(.ae [aw 24 .lss 23 22]),(.cond 24 .skip (.exit 0)),(.block 1 (ag [(.ae [aZ 25 21 23 QD,a9 26 25 2,aC 5 (.new 108 (bG QD)),aV 5 26 2]),(.draw [ak 27 3 5,an 28 27 1,ak 29 5 0,an 30 29 1,ak 31 5 1,an 32 31 1,aD 33 103 [32],aC 34 (.build (bG QD) [(0,1,30),(1,1,33)]),aC 35 (.bW 108 QD [34]),aC 36 (.app 28 35 108 QD),ak 37 3 5,aV 37 36 1] [(0,6),(1,6),(2,6),(3,6),(0,8),(1,8)])])),(.ae [aw 38 .add 23 (ar 1),ab 23 38])])
def QyB:List (Nat × Md):=[(1,.b (dO 14)),(2,.b [.d,.f,.f,.d,.d,.f,.f,.f,.f,.f,.f,.f,.d,.d]),(3,.b [.d,.f,.f,.d,.d,.p 108,.f,.f,.f,.f,.f,.f,.d,.d]),(21,.one .d),(22,.one .d),(23,.one .d)]
def Qsr:af :=
 (ag [(.ae [ak 39 1 6,an 40 39 1,aD 41 103 [40],ak 42 3 6,aV 42 41 1]),(.draw [ak 43 1 7,an 44 43 1,aD 45 104 [44],ak 46 1 8,an 47 46 1,aD 48 104 [47],ak 49 1 9,an 50 49 1,aD 51 104 [50],ak 52 1 10,an 53 52 1,aD 54 104 [53],ak 55 3 7,aV 55 45 1,ak 56 3 8,aV 56 48 1,ak 57 3 9,aV 57 51 1,ak 58 3 10,aV 58 54 1] [(2,3),(2,4),(2,6),(5,6),(2,7),(5,7),(2,9),(5,9),(8,9),(2,10),(5,10),(8,10),(5,12),(8,12),(11,12)]),(.ae [ak 59 1 11,a9 60 59 3,aD 61 166 [60],ak 62 3 11,aV 62 61 3]),(.ae [a9 63 3 14,aV 2 63 14]),.ret])
def QE9:af :=
 (ag [(.ae [aC 1 (.box 39 0 14),aC 2 (.new 39 (bG Qe))]),(.draw [ak 6 1 0,an 7 6 1,aC 8 (.bW 175 QO []),ak 9 1 1,an 10 9 1,aC 11 (.app 8 10 175 QO),ak 12 1 2,an 13 12 1,aD 14 165 [13],ak 15 1 3,an 16 15 1,ak 17 1 4,an 18 17 1,aC 19 (.build (bG Qe) [(0,1,7),(1,1,11),(2,1,14),(3,1,16),(4,1,18)]),aC 3 (.new 39 (bG Qe)),aV 3 19 14] [(0,2),(1,2),(2,3),(2,4),(0,5),(1,5),(2,6),(5,6),(2,7),(5,7),(0,8),(1,8),(2,9),(5,9),(8,9),(2,10),(5,10),(8,10),(2,11),(5,11),(8,11),(2,12),(5,12),(8,12),(0,14),(1,14),(2,14),(3,14),(4,14),(5,14),(6,14),(7,14),(8,14),(9,14),(10,14),(11,14),(12,14)]),(ag [(.ae [ak 20 1 5,an 21 20 1,ba 22 21,ab 23 (ar 0)]),(.block 0 (.loop QyB QEe))]),Qsr])
def QDG:List (bn × Md):=[(.l 2 14 true,.b [.d,.p 175,.p 134,.d,.d,.p 108,.p 106,.p 3,.p 3,.p 3,.p 3,.p 106,.d,.d])]
def QzW:Qb:=TQ 0 0 QDG K
def QFR:Qb:=a0 (aN Mp 0 Qsr (QzW K)) (QzW K)
def QE8:Qb:=a7 0 (QFR K)
def Cx(s:Qc)(x:Int)(t1:List bt)(t2:List aH)(t5:List QC):Prop:=Loop Mp 0 QyB QEe (QE8 K) ⟨[(1,(.p 0 0 0)),(2,(.p 1 0 0)),(3,(.p 5 0 0)),(21,(bf QD s.2.2.2.2.2.1)),(22,(aL ((s.2.2.2.2.2.1).length:Int))),(23,(aL x))],[(0,(.box (aT.cells Qe s))),(1,(.box [(aL 0),(.n QO),(.n aM),(bE false),(bE false),(.n QD),(.n [(.sl [TI])]),(.n [TI]),(.n [TI]),(.n [TI]),(.n [TI]),(.n [(.sl [TI])]),(aL 0),(bE false)])),(2,(.sl 175 QO (.dp 0 true []) t1)),(3,(.sl 134 aM (.dp 0 true []) t2)),(4,(.sl 108 QD (.dp 0 true []) t5)),(5,(.box [(aL s.1),(.r QO 2 0 t1.length),(.r aM 3 0 t2.length),(bE s.2.2.2.1),(bE s.2.2.2.2.1),(.r QD 4 0 t5.length),(.n [(.sl [TI])]),(.n [TI]),(.n [TI]),(.n [TI]),(.n [TI]),(.n [(.sl [TI])]),(aL 0),(bE false)]))],6⟩
theorem QAU(s:Qc)(x:Int)(t1:List bt)(t2:List aH)(t5:List QC) (h :
 (aI (decide (x<((s.2.2.2.2.2.1).length:Int))) ((0<=x/\Int.toNat x<(s.2.2.2.2.2.1).length)/\(((Qt (α:=List (List Int)) ((aq QS s.2.2.2.2.2.1 (Int.toNat x)).2))/\((t5.length=t5.length\/t5.length+1<=t5.length)/\t5.length+1<=ca))/\(Cx K s (aG (x+1)) (List.take t1.length t1) (List.take t2.length t2) (List.take (t5.length+1) ((List.take t5.length t5)++([((aq QS s.2.2.2.2.2.1 (Int.toNat x)).1,(List.take ((id (α:=List (List Int)) ((aq QS s.2.2.2.2.2.1 (Int.toNat x)).2)).length) (List.drop 0 (id (α:=List (List Int)) ((aq QS s.2.2.2.2.2.1 (Int.toNat x)).2)))))])))))) ((Qt (α:=List (List Int)) s.2.2.2.2.2.2.1)/\(((Qt (α:=List Int) s.2.2.2.2.2.2.2.1)/\((Qt (α:=List Int) s.2.2.2.2.2.2.2.2.1)/\((Qt (α:=List Int) s.2.2.2.2.2.2.2.2.2.1)/\(Qt (α:=List Int) s.2.2.2.2.2.2.2.2.2.2.1))))/\((Qt (α:=QN) s.2.2.2.2.2.2.2.2.2.2.2)/\K (uz (s.1,(List.take t1.length t1),(List.take t2.length t2),s.2.2.2.1,s.2.2.2.2.1,(List.take t5.length t5),(List.take ((id (α:=List (List Int)) s.2.2.2.2.2.2.1).length) (id (α:=List (List Int)) s.2.2.2.2.2.2.1)),(List.take ((id (α:=List Int) s.2.2.2.2.2.2.2.1).length) (id (α:=List Int) s.2.2.2.2.2.2.2.1)),(List.take ((id (α:=List Int) s.2.2.2.2.2.2.2.2.1).length) (id (α:=List Int) s.2.2.2.2.2.2.2.2.1)),(List.take ((id (α:=List Int) s.2.2.2.2.2.2.2.2.2.1).length) (id (α:=List Int) s.2.2.2.2.2.2.2.2.2.1)),(List.take ((id (α:=List Int) s.2.2.2.2.2.2.2.2.2.2.1).length) (id (α:=List Int) s.2.2.2.2.2.2.2.2.2.2.1)),(List.take (((id (α:=QN) s.2.2.2.2.2.2.2.2.2.2.2).1).length) ((id (α:=QN) s.2.2.2.2.2.2.2.2.2.2.2).1)),(id (α:=QN) s.2.2.2.2.2.2.2.2.2.2.2).2.1,(id (α:=QN) s.2.2.2.2.2.2.2.2.2.2.2).2.2))))))):Cx K s x t1 t2 t5 :=
 Loop.of h
theorem QUT(s:Qc)(hp:Qt (α:=Qc) s):aK Tryz.prog 70 [(.a (aT.cells Qe s))] (uz (id (α:=Qc) s)):=by
 refine bz Mp QE9 QDG 0 0 64 uA (kc QOx (kc Ko (kc nQ (kc QUg kn)))) (λK =>
 ((((0=0\/0+(s.2.1).length<=0)/\0+(s.2.1).length<=ca)/\(Qt (α:=List aH) s.2.2.1))/\(Cx K s 0 (List.take (0+(s.2.1).length) (s.2.1:List bt)) (List.take ((id (α:=List aH) s.2.2.1).length) (id (α:=List aH) s.2.2.1)) ([]:List QC)))) (λhb=>?_)
 have iO:Sz.sz s<=2147483648:=hp;have hs:=ZL s;have l1:=Ym (Qw s);simp only[id,List.drop_zero,List.take_length,true_or,true_and,Nat.zero_add];refine⟨⟨by rw[Zg];((try simp only[bU,Qw,aE,Qn,Qp,Qi,QB,sX,sY,sG,sD,Qz,Qx,bh,QA,QE,Qr,Qq]at *);omega),by unfold Qt;((try simp only[bU,Qw,aE,Qn,Qp,Qi,QB,sX,sY,sG,sD,Qz,Qx,bh,QA,QE,Qr,Qq]at *);omega)⟩,?_⟩;refine YC (l:=s.2.2.2.2.2.1) (A:=λi v=>Cx (λr'=>r'=uz (id (α:=Qc) s)) s i s.2.1 s.2.2.1 v) (Q:=λz=>uz (s.1,s.2.1,s.2.2.1,s.2.2.2.1,s.2.2.2.2.1,z,s.2.2.2.2.2.2)=uz (id (α:=Qc) s)) (by((try simp only[bU,Qw,aE,Qn,Qp,Qi,QB,sX,sY,sG,sD,Qz,Qx,bh,QA,QE,Qr,Qq]at *);omega)) (λk x v hk hl hg hv hx ih=>?_) (λhq=>?_) (au rfl)
 ·refine QAU _ _ _ _ _ _ ⟨λ_=>?_,λh=>by simp at h;omega⟩;simp only[QP,QL]at hx;rw[Int.toNat_natCast,hg,dP (by omega),Q8,rD,List.take_length,List.take_length];exact⟨⟨by omega,hk⟩,⟨by unfold Qt;omega,room (by omega)⟩,ih⟩
 ·refine QAU _ _ _ _ _ _ ⟨λh=>by simp at h,λ_=>?_⟩;simp only[id,List.drop_zero,List.take_length,true_or,true_and,Nat.zero_add];exact⟨by unfold Qt;((try simp only[bU,Qw,aE,Qn,Qp,Qi,QB,sX,sY,sG,sD,Qz,Qx,bh,QA,QE,Qr,Qq]at *);omega),⟨by unfold Qt;((try simp only[bU,Qw,aE,Qn,Qp,Qi,QB,sX,sY,sG,sD,Qz,Qx,bh,QA,QE,Qr,Qq]at *);omega),by unfold Qt;((try simp only[bU,Qw,aE,Qn,Qp,Qi,QB,sX,sY,sG,sD,Qz,Qx,bh,QA,QE,Qr,Qq]at *);omega),by unfold Qt;((try simp only[bU,Qw,aE,Qn,Qp,Qi,QB,sX,sY,sG,sD,Qz,Qx,bh,QA,QE,Qr,Qq]at *);omega),by unfold Qt;((try simp only[bU,Qw,aE,Qn,Qp,Qi,QB,sX,sY,sG,sD,Qz,Qx,bh,QA,QE,Qr,Qq]at *);omega)⟩,by unfold Qt;simp only[QP,QL,Q0];((try simp only[bU,Qw,aE,Qn,Qp,Qi,QB,sX,sY,sG,sD,Qz,Qx,bh,QA,QE,Qr,Qq]at *);omega),by first | exact hq | trivial⟩
theorem Cy:Qf Tryz.prog uA:=Qh λx h=>QUT x.1 h
def uB(t:Qc):aB:=⟨(.a [(aL t.1),(bf QO t.2.1),(bf aM t.2.2.1),(bE t.2.2.2.1),(bE t.2.2.2.2.1),(.r QD 0 0 ((t.2.2.2.2.2.1).length)),(bf [(.sl [TI])] t.2.2.2.2.2.2.1),(bf [TI] t.2.2.2.2.2.2.2.1),(bf [TI] t.2.2.2.2.2.2.2.2.1),(bf [TI] t.2.2.2.2.2.2.2.2.2.1),(bf [TI] t.2.2.2.2.2.2.2.2.2.2.1),(bf [(.sl [TI])] t.2.2.2.2.2.2.2.2.2.2.2.1),(aL t.2.2.2.2.2.2.2.2.2.2.2.2.1),(bE t.2.2.2.2.2.2.2.2.2.2.2.2.2)]),[(.sl 108 QD .ow t.2.2.2.2.2.1)],[],true,[]⟩
def uC:aJ:=Qg 61 [(.a Qe)] λx=>(some (Qt (α:=Qc) x.1),uB (id (α:=Qc) x.1))
def Mq:aF:=⟨[Ku,Kx],false⟩
def Qw5:af :=
 (ag [(ag [(.ae [ab 17 4,ak 18 1 5,an 19 18 1,ba 20 19,aw 21 .lss 17 20]),(.cond 21 .skip (.exit 0))]),(.block 1 (.draw [ak 24 3 5,an 25 24 1,ak 26 1 5,an 27 26 1,ab 28 4,aZ 29 27 28 QD,ak 30 29 0,an 31 30 1,ak 32 1 5,an 33 32 1,ab 34 4,aZ 35 33 34 QD,ak 36 35 1,an 37 36 1,aD 38 156 [37],aC 39 (.build (bG QD) [(0,1,31),(1,1,38)]),aC 40 (.bW 108 QD [39]),aC 41 (.app 25 40 108 QD),ak 42 3 5,aV 42 41 1] [(0,14),(1,14),(2,14),(3,14),(5,14),(6,14),(7,14),(0,16),(1,16)])),(.ae [ab 22 4,aw 23 .add 22 (ar 1),ab 4 23])])
def Qw7:List (Nat × Md):=[(1,.b (dO 14)),(2,.b (dO 14)),(3,.b [.d,.d,.d,.d,.d,.f,.d,.d,.d,.d,.d,.d,.d,.d]),(4,.one .d)]
def Qvl:af :=
 (ag [(.ae [ak 43 1 6,an 44 43 1,aD 45 156 [44],ak 46 3 6,aV 46 45 1]),(.ae [aC 47 (.bW 3 [TI] []),ak 48 1 7,an 49 48 1,aC 50 (.app 47 49 3 [TI]),ak 51 3 7,aV 51 50 1]),(.ae [aC 52 (.bW 3 [TI] []),ak 53 1 8,an 54 53 1,aC 55 (.app 52 54 3 [TI]),ak 56 3 8,aV 56 55 1]),(.ae [aC 57 (.bW 3 [TI] []),ak 58 1 9,an 59 58 1,aC 60 (.app 57 59 3 [TI]),ak 61 3 9,aV 61 60 1]),(.ae [aC 62 (.bW 3 [TI] []),ak 63 1 10,an 64 63 1,aC 65 (.app 62 64 3 [TI]),ak 66 3 10,aV 66 65 1]),(.ae [ak 67 1 11,ak 68 67 0,an 69 68 1,aD 70 156 [69],ak 71 3 11,ak 72 71 0,aV 72 70 1]),(.ae [a9 73 3 14,aV 2 73 14]),.ret])
def QP7:af :=
 (ag [(.ae [aC 1 (.box 39 0 14),aC 2 (.new 39 (bG Qe))]),(.ae [a9 5 1 14,aC 3 (.new 39 (bG Qe)),aV 3 5 14]),(.ae [ak 6 1 2,an 7 6 1,aD 8 155 [7],ak 9 3 2,aV 9 8 1]),(.ae [aC 10 (.bW 175 QO []),ak 11 1 1,an 12 11 1,aC 13 (.app 10 12 175 QO),ak 14 3 1,aV 14 13 1]),(.ae [aC 15 (.bW 108 QD []),ak 16 3 5,aV 16 15 1]),(ag [(.ae [ab 4 (ar 0)]),(.block 0 (.loop Qw7 Qw5))]),Qvl])
def QxO:List (bn × Md):=[(.l 2 14 true,.b [.d,.d,.d,.d,.d,.o 108,.d,.d,.d,.d,.d,.d,.d,.d])]
def QD5:Qb:=TQ 0 0 QxO K
def QSQ:Qb:=a0 (aN Mq 0 Qvl (QD5 K)) (QD5 K)
def QLh:Qb:=a7 0 (QSQ K)
def Cz(s:Qc)(i:Int)(x5:List QC):Prop:=Loop Mq 0 Qw7 Qw5 (QLh K) ⟨[(1,(.p 0 0 0)),(2,(.p 1 0 0)),(3,(.p 3 0 0)),(4,(aL i))],[(0,(.box (aT.cells Qe s))),(1,(.box (aT.cells Qe ((0:Int),[],[],false,false,[],[],[],[],[],[],[],(0:Int),false)))),(2,(.sl 108 QD .ow x5)),(3,(.box [(aL s.1),(bf QO (List.take (0+(s.2.1).length) (List.drop 0 (s.2.1:List bt)))),(bf aM (id (α:=List aH) s.2.2.1)),(bE s.2.2.2.1),(bE s.2.2.2.2.1),(.r QD 2 0 x5.length),(bf [(.sl [TI])] s.2.2.2.2.2.2.1),(bf [TI] s.2.2.2.2.2.2.2.1),(bf [TI] s.2.2.2.2.2.2.2.2.1),(bf [TI] s.2.2.2.2.2.2.2.2.2.1),(bf [TI] s.2.2.2.2.2.2.2.2.2.2.1),(bf [(.sl [TI])] s.2.2.2.2.2.2.2.2.2.2.2.1),(aL s.2.2.2.2.2.2.2.2.2.2.2.2.1),(bE s.2.2.2.2.2.2.2.2.2.2.2.2.2)]))],4⟩
theorem QDv(s:Qc)(i:Int)(x5:List QC) (h :
 (aI (decide (i<((s.2.2.2.2.2.1).length:Int))) (((0<=i/\Int.toNat i<(s.2.2.2.2.2.1).length)/\((0<=i/\Int.toNat i<(s.2.2.2.2.2.1).length)/\((Qt (α:=List (List Int)) ((aq QS s.2.2.2.2.2.1 (Int.toNat i)).2))/\((x5.length=x5.length\/x5.length+1<=x5.length)/\x5.length+1<=ca))))/\(Cz K s (aG (i+1)) (List.take (x5.length+1) ((List.take x5.length x5)++([((aq QS s.2.2.2.2.2.1 (Int.toNat i)).1,(id (α:=List (List Int)) ((aq QS s.2.2.2.2.2.1 (Int.toNat i)).2)))]))))) ((Qt (α:=List (List Int)) s.2.2.2.2.2.2.1)/\(((0=0\/0+(s.2.2.2.2.2.2.2.1).length<=0)/\0+(s.2.2.2.2.2.2.2.1).length<=ca)/\(((0=0\/0+(s.2.2.2.2.2.2.2.2.1).length<=0)/\0+(s.2.2.2.2.2.2.2.2.1).length<=ca)/\(((0=0\/0+(s.2.2.2.2.2.2.2.2.2.1).length<=0)/\0+(s.2.2.2.2.2.2.2.2.2.1).length<=ca)/\(((0=0\/0+(s.2.2.2.2.2.2.2.2.2.2.1).length<=0)/\0+(s.2.2.2.2.2.2.2.2.2.2.1).length<=ca)/\((Qt (α:=List (List Int)) s.2.2.2.2.2.2.2.2.2.2.2.1)/\K (uB (s.1,(List.take (0+(s.2.1).length) (List.drop 0 (s.2.1:List bt))),(id (α:=List aH) s.2.2.1),s.2.2.2.1,s.2.2.2.2.1,(List.take x5.length x5),(id (α:=List (List Int)) s.2.2.2.2.2.2.1),(List.take (0+(s.2.2.2.2.2.2.2.1).length) (List.drop 0 (s.2.2.2.2.2.2.2.1:List Int))),(List.take (0+(s.2.2.2.2.2.2.2.2.1).length) (List.drop 0 (s.2.2.2.2.2.2.2.2.1:List Int))),(List.take (0+(s.2.2.2.2.2.2.2.2.2.1).length) (List.drop 0 (s.2.2.2.2.2.2.2.2.2.1:List Int))),(List.take (0+(s.2.2.2.2.2.2.2.2.2.2.1).length) (List.drop 0 (s.2.2.2.2.2.2.2.2.2.2.1:List Int))),(id (α:=List (List Int)) s.2.2.2.2.2.2.2.2.2.2.2.1),s.2.2.2.2.2.2.2.2.2.2.2.2.1,s.2.2.2.2.2.2.2.2.2.2.2.2.2)))))))))):Cz K s i x5 :=
 Loop.of h
theorem QTx(s:Qc)(hp:Qt (α:=Qc) s):aK Tryz.prog 61 [(.a (aT.cells Qe s))] (uB (id (α:=Qc) s)):=by
 refine bz Mq QP7 QxO 0 0 74 uC (kc QGK (kc QJ5 kn)) (λK =>
 ((Qt (α:=List aH) s.2.2.1)/\(((0=0\/0+(s.2.1).length<=0)/\0+(s.2.1).length<=ca)/\(Cz K s 0 ([]:List QC))))) (λhb=>?_)
 have iO:Sz.sz s<=2147483648:=hp;have hs:=ZL s;have l1:=Ym (Qw s);have l2:=ZH (sX s);have l3:=ZH (sY s);have l4:=ZH (sG s);have l5:=ZH (sD s);simp only[id,List.drop_zero,List.take_length,true_or,true_and,Nat.zero_add];refine⟨by unfold Qt;((try simp only[bU,Qw,aE,Qn,Qp,Qi,QB,sX,sY,sG,sD,Qz,Qx,bh,QA,QE,Qr,Qq]at *);omega),by rw[Zg];((try simp only[bU,Qw,aE,Qn,Qp,Qi,QB,sX,sY,sG,sD,Qz,Qx,bh,QA,QE,Qr,Qq]at *);omega),?_⟩;refine YC (l:=s.2.2.2.2.2.1) (A:=λi v=>Cz (λr'=>r'=uB (id (α:=Qc) s)) s i v) (Q:=λz=>uB (s.1,s.2.1,s.2.2.1,s.2.2.2.1,s.2.2.2.2.1,z,s.2.2.2.2.2.2)=uB (id (α:=Qc) s)) (by((try simp only[bU,Qw,aE,Qn,Qp,Qi,QB,sX,sY,sG,sD,Qz,Qx,bh,QA,QE,Qr,Qq]at *);omega)) (λk x v hk hl hg hv hx ih=>?_) (λhq=>?_) (au rfl)
 ·refine QDv _ _ _ _ ⟨λ_=>?_,λh=>by simp at h;omega⟩;simp only[QP,QL]at hx;rw[Int.toNat_natCast,hg,dP (by omega),Q8];exact⟨⟨⟨by omega,hk⟩,⟨by omega,hk⟩,by unfold Qt;omega,room (by omega)⟩,ih⟩
 ·refine QDv _ _ _ _ ⟨λh=>by simp at h,λ_=>?_⟩;simp only[id,List.drop_zero,List.take_length,true_or,true_and,Nat.zero_add];exact⟨by unfold Qt;((try simp only[bU,Qw,aE,Qn,Qp,Qi,QB,sX,sY,sG,sD,Qz,Qx,bh,QA,QE,Qr,Qq]at *);omega),by rw[Zg];((try simp only[bU,Qw,aE,Qn,Qp,Qi,QB,sX,sY,sG,sD,Qz,Qx,bh,QA,QE,Qr,Qq]at *);omega),by rw[Zg];((try simp only[bU,Qw,aE,Qn,Qp,Qi,QB,sX,sY,sG,sD,Qz,Qx,bh,QA,QE,Qr,Qq]at *);omega),by rw[Zg];((try simp only[bU,Qw,aE,Qn,Qp,Qi,QB,sX,sY,sG,sD,Qz,Qx,bh,QA,QE,Qr,Qq]at *);omega),by rw[Zg];((try simp only[bU,Qw,aE,Qn,Qp,Qi,QB,sX,sY,sG,sD,Qz,Qx,bh,QA,QE,Qr,Qq]at *);omega),by unfold Qt;((try simp only[bU,Qw,aE,Qn,Qp,Qi,QB,sX,sY,sG,sD,Qz,Qx,bh,QA,QE,Qr,Qq]at *);omega),by first | exact hq | trivial⟩
theorem CA:Qf Tryz.prog uC:=Qh λx h=>QTx x.1 h
def pj(t:Qc):aB:=⟨(.a [(aL t.1),(.r QO 0 0 ((t.2.1).length)),(.r aM 1 0 ((t.2.2.1).length)),(bE t.2.2.2.1),(bE t.2.2.2.2.1),(.r QD 2 0 ((t.2.2.2.2.2.1).length)),(.r [(.sl [TI])] 3 0 ((t.2.2.2.2.2.2.1).length)),(.r [TI] 4 0 ((t.2.2.2.2.2.2.2.1).length)),(.r [TI] 5 0 ((t.2.2.2.2.2.2.2.2.1).length)),(.r [TI] 6 0 ((t.2.2.2.2.2.2.2.2.2.1).length)),(.r [TI] 7 0 ((t.2.2.2.2.2.2.2.2.2.2.1).length)),(.r [(.sl [TI])] 8 0 ((t.2.2.2.2.2.2.2.2.2.2.2.1).length)),(aL t.2.2.2.2.2.2.2.2.2.2.2.2.1),(bE t.2.2.2.2.2.2.2.2.2.2.2.2.2)]),[(.sl 175 QO (.dp 0 true []) t.2.1),(.sl 134 aM (.dp 0 true []) t.2.2.1),(.sl 108 QD (.dp 0 true []) t.2.2.2.2.2.1),(.sl 106 [(.sl [TI])] (.dp 0 true []) t.2.2.2.2.2.2.1),(.sl 3 [TI] (.dp 0 true []) t.2.2.2.2.2.2.2.1),(.sl 3 [TI] (.dp 0 true []) t.2.2.2.2.2.2.2.2.1),(.sl 3 [TI] (.dp 0 true []) t.2.2.2.2.2.2.2.2.2.1),(.sl 3 [TI] (.dp 0 true []) t.2.2.2.2.2.2.2.2.2.2.1),(.sl 106 [(.sl [TI])] (.dp 0 true []) t.2.2.2.2.2.2.2.2.2.2.2.1)],[],false,[]⟩
def Mr:aJ:=Qg 30 [(.a Qe),(.c TI),(.c (.sl [TI])),(.c (.sl [TI]))] λx=>(some (JJ x.1 x.2.1 x.2.2.1 x.2.2.2.1),pj (ZV x.1 x.2.1 x.2.2.1 x.2.2.2.1))
def QXl:aF:=⟨[uA,ua,ue,xH,Jr,x7,xI,Ch,xR,JG,LU,t9],true⟩
def QXN:af :=
 (ag [(.ae [aC 4 (.box 39 0 14),aC 8 (.new 39 (bG Qe))]),(.ae [a9 19 4 14,aD 20 70 [19],aC 9 (.new 39 (bG Qe)),aV 9 20 14]),(.ae [a9 21 4 14,aD 22 74 [21],aC 10 (.new 77 [(.n aM)]),aV 10 22 1]),(ag [(.ae [a9 23 4 14,aD 24 72 [23],bL 25 24,ab 26 25,.bw 26 false [ab 27 2,a9 28 10 1,aD 29 101 [28],aD 30 100 [27,29],bL 31 30] 32 31,ab 33 32,.bw 33 false [ak 34 4 5,an 35 34 1,ab 36 1,aD 37 71 [35,36],aw 38 .geq 37 (ar 0)] 39 38]),(.cond 39 (ag [(.ae [a9 40 9 14,aV 8 40 14]),.ret]) .skip)]),(ag [(.ae [ak 41 4 3,an 42 41 1,ab 43 42,.bw 43 true [ab 44 3,a9 45 10 1,aD 46 102 [45],aD 47 100 [44,46],bL 48 47] 49 48]),(.cond 49 (ag [(.ae [a9 50 9 14,aV 8 50 14]),.ret]) .skip)]),(.ae [a9 52 10 1,ab 53 2,aD 54 73 [52,53],ab 51 54,bF 55 51 0,bF 56 51 1,ab 11 55,ab 12 56]),(.ae [ab 57 11,ak 58 4 2,an 59 58 1,ba 60 59,aZ 61 57 60 [(.sl [TI])],ak 62 61 0,an 63 62 1,ab 13 63]),(.ae [ab 64 11,ab 14 64]),(ag [(.ae [ak 65 4 4,an 66 65 1]),(.cond 66 (.ae [ab 67 11,aC 68 (.fB 67 none (some (ar 1)) [(.sl [TI])]),ab 14 68]) .skip)]),(.draw [ak 69 9 5,an 70 69 1,ab 71 1,ab 72 14,aD 73 103 [72],aC 74 (.build (bG QD) [(0,1,71),(1,1,73)]),aC 75 (.bW 108 QD [74]),aC 76 (.app 70 75 108 QD),ak 77 9 5,aV 77 76 1] [(0,4),(1,4),(0,6),(1,6)]),(.ae [ak 78 9 7,aV 78 (.k (.n [TI])) 1]),(.ae [ak 79 9 11,ak 80 79 2,an 81 80 1,ab 82 81,.bw 82 false [ab 83 12] 84 83,ak 85 9 11,ak 86 85 2,aV 86 84 1]),(ag [(.ae [ak 87 4 3,an 88 87 1,bL 89 88]),(.cond 89 (ag [(.ae [ab 90 13,aD 91 104 [90],ak 92 9 8,aV 92 91 1]),(.ae [a9 93 9 14,aV 8 93 14]),.ret]) .skip)]),(.ae [ab 95 13,ab 96 3,aD 97 105 [95,96],ab 94 97,bF 98 94 0,bF 99 94 1,ab 15 98,ab 16 99]),(.ae [ak 101 9 11,ak 102 101 1,an 103 102 1,ab 104 15,aD 105 106 [103,104],ab 100 105,bF 106 100 0,bF 107 100 1,ab 17 106,ab 18 107]),(.ae [ab 108 17,ak 109 9 11,ak 110 109 1,aV 110 108 1]),(.ae [ak 111 9 11,ak 112 111 2,an 113 112 1,ab 114 113,.bw 114 false [ab 115 16] 116 115,ab 117 116,.bw 117 false [ab 118 18] 119 118,ak 120 9 11,ak 121 120 2,aV 121 119 1]),(.ae [a9 122 9 14,aV 8 122 14]),.ret])
def QL7:List (bn × Md):=[(.l 8 14 true,.b [.d,.p 175,.p 134,.d,.d,.p 108,.p 106,.p 3,.p 3,.p 3,.p 3,.p 106,.d,.d])]
theorem QHr(s:Qc)(m:Int)(x:List Int)(t:List Int)(hp:JJ s m x t):aK Tryz.prog 30 [(.a (aT.cells Qe s)),(.c TI m),(.c (.sl [TI]) x),(.c (.sl [TI]) t)] (pj (ZV s m x t)):=by
 refine bz QXl QXN QL7 0 0 123 Mr (kc Cy (kc Bd (kc Bk (kc IX (kc JS (kc KX (kc IY (kc Qtk (kc Ko (kc nQ (kc QIP (kc A5 kn)))))))))))) (λK =>
 let z1:=id (α:=Qc) s
 let z3:=JP (Zn s) x
 let z2:=aq ([]:List Int) (z3.1) (0+(Int.toNat ((s.2.2.1).length:Int)))
 let z4:=List.take ((z1.2.2.2.2.2.2.2.2.2.2.2.1).length) (z1.2.2.2.2.2.2.2.2.2.2.2.1)
 let z5:=List.take ((z1.2.2.2.2.2.2.2.2.2.2.1).length) (z1.2.2.2.2.2.2.2.2.2.2.1)
 let z6:=List.take ((z1.2.2.2.2.2.2.2.2.2.1).length) (z1.2.2.2.2.2.2.2.2.2.1)
 let z8:=List.take ((z1.2.2.2.2.2.2.1).length) (z1.2.2.2.2.2.2.1)
 let z9:=List.take ((z1.2.2.2.2.2.1).length) (z1.2.2.2.2.2.1)
 let eW:=List.take ((z1.2.2.1).length) (z1.2.2.1)
 let dQ:=List.take ((z1.2.2.2.2.2.2.2.2.1).length) (z1.2.2.2.2.2.2.2.2.1)
 let gx:=List.take ((z1.2.1).length) (z1.2.1)
 let gy:=Q4 (z1.2.2.2.2.2.2.2.2.2.2.2.2.1) ((Yb z2 t).1)
 let gV:=List.take (Int.toNat 1-Int.toNat 0) (List.drop 0 (z3.1))
 let z7:=id (α:=List (List Int)) gV
 let gW:=List.take ((id (α:=List Int) z2).length) (id (α:=List Int) z2)
 let kS:=List.take ((z1.2.2.2.2.2.2.2.1).length) (z1.2.2.2.2.2.2.2.1)
 let kT:=List.take ((z3.1).length) (List.drop 0 (z3.1))
 let eX:=id (α:=List (List Int)) kT
 ((Qt (α:=Qc) s)/\(aI (((!(QU s))||(!(QH x (ZO (Zn s)))))||(decide ((QJ s.2.2.2.2.2.1 m)>=0))) (K (pj (z1.1,gx,eW,z1.2.2.2.1,z1.2.2.2.2.1,z9,z8,kS,dQ,z6,z5,z4,z1.2.2.2.2.2.2.2.2.2.2.2.2.1,z1.2.2.2.2.2.2.2.2.2.2.2.2.2))) (aI (s.2.2.2.1&&(!(QH t (Zu (Zn s))))) (K (pj (z1.1,gx,eW,z1.2.2.2.1,z1.2.2.2.2.1,z9,z8,kS,dQ,z6,z5,z4,z1.2.2.2.2.2.2.2.2.2.2.2.2.1,z1.2.2.2.2.2.2.2.2.2.2.2.2.2))) (((0<=((s.2.2.1).length:Int)/\Int.toNat ((s.2.2.1).length:Int)<(z3.1).length)/\((0+(Int.toNat ((s.2.2.1).length:Int)))<(z3.1).length))/\(aI s.2.2.2.2.1 (((0:Int)<=0/\(0:Int)<=1/\1<=(((z3.1).length:Nat):Int))/\(((Qt (α:=List (List Int)) gV)/\(((z1.2.2.2.2.2.1).length=(z1.2.2.2.2.2.1).length\/(z1.2.2.2.2.2.1).length+1<=(z1.2.2.2.2.2.1).length)/\(z1.2.2.2.2.2.1).length+1<=ca))/\(aI (!s.2.2.2.1) ((Qt (α:=List Int) z2)/\K (pj (z1.1,gx,eW,z1.2.2.2.1,z1.2.2.2.2.1,(List.take ((z1.2.2.2.2.2.1).length+1) (z9++([(m,(List.take (z7.length) (List.drop 0 z7)))]))),z8,([]:List Int),gW,z6,z5,z4,z1.2.2.2.2.2.2.2.2.2.2.2.2.1,((z1.2.2.2.2.2.2.2.2.2.2.2.2.2)||(z3.2))))) (K (pj (z1.1,gx,eW,z1.2.2.2.1,z1.2.2.2.2.1,(List.take ((z1.2.2.2.2.2.1).length+1) (z9++([(m,(List.take (z7.length) (List.drop 0 z7)))]))),z8,([]:List Int),dQ,z6,z5,z4,gy.1,((((z1.2.2.2.2.2.2.2.2.2.2.2.2.2)||(z3.2))||((Yb z2 t).2))||(gy.2)))))))) (((Qt (α:=List (List Int)) kT)/\(((z1.2.2.2.2.2.1).length=(z1.2.2.2.2.2.1).length\/(z1.2.2.2.2.2.1).length+1<=(z1.2.2.2.2.2.1).length)/\(z1.2.2.2.2.2.1).length+1<=ca))/\(aI (!s.2.2.2.1) ((Qt (α:=List Int) z2)/\K (pj (z1.1,gx,eW,z1.2.2.2.1,z1.2.2.2.2.1,(List.take ((z1.2.2.2.2.2.1).length+1) (z9++([(m,(List.take (eX.length) (List.drop 0 eX)))]))),z8,([]:List Int),gW,z6,z5,z4,z1.2.2.2.2.2.2.2.2.2.2.2.2.1,((z1.2.2.2.2.2.2.2.2.2.2.2.2.2)||(z3.2))))) (K (pj (z1.1,gx,eW,z1.2.2.2.1,z1.2.2.2.2.1,(List.take ((z1.2.2.2.2.2.1).length+1) (z9++([(m,(List.take (eX.length) (List.drop 0 eX)))]))),z8,([]:List Int),dQ,z6,z5,z4,gy.1,((((z1.2.2.2.2.2.2.2.2.2.2.2.2.2)||(z3.2))||((Yb z2 t).2))||(gy.2))))))))))))) (λhb=>?_)
 conv=>zeta
 have iO:Sz.sz s<=2147483648:=hp;have hs:=ZL s;have l1:=Ym (Qi s);have e:=QzF s m x t;simp only[id,List.drop_zero,List.take_length,true_or,true_and,Nat.zero_add,Int.toNat_natCast];refine⟨hp,λh=>au ?_,λh=>⟨λh2=>au ?_,λh2=>?_⟩⟩
 ·rw[h]at e;rw[Ml (by rw[e];simp)]
 ·rw[h2]at e;rw[Ml (by rw[e];simp)]
 rw[h,h2]at e;have e:Y7 s m x t=true:=by simpa using e
 have e2:=e;simp only[Y7,Bool.and_eq_true]at e2;have hm:=YN e2.1.1.1;have cW:=Yw hm;have ei:JP (Zn s) x=QV (aE s) x:=Gv hm e2.1.1.2;have tz:=Gk (aE s) x;have hx6:=Y8 e2.1.1.2;have bV:=yt (aE s) x;have da:=QvQ e;have oA:=nX [] (QV (aE s) x).1 (aE s).length;have e0:Sz.sz ([]:List Int)=0:=rfl;have t10:Int.toNat 1-Int.toNat 0=1:=rfl;rw[ei];simp only[t10,Q8,List.drop_zero,List.take_length];refine⟨⟨by((try simp only[bU,Qw,aE,Qn,Qp,Qi,QB,sX,sY,sG,sD,Qz,Qx,bh,QA,QE,Qr,Qq]at *);omega),by((try simp only[bU,Qw,aE,Qn,Qp,Qi,QB,sX,sY,sG,sD,Qz,Qx,bh,QA,QE,Qr,Qq]at *);omega)⟩,λhr=>⟨by((try simp only[bU,Qw,aE,Qn,Qp,Qi,QB,sX,sY,sG,sD,Qz,Qx,bh,QA,QE,Qr,Qq]at *);omega),?_⟩,λhr=>?_⟩
 ·have zu:Sz.sz ((QV (aE s) x).1.take 1)<=Sz.sz (QV (aE s) x).1:=by
   first
    | exact F4 _ _
    | exact Nat.le_refl _
  rw[if_pos (show Qp s=true from hr)]at da;refine⟨⟨by unfold Qt;((try simp only[bU,Qw,aE,Qn,Qp,Qi,QB,sX,sY,sG,sD,Qz,Qx,bh,QA,QE,Qr,Qq]at *);omega),by rw[Zg];((try simp only[bU,Qw,aE,Qn,Qp,Qi,QB,sX,sY,sG,sD,Qz,Qx,bh,QA,QE,Qr,Qq]at *);omega)⟩,λhl=>⟨by unfold Qt;((try simp only[bU,Qw,aE,Qn,Qp,Qi,QB,sX,sY,sG,sD,Qz,Qx,bh,QA,QE,Qr,Qq]at *);omega),au ?_⟩,λhl=>au ?_⟩
  ·have hl:s.2.2.2.1=false:=by simpa using hl
   rw[da];simp only[Qn,hl];simp[List.take_of_length_le]
  ·have hl:s.2.2.2.1=true:=by simpa using hl
   rw[da];simp only[Qn,hl];simp[Bool.or_assoc,List.take_of_length_le]
 ·have zu:Sz.sz ((QV (aE s) x).1)<=Sz.sz (QV (aE s) x).1:=by
   first
    | exact F4 _ _
    | exact Nat.le_refl _
  rw[if_neg (by rw[show Qp s=false from hr];simp)]at da;refine⟨⟨by unfold Qt;((try simp only[bU,Qw,aE,Qn,Qp,Qi,QB,sX,sY,sG,sD,Qz,Qx,bh,QA,QE,Qr,Qq]at *);omega),by rw[Zg];((try simp only[bU,Qw,aE,Qn,Qp,Qi,QB,sX,sY,sG,sD,Qz,Qx,bh,QA,QE,Qr,Qq]at *);omega)⟩,λhl=>⟨by unfold Qt;((try simp only[bU,Qw,aE,Qn,Qp,Qi,QB,sX,sY,sG,sD,Qz,Qx,bh,QA,QE,Qr,Qq]at *);omega),au ?_⟩,λhl=>au ?_⟩
  ·have hl:s.2.2.2.1=false:=by simpa using hl
   rw[da];simp only[Qn,hl];simp[List.take_of_length_le]
  ·have hl:s.2.2.2.1=true:=by simpa using hl
   rw[da];simp only[Qn,hl];simp[Bool.or_assoc,List.take_of_length_le]
theorem QNG:Qf Tryz.prog Mr:=Qh λx h=>QHr x.1 x.2.1 x.2.2.1 x.2.2.2.1 h
def uD(t:Qc):aB:=f5 (.a (aT.cells Qe t))
def Ms:aJ:=Qg 28 [(.a Qe),(.c TI),(.c (.sl [TI])),(.c (.sl [TI]))] λx=>(some (JJ x.1 x.2.1 x.2.2.1 x.2.2.2.1),uD (ZV x.1 x.2.1 x.2.2.1 x.2.2.2.1))
def Mt:aF:=⟨[uC,uf,Yv,x4,Ck,LW,sb],false⟩
def QEm:af :=
 (ag [(.ae [ak 130 9 5,an 131 130 1,ab 132 1,ab 133 10,aC 134 (.build (bG QD) [(0,1,132),(1,1,133)]),aC 135 (.bW 108 QD [134]),aC 136 (.app 131 135 108 QD),ak 137 9 5,aV 137 136 1]),(.ae [a9 138 9 14,aV 8 138 14]),.ret])
def QFA:List (Nat × Md):=[(1,.one .d),(8,.b (dO 14)),(9,.b [.d,.d,.d,.d,.d,.f,.d,.d,.d,.d,.d,.d,.d,.d]),(10,.one .d)]
def QPI:af:=.wk QFA QEm
def QBn:af :=
 (ag [(ag [(.ae [ak 126 4 4,an 127 126 1]),(.cond 127 (.ae [ab 128 10,aC 129 (.fB 128 none (some (ar 1)) [(.sl [TI])]),ab 10 129]) .skip)]),QPI])
def QK8:List (Nat × Md):=[(1,.one .d),(4,.b (dO 14)),(8,.b (dO 14)),(9,.b [.d,.d,.d,.d,.d,.f,.d,.d,.d,.d,.d,.d,.d,.d]),(10,.one .d)]
def QVG:af:=.wk QK8 QBn
def QXy:af :=
 (ag [(.ae [aC 4 (.box 39 0 14),aC 8 (.new 39 (bG Qe))]),(.ae [a9 17 4 14,aD 18 61 [17],aC 9 (.new 39 (bG Qe)),aV 9 18 14]),(ag [(.ae [a9 19 4 14,aD 20 63 [19],bL 21 20,ab 22 21,.bw 22 false [ab 23 2,aD 24 97 [23],bL 25 24] 26 25,ab 27 26,.bw 27 false [ab 28 2,ba 29 28,ak 30 4 2,an 31 30 1,aZ 32 31 (ar 0) aM,ak 33 32 1,an 34 33 1,aw 35 .neq 29 34] 36 35,ab 37 36,.bw 37 false [ak 38 4 5,an 39 38 1,ab 40 1,aD 41 62 [39,40],aw 42 .geq 41 (ar 0)] 43 42,ab 44 43,.bw 44 false [ak 45 4 3,an 46 45 1,ab 47 46,.bw 47 true [ab 48 3,aD 49 97 [48],bL 50 49,ab 51 50,.bw 51 false [ab 52 3,ba 53 52,ak 54 4 2,an 55 54 1,ak 56 4 2,an 57 56 1,ba 58 57,aw 59 .sub 58 (ar 1),aZ 60 55 59 aM,ak 61 60 2,an 62 61 1,aw 63 .neq 53 62] 64 63] 65 64] 66 65]),(.cond 66 (ag [(.ae [a9 67 9 14,aV 8 67 14]),.ret]) .skip)]),(.ae [ak 69 4 2,an 70 69 1,ab 71 2,aD 72 64 [70,71],ab 68 72,bF 73 68 0,bF 74 68 1,ab 10 73,ab 11 74]),(.ae [ab 75 10,ab 76 10,ba 77 76,aw 78 .sub 77 (ar 1),aZ 79 75 78 [(.sl [TI])],ak 80 79 0,an 81 80 1,ab 12 81]),(.ae [aC 82 (.bW 3 [TI] []),ak 83 9 7,aV 83 82 1]),(.ae [ak 84 4 11,ak 85 84 2,an 86 85 1,ab 87 86,.bw 87 false [ab 88 11] 89 88,ak 90 9 11,ak 91 90 2,aV 91 89 1]),(ag [(.ae [ak 92 4 3,an 93 92 1]),(.cond 93 (ag [(.ae [ab 95 12,ab 96 3,aD 97 98 [95,96],ab 94 97,bF 98 94 0,bF 99 94 1,ab 13 98,ab 14 99]),(.ae [ak 101 4 11,ak 102 101 1,an 103 102 1,ab 104 13,aD 105 99 [103,104],ab 100 105,bF 106 100 0,bF 107 100 1,ab 15 106,ab 16 107]),(.ae [ab 108 15,ak 109 9 11,ak 110 109 1,aV 110 108 1]),(.ae [ak 111 9 11,ak 112 111 2,an 113 112 1,ab 114 113,.bw 114 false [ab 115 14] 116 115,ab 117 116,.bw 117 false [ab 118 16] 119 118,ak 120 9 11,ak 121 120 2,aV 121 119 1])]) (.ae [aC 122 (.bW 3 [TI] []),ab 123 12,aC 124 (.app 122 123 3 [TI]),ak 125 9 8,aV 125 124 1]))]),QVG])
def Qw6:List (bn × Md):=[(.l 8 14 true,.b (dO 14))]
def Qxr:Qb:=TQ 0 0 Qw6 K
@[irreducible] def CB(s:Qc)(m:Int)(y8:List Int)(jR:Int)(jS:Bool)(r:List (List Int)):Prop:=let z1:=id (α:=Qc) s
 let z2:=List.take ((z1.2.2.2.2.2.1).length) (z1.2.2.2.2.2.1)
 aN Mt 0 QEm (Qxr K) ⟨[(1,(aL m)),(8,(.p 0 0 0)),(9,(.p 2 0 0)),(10,(bf [(.sl [TI])] r))],[(0,(.box (aT.cells Qe ((0:Int),[],[],false,false,[],[],[],[],[],[],[],(0:Int),false)))),(1,(.sl 108 QD .ow (List.take (z2.length) z2))),(2,(.box [(aL (z1.1)),(bf QO (z1.2.1)),(bf aM (z1.2.2.1)),(bE (z1.2.2.2.1)),(bE (z1.2.2.2.2.1)),(.r QD 1 0 ((List.take (z2.length) z2).length)),(bf [(.sl [TI])] (z1.2.2.2.2.2.2.1)),(bf [TI] ([]:List Int)),(bf [TI] y8),(bf [TI] (z1.2.2.2.2.2.2.2.2.2.1)),(bf [TI] (z1.2.2.2.2.2.2.2.2.2.2.1)),(bf [(.sl [TI])] (z1.2.2.2.2.2.2.2.2.2.2.2.1)),(aL jR),(bE jS)]))],3⟩
@[irreducible] def CC(s:Qc)(m:Int)(x:List Int)(y8:List Int)(jR:Int)(jS:Bool):Prop:=let z1:=id (α:=Qc) s
 let z2:=List.take ((z1.2.2.2.2.2.1).length) (z1.2.2.2.2.2.1)
 aN Mt 0 QBn (Qxr K) ⟨[(1,(aL m)),(4,(.p 0 0 0)),(8,(.p 1 0 0)),(9,(.p 3 0 0)),(10,(bf [(.sl [TI])] ((QV s.2.2.1 x).1)))],[(0,(.box (aT.cells Qe s))),(1,(.box (aT.cells Qe ((0:Int),[],[],false,false,[],[],[],[],[],[],[],(0:Int),false)))),(2,(.sl 108 QD .ow z2)),(3,(.box [(aL (z1.1)),(bf QO (z1.2.1)),(bf aM (z1.2.2.1)),(bE (z1.2.2.2.1)),(bE (z1.2.2.2.2.1)),(.r QD 2 0 (z2.length)),(bf [(.sl [TI])] (z1.2.2.2.2.2.2.1)),(bf [TI] ([]:List Int)),(bf [TI] y8),(bf [TI] (z1.2.2.2.2.2.2.2.2.2.1)),(bf [TI] (z1.2.2.2.2.2.2.2.2.2.2.1)),(bf [(.sl [TI])] (z1.2.2.2.2.2.2.2.2.2.2.2.1)),(aL jR),(bE jS)]))],4⟩
theorem QOl(s:Qc)(m:Int)(y8:List Int)(jR:Int)(jS:Bool)(r:List (List Int)) (h :
 let z2:=id (α:=Qc) s
 let z3:=List.take ((z2.2.2.2.2.2.1).length) (z2.2.2.2.2.2.1)
 let z1:=List.take (z3.length) z3
 (((z1.length=z1.length\/z1.length+1<=z1.length)/\z1.length+1<=ca)/\K (uD (z2.1,z2.2.1,z2.2.2.1,z2.2.2.2.1,z2.2.2.2.2.1,(List.take (z1.length+1) (List.drop 0 ((List.take (z1.length) z1)++([(m,r)])))),z2.2.2.2.2.2.2.1,([]:List Int),y8,z2.2.2.2.2.2.2.2.2.2.1,z2.2.2.2.2.2.2.2.2.2.2.1,z2.2.2.2.2.2.2.2.2.2.2.2.1,jR,jS)))):dt (CB K s m y8 jR jS r) :=
 dt.of h
theorem QIo(s:Qc)(m:Int)(x:List Int)(y8:List Int)(jR:Int)(jS:Bool) (h :
 (aI s.2.2.2.2.1 (((0:Int)<=0/\(0:Int)<=1/\1<=(((QV s.2.2.1 x).1).length:Int))/\(CB K s m y8 jR jS (List.take (Int.toNat 1-Int.toNat 0) (List.drop (Int.toNat 0) ((QV s.2.2.1 x).1))))) (CB K s m y8 jR jS ((QV s.2.2.1 x).1)))):dt (CC K s m x y8 jR jS) :=
 dt.of h
theorem QQx(s:Qc)(m:Int)(x:List Int)(t:List Int)(hp:JJ s m x t):aK Tryz.prog 28 [(.a (aT.cells Qe s)),(.c TI m),(.c (.sl [TI]) x),(.c (.sl [TI]) t)] (uD (ZV s m x t)):=by
 refine bz Mt QXy Qw6 0 0 139 Ms (kc CA (kc Bp (kc YL (kc KV (kc QqC (kc QFl (kc xM kn))))))) (λK =>
 let z2:=id (α:=Qc) s
 let z3:=QV s.2.2.1 x
 let z1:=aq ([]:List Int) (z3.1) (Int.toNat (aG (((z3.1).length:Int)-1)))
 let z4:=Q4 s.2.2.2.2.2.2.2.2.2.2.2.2.1 ((Yb z1 t).1)
 let z5:=aG (((s.2.2.1).length:Int)-1)
 ((Qt (α:=Qc) s)/\((((!((!(QU s))||(!(QK x))))=true->((0:Int)<=0/\Int.toNat 0<(s.2.2.1).length))/\((!((((!(QU s))||(!(QK x)))||((x.length:Int) != ((aq b5 s.2.2.1 (Int.toNat 0)).2.1)))||(decide ((QJ s.2.2.2.2.2.1 m)>=0))))=true->(s.2.2.2.1=true->((!(!(QK t)))=true->(0<=aG (((s.2.2.1).length:Int)-1)/\Int.toNat z5<(s.2.2.1).length)))))/\(aI (((((!(QU s))||(!(QK x)))||((x.length:Int) != ((aq b5 s.2.2.1 (Int.toNat 0)).2.1)))||(decide ((QJ s.2.2.2.2.2.1 m)>=0)))||(s.2.2.2.1&&((!(QK t))||((t.length:Int) != ((aq b5 s.2.2.1 (Int.toNat z5)).2.2.1))))) (K (uD (z2.1,z2.2.1,z2.2.2.1,z2.2.2.2.1,z2.2.2.2.2.1,(List.take ((z2.2.2.2.2.2.1).length) (List.drop 0 (z2.2.2.2.2.2.1))),z2.2.2.2.2.2.2.1,z2.2.2.2.2.2.2.2.1,z2.2.2.2.2.2.2.2.2.1,z2.2.2.2.2.2.2.2.2.2.1,z2.2.2.2.2.2.2.2.2.2.2.1,z2.2.2.2.2.2.2.2.2.2.2.2.1,z2.2.2.2.2.2.2.2.2.2.2.2.2.1,z2.2.2.2.2.2.2.2.2.2.2.2.2.2))) ((Ar s.2.2.1 x)/\((0<=aG (((z3.1).length:Int)-1)/\Int.toNat (aG (((z3.1).length:Int)-1))<(z3.1).length)/\(aI s.2.2.2.1 (CC K s m x (z2.2.2.2.2.2.2.2.2.1) (z4.1) (((s.2.2.2.2.2.2.2.2.2.2.2.2.2||(z3.2))||((Yb z1 t).2))||(z4.2))) (((0=0\/0+z1.length<=0)/\0+z1.length<=ca)/\(CC K s m x (List.take (0+z1.length) (List.drop 0 z1)) (z2.2.2.2.2.2.2.2.2.2.2.2.2.1) (s.2.2.2.2.2.2.2.2.2.2.2.2.2||(z3.2))))))))))) (λhb=>?_)
 conv=>zeta
 have iO:Sz.sz s<=2147483648:=hp;have hs:=ZL s;have l1:=Ym (Qi s);simp only[id,List.drop_zero,List.take_length,true_or,true_and,Nat.zero_add];have oh:QU s=true->Int.toNat (aG ((s.2.2.1.length:Int)-1))=s.2.2.1.length-1/\0<=aG ((s.2.2.1.length:Int)-1)/\1<=s.2.2.1.length:=by
  intro h;have:=Yw (YN h);rw[QF (by((try simp only[bU,Qw,aE,Qn,Qp,Qi,QB,sX,sY,sG,sD,Qz,Qx,bh,QA,QE,Qr,Qq]at *);omega)) (by((try simp only[bU,Qw,aE,Qn,Qp,Qi,QB,sX,sY,sG,sD,Qz,Qx,bh,QA,QE,Qr,Qq]at *);omega))];((try simp only[bU,Qw,aE,Qn,Qp,Qi,QB,sX,sY,sG,sD,Qz,Qx,bh,QA,QE,Qr,Qq]at *);omega)
 have e:=QLj s m x t (Int.toNat (aG ((s.2.2.1.length:Int)-1))) (λh=>(oh h).1);have hb:∀ {b x:Bool},(!((!b)||x))=true->b=true:=by intro b x h;cases b <;> simp_all
 refine⟨hp,⟨λh=>⟨by omega,?_⟩,λh _ _=>?_⟩,λh=>au ?_,λh=>?_⟩
 ·have:=oh (hb h);simp;((try simp only[bU,Qw,aE,Qn,Qp,Qi,QB,sX,sY,sG,sD,Qz,Qx,bh,QA,QE,Qr,Qq]at *);omega)
 ·have h:QU s=true:=by
   cases hh:QU s
   ·rw[hh]at h;simp at h
   ·rfl
  have:=oh h;exact⟨this.2.1,by((try simp only[bU,Qw,aE,Qn,Qp,Qi,QB,sX,sY,sG,sD,Qz,Qx,bh,QA,QE,Qr,Qq]at *);omega)⟩
 ·have e:(!Y7 s m x t)=true:=e ▸ h;simp only[Bool.not_eq_true']at e;rw[Ml (by rw[e];simp)]
 have e:(!Y7 s m x t)=false:=e ▸ h;have e:Y7 s m x t=true:=by simpa using e
 have e2:=e;simp only[Y7,Bool.and_eq_true]at e2;have hm:=YN e2.1.1.1;have cW:=Yw hm;have tz:=Gk (aE s) x;have hx6:=Y8 e2.1.1.2;have bV:=yt (aE s) x;have da:=QvQ e;have hw:aG (((QV (aE s) x).1.length:Int)-1)=((aE s).length:Nat):=by rw[tz,QF (by((try simp only[bU,Qw,aE,Qn,Qp,Qi,QB,sX,sY,sG,sD,Qz,Qx,bh,QA,QE,Qr,Qq]at *);omega)) (by((try simp only[bU,Qw,aE,Qn,Qp,Qi,QB,sX,sY,sG,sD,Qz,Qx,bh,QA,QE,Qr,Qq]at *);omega))];((try simp only[bU,Qw,aE,Qn,Qp,Qi,QB,sX,sY,sG,sD,Qz,Qx,bh,QA,QE,Qr,Qq]at *);omega)
 have oA:=nX [] (QV (aE s) x).1 (aE s).length;have hgi:=ZH (aq [] (QV (aE s) x).1 (aE s).length);have e0:Sz.sz ([]:List Int)=0:=rfl;have k1:∀ y8 jR jS,y8=(if Qn s then sY s else aq [] (QV (aE s) x).1 (aE s).length)->
   jR=(if Qn s then(Q4 (Qx s) (Yb (aq [] (QV (aE s) x).1 (aE s).length) t).1).1 else Qx s)->
   jS=(bh s||(QV (aE s) x).2||(Qn s&&((Yb (aq [] (QV (aE s) x).1 (aE s).length) t).2||(Q4 (Qx s) (Yb (aq [] (QV (aE s) x).1 (aE s).length) t).1).2)))->CC (λr'=>r'=uD (ZV s m x t)) s m x y8 jR jS:=by
  intro y8 jR jS h1 h2 h3;have k2:∀ r,r=(if Qp s then(QV (aE s) x).1.take 1 else(QV (aE s) x).1)->CB (λr'=>r'=uD (ZV s m x t)) s m y8 jR jS r:=by
   intro r hr;refine(QOl _ _ _ _ _ _ _ ?_).h
   conv=>zeta
   simp only[id,List.drop_zero,List.take_length,true_or,true_and,Nat.zero_add,Q8];refine⟨by rw[Zg];((try simp only[bU,Qw,aE,Qn,Qp,Qi,QB,sX,sY,sG,sD,Qz,Qx,bh,QA,QE,Qr,Qq]at *);omega),au ?_⟩;rw[da,<- hr,<- h1,<- h2,<- h3];simp[List.take_of_length_le]
  refine(QIo _ _ _ _ _ _ _ ⟨λhr=>⟨by((try simp only[bU,Qw,aE,Qn,Qp,Qi,QB,sX,sY,sG,sD,Qz,Qx,bh,QA,QE,Qr,Qq]at *);omega),k2 _ ?_⟩,λhr=>k2 _ ?_⟩).h
  ·rw[if_pos hr];rfl
  ·rw[if_neg (by rw[show Qp s=false from hr];simp)]
 rw[hw];refine⟨⟨by((try simp only[bU,Qw,aE,Qn,Qp,Qi,QB,sX,sY,sG,sD,Qz,Qx,bh,QA,QE,Qr,Qq]at *);omega),by omega⟩,⟨by omega,by rw[Int.toNat_natCast];((try simp only[bU,Qw,aE,Qn,Qp,Qi,QB,sX,sY,sG,sD,Qz,Qx,bh,QA,QE,Qr,Qq]at *);omega)⟩,λhl=>k1 _ _ _ ?_ ?_ ?_,λhl=>⟨?_,k1 _ _ _ ?_ ?_ ?_⟩⟩
 ·rw[if_pos hl]
 ·rw[if_pos hl,Int.toNat_natCast]
 ·rw[show Qn s=true from hl,Int.toNat_natCast];simp[Bool.or_assoc]
 ·rw[Int.toNat_natCast,Zg];((try simp only[bU,Qw,aE,Qn,Qp,Qi,QB,sX,sY,sG,sD,Qz,Qx,bh,QA,QE,Qr,Qq]at *);omega)
 ·rw[if_neg (by rw[show Qn s=false from hl];simp),Int.toNat_natCast]
 ·rw[if_neg (by rw[show Qn s=false from hl];simp)]
 ·rw[show Qn s=false from hl];simp
theorem QIK:Qf Tryz.prog Ms:=Qh λx h=>QQx x.1 x.2.1 x.2.2.1 x.2.2.2.1 h
def CD(t:Qc):aB:=⟨(.a [(aL t.1),(.r QO 0 0 ((t.2.1).length)),(.r aM 1 0 ((t.2.2.1).length)),(bE t.2.2.2.1),(bE t.2.2.2.2.1),(.r QD 2 0 ((t.2.2.2.2.2.1).length)),(.r [(.sl [TI])] 3 0 ((t.2.2.2.2.2.2.1).length)),(.r [TI] 4 0 ((t.2.2.2.2.2.2.2.1).length)),(.r [TI] 5 0 ((t.2.2.2.2.2.2.2.2.1).length)),(.r [TI] 6 0 ((t.2.2.2.2.2.2.2.2.2.1).length)),(.r [TI] 7 0 ((t.2.2.2.2.2.2.2.2.2.2.1).length)),(.r [(.sl [TI])] 8 0 ((t.2.2.2.2.2.2.2.2.2.2.2.1).length)),(aL t.2.2.2.2.2.2.2.2.2.2.2.2.1),(bE t.2.2.2.2.2.2.2.2.2.2.2.2.2)]),[(.sl 175 QO (.dp 0 true []) t.2.1),(.sl 134 aM (.dp 0 true []) t.2.2.1),(.sl 108 QD (.dp 0 true []) t.2.2.2.2.2.1),(.sl 106 [(.sl [TI])] (.dp 0 true []) t.2.2.2.2.2.2.1),(.sl 3 [TI] (.dp 0 true []) t.2.2.2.2.2.2.2.1),(.sl 3 [TI] (.dp 0 true []) t.2.2.2.2.2.2.2.2.1),(.sl 3 [TI] (.dp 0 true []) t.2.2.2.2.2.2.2.2.2.1),(.sl 3 [TI] (.dp 0 true []) t.2.2.2.2.2.2.2.2.2.2.1),(.sl 106 [(.sl [TI])] (.dp 0 true []) t.2.2.2.2.2.2.2.2.2.2.2.1)],[],false,[]⟩
def Mu:aJ:=Qg 15 [(.a Qe),(.c TI)] λx=>(some (pf x.1 x.2.1),CD (Yn x.1 x.2.1))
def QN3:aF:=⟨[uA,x7,ue,ua,Ch],true⟩
def QN4:af :=
 (ag [(.ae [aC 2 (.box 39 0 14),aC 4 (.new 39 (bG Qe))]),(.ae [a9 7 2 14,aD 8 70 [7],aC 5 (.new 39 (bG Qe)),aV 5 8 14]),(.ae [ak 9 2 5,an 10 9 1,ab 11 1,aD 12 71 [10,11],ab 6 12]),(ag [(.ae [a9 13 2 14,aD 14 72 [13],bL 15 14,ab 16 15,.bw 16 false [ab 17 6,aw 18 .lss 17 (ar 0)] 19 18]),(.cond 19 (ag [(.ae [a9 20 5 14,aV 4 20 14]),.ret]) .skip)]),(.draw [a9 22 2 14,aD 23 74 [22],ak 24 2 5,an 25 24 1,ab 26 6,aZ 27 25 26 QD,ak 28 27 1,an 29 28 1,aZ 30 29 (ar 0) [(.sl [TI])],ak 31 30 0,an 32 31 1,aD 33 73 [23,32],ab 21 33,bF 34 21 0,bF 35 21 1,ak 36 5 6,aV 36 34 1] [(1,2),(1,3),(1,5),(1,6),(1,7),(1,8),(1,9),(1,10)]),(.ae [a9 37 5 14,aV 4 37 14]),.ret])
def QWR:List (bn × Md):=[(.l 4 14 true,.b [.d,.p 175,.p 134,.d,.d,.p 108,.p 106,.p 3,.p 3,.p 3,.p 3,.p 106,.d,.d])]
theorem QRH(s:Qc)(m:Int)(hp:pf s m):aK Tryz.prog 15 [(.a (aT.cells Qe s)),(.c TI m)] (CD (Yn s m)):=by
 refine bz QN3 QN4 QWR 0 0 38 Mu (kc Cy (kc KX (kc Bk (kc Bd (kc Qtk kn))))) (λK =>
 let z1:=id (α:=Qc) s
 let z3:=QJ s.2.2.2.2.2.1 m
 let z2:=JP (Zn s) (aq ([]:List Int) ((aq QS s.2.2.2.2.2.1 (Int.toNat z3)).2) (Int.toNat 0))
 let z4:=List.take ((z1.2.2.2.2.2.2.2.2.2.2.2.1).length) (z1.2.2.2.2.2.2.2.2.2.2.2.1)
 let z5:=List.take ((z1.2.2.2.2.2.2.2.2.2.2.1).length) (z1.2.2.2.2.2.2.2.2.2.2.1)
 let z6:=List.take ((z1.2.2.2.2.2.2.2.2.2.1).length) (z1.2.2.2.2.2.2.2.2.2.1)
 let z7:=List.take ((z1.2.2.2.2.2.2.2.2.1).length) (z1.2.2.2.2.2.2.2.2.1)
 let z8:=List.take ((z1.2.2.2.2.2.2.2.1).length) (z1.2.2.2.2.2.2.2.1)
 let z9:=List.take ((z1.2.2.2.2.2.1).length) (z1.2.2.2.2.2.1)
 ((Qt (α:=Qc) s)/\(aI ((!(QU s))||(decide (z3<0))) (K (CD (z1.1,(List.take ((z1.2.1).length) (z1.2.1)),(List.take ((z1.2.2.1).length) (z1.2.2.1)),z1.2.2.2.1,z1.2.2.2.2.1,z9,(List.take ((z1.2.2.2.2.2.2.1).length) (z1.2.2.2.2.2.2.1)),z8,z7,z6,z5,z4,z1.2.2.2.2.2.2.2.2.2.2.2.2.1,z1.2.2.2.2.2.2.2.2.2.2.2.2.2))) (((0<=z3/\Int.toNat z3<(s.2.2.2.2.2.1).length)/\((0:Int)<=0/\Int.toNat 0<((aq QS s.2.2.2.2.2.1 (Int.toNat z3)).2).length))/\K (CD (z1.1,(List.take ((z1.2.1).length) (z1.2.1)),(List.take ((z1.2.2.1).length) (z1.2.2.1)),z1.2.2.2.1,z1.2.2.2.2.1,z9,(List.take ((z2.1).length) (z2.1)),z8,z7,z6,z5,z4,z1.2.2.2.2.2.2.2.2.2.2.2.2.1,z1.2.2.2.2.2.2.2.2.2.2.2.2.2)))))) (λhb=>?_)
 conv=>zeta
 have iO:Sz.sz s<=2147483648:=hp;simp only[id,List.drop_zero,List.take_length];rw[Cu];refine⟨hp,λh=>au ?_,λh=>?_⟩
 ·simp only[Bool.not_eq_true']at h;rw[QCm (by rw[h];simp)]
 have h:(QU s&&decide (0<=QJ (Qi s) m))=true:=by simpa using h
 have h':=h;simp only[Bool.and_eq_true,decide_eq_true_eq]at h';have hf:=yu (Qi s) m;have hk:(QJ (Qi s) m).toNat<(Qi s).length:=by omega
 have hr:=Mi h'.1 (Mh h'.1 _ (JA hk QS));have ei:JP (Zn s) (aq [] (aq QS s.2.2.2.2.2.1 (QJ s.2.2.2.2.2.1 m).toNat).2 0)=QV (aE s) (aq [] (aq QS s.2.2.2.2.2.1 (QJ s.2.2.2.2.2.1 m).toNat).2 0):=Gv (YN h'.1) hr.2.2;refine⟨⟨⟨h'.2,hk⟩,⟨by omega,hr.1⟩⟩,au ?_⟩;rw[show Int.toNat 0=0 from rfl,ei];unfold Yn;simp only;rw[if_pos h]
theorem QFo:Qf Tryz.prog Mu:=Qh λx h=>QRH x.1 x.2.1 h
def CE(t:Qc):aB:=f5 (.a (aT.cells Qe t))
def Mv:aJ:=Qg 13 [(.a Qe),(.c TI)] λx=>(some (pf x.1 x.2.1),CE (Yn x.1 x.2.1))
def QWF:aF:=⟨[uC,x4,uf,Ck],false⟩
def QTU:af :=
 (ag [(.ae [aC 2 (.box 39 0 14),aC 4 (.new 39 (bG Qe))]),(.ae [a9 9 2 14,aD 10 61 [9],aC 5 (.new 39 (bG Qe)),aV 5 10 14]),(.ae [ak 11 2 5,an 12 11 1,ab 13 1,aD 14 62 [12,13],ab 6 14]),(ag [(.ae [a9 15 2 14,aD 16 63 [15],bL 17 16,ab 18 17,.bw 18 false [ab 19 6,aw 20 .lss 19 (ar 0)] 21 20]),(.cond 21 (ag [(.ae [a9 22 5 14,aV 4 22 14]),.ret]) .skip)]),(.draw [ak 24 2 2,an 25 24 1,ak 26 2 5,an 27 26 1,ab 28 6,aZ 29 27 28 QD,ak 30 29 1,an 31 30 1,aZ 32 31 (ar 0) [(.sl [TI])],ak 33 32 0,an 34 33 1,aD 35 64 [25,34],ab 23 35,bF 36 23 0,bF 37 23 1,ab 7 36,ab 8 37] []),(.ae [ab 38 7,ak 39 5 6,aV 39 38 1]),(.ae [a9 40 5 14,aV 4 40 14]),.ret])
def QIV:List (bn × Md):=[(.l 4 14 true,.b (dO 14))]
theorem QF1(s:Qc)(m:Int)(hp:pf s m):aK Tryz.prog 13 [(.a (aT.cells Qe s)),(.c TI m)] (CE (Yn s m)):=by
 refine bz QWF QTU QIV 0 0 41 Mv (kc CA (kc KV (kc Bp (kc QqC kn)))) (λK =>
 let z1:=id (α:=Qc) s
 let z2:=QJ s.2.2.2.2.2.1 m
 let z3:=aq ([]:List Int) ((aq QS s.2.2.2.2.2.1 (Int.toNat z2)).2) (Int.toNat 0)
 let z4:=List.take ((z1.2.2.2.2.2.1).length) (List.drop 0 (z1.2.2.2.2.2.1))
 ((Qt (α:=Qc) s)/\(aI ((!(QU s))||(decide (z2<0))) (K (CE (z1.1,z1.2.1,z1.2.2.1,z1.2.2.2.1,z1.2.2.2.2.1,z4,z1.2.2.2.2.2.2.1,z1.2.2.2.2.2.2.2.1,z1.2.2.2.2.2.2.2.2.1,z1.2.2.2.2.2.2.2.2.2.1,z1.2.2.2.2.2.2.2.2.2.2.1,z1.2.2.2.2.2.2.2.2.2.2.2.1,z1.2.2.2.2.2.2.2.2.2.2.2.2.1,z1.2.2.2.2.2.2.2.2.2.2.2.2.2))) (((0<=z2/\Int.toNat z2<(s.2.2.2.2.2.1).length)/\(((0:Int)<=0/\Int.toNat 0<((aq QS s.2.2.2.2.2.1 (Int.toNat z2)).2).length)/\(Ar s.2.2.1 z3)))/\K (CE (z1.1,z1.2.1,z1.2.2.1,z1.2.2.2.1,z1.2.2.2.2.1,z4,(QV s.2.2.1 z3).1,z1.2.2.2.2.2.2.2.1,z1.2.2.2.2.2.2.2.2.1,z1.2.2.2.2.2.2.2.2.2.1,z1.2.2.2.2.2.2.2.2.2.2.1,z1.2.2.2.2.2.2.2.2.2.2.2.1,z1.2.2.2.2.2.2.2.2.2.2.2.2.1,z1.2.2.2.2.2.2.2.2.2.2.2.2.2)))))) (λhb=>?_)
 conv=>zeta
 have iO:Sz.sz s<=2147483648:=hp;simp only[id,List.drop_zero,List.take_length];rw[Cu];refine⟨hp,λh=>au ?_,λh=>?_⟩
 ·simp only[Bool.not_eq_true']at h;rw[QCm (by rw[h];simp)]
 have h:(QU s&&decide (0<=QJ (Qi s) m))=true:=by simpa using h
 have h':=h;simp only[Bool.and_eq_true,decide_eq_true_eq]at h';have hf:=yu (Qi s) m;have hk:(QJ (Qi s) m).toNat<(Qi s).length:=by omega
 have hr:=Mi h'.1 (Mh h'.1 _ (JA hk QS));have hv:=Y8 hr.2.2;have cW:=Yw (YN h'.1);refine⟨⟨⟨h'.2,hk⟩,⟨by omega,hr.1⟩,⟨by((try simp only[bU,Qw,aE,Qn,Qp,Qi,QB,sX,sY,sG,sD,Qz,Qx,bh,QA,QE,Qr,Qq]at *);omega),Nat.le_trans hv (by omega)⟩⟩,au ?_⟩;rw[show Int.toNat 0=0 from rfl];unfold Yn;simp only;rw[if_pos h]
theorem QOO:Qf Tryz.prog Mv:=Qh λx h=>QF1 x.1 x.2.1 h
def Y9(t:Qc):aB:=⟨(.a [(aL t.1),(.r QO 0 0 ((t.2.1).length)),(.r aM 1 0 ((t.2.2.1).length)),(bE t.2.2.2.1),(bE t.2.2.2.2.1),(.r QD 2 0 ((t.2.2.2.2.2.1).length)),(.r [(.sl [TI])] 3 0 ((t.2.2.2.2.2.2.1).length)),(.r [TI] 4 0 ((t.2.2.2.2.2.2.2.1).length)),(.r [TI] 5 0 ((t.2.2.2.2.2.2.2.2.1).length)),(.r [TI] 6 0 ((t.2.2.2.2.2.2.2.2.2.1).length)),(.r [TI] 7 0 ((t.2.2.2.2.2.2.2.2.2.2.1).length)),(.r [(.sl [TI])] 8 0 ((t.2.2.2.2.2.2.2.2.2.2.2.1).length)),(aL t.2.2.2.2.2.2.2.2.2.2.2.2.1),(bE t.2.2.2.2.2.2.2.2.2.2.2.2.2)]),[(.sl 175 QO (.dp 0 true []) t.2.1),(.sl 134 aM (.dp 0 true []) t.2.2.1),(.sl 108 QD (.dp 0 true []) t.2.2.2.2.2.1),(.sl 106 [(.sl [TI])] (.dp 0 true []) t.2.2.2.2.2.2.1),(.sl 3 [TI] (.dp 0 true []) t.2.2.2.2.2.2.2.1),(.sl 3 [TI] (.dp 0 true []) t.2.2.2.2.2.2.2.2.1),(.sl 3 [TI] (.dp 0 true []) t.2.2.2.2.2.2.2.2.2.1),(.sl 3 [TI] (.dp 0 true []) t.2.2.2.2.2.2.2.2.2.2.1),(.sl 106 [(.sl [TI])] (.dp 0 true []) t.2.2.2.2.2.2.2.2.2.2.2.1)],[],false,[]⟩
def Mw:aJ:=Qg 32 [(.a Qe),(.c TI),(.c (.sl [TI]))] λx=>(some (pg x.1 x.2.1 x.2.2.1),Y9 (ZD x.1 x.2.1 x.2.2.1))
def QFV:aF:=⟨[uA,x7,ue,Bf,BA,ua,xI,Jr,LZ,KD],true⟩
def QKp:af :=
 (ag [(.ae [aC 3 (.box 39 0 14),aC 6 (.new 39 (bG Qe))]),(.ae [a9 15 3 14,aD 16 70 [15],aC 7 (.new 39 (bG Qe)),aV 7 16 14]),(.ae [ak 17 3 5,an 18 17 1,ab 19 1,aD 20 71 [18,19],ab 8 20]),(ag [(.ae [a9 21 3 14,aD 22 72 [21],bL 23 22,ab 24 23,.bw 24 false [ab 25 8,aw 26 .lss 25 (ar 0)] 27 26]),(.cond 27 (ag [(.ae [a9 28 7 14,aV 6 28 14]),.ret]) .skip)]),(.ae [ak 29 7 5,an 30 29 1,ab 31 8,aZ 32 30 31 QD,ak 33 32 1,an 34 33 1,ab 9 34]),(ag [(.ae [ak 35 3 4,an 36 35 1]),(.cond 36 (.ae [ak 37 7 6,an 38 37 1,ab 9 38]) .skip)]),(.ae [ak 39 3 2,an 40 39 1,ba 41 40,ab 10 41]),(ag [(.ae [ab 42 9,ba 43 42,ab 44 10,aw 45 .add 44 (ar 1),aw 46 .neq 43 45,ab 47 46,.bw 47 false [ak 48 3 2,an 49 48 1,ab 50 9,ab 51 10,aD 52 110 [49,50,51],bL 53 52] 54 53]),(.cond 54 (ag [(.ae [a9 55 7 14,aV 6 55 14]),.ret]) .skip)]),(.ae [ak 56 7 9,an 57 56 1,ab 11 57,ab 12 (a6 false)]),(ag [(.ae [ak 58 3 3,an 59 58 1]),(.cond 59 (.ae [ab 61 9,ab 62 10,aZ 63 61 62 [(.sl [TI])],ak 64 63 0,an 65 64 1,ab 66 2,aD 67 111 [65,66],ab 60 67,bF 68 60 0,bF 69 60 1,ab 11 68,ab 12 69]) .skip)]),(ag [(.ae [ab 70 11,a9 71 3 14,aD 72 74 [71],aD 73 102 [72],aD 74 100 [70,73],bL 75 74]),(.cond 75 (ag [(.ae [a9 76 7 14,aV 6 76 14]),.ret]) .skip)]),(.ae [ak 78 3 2,an 79 78 1,ab 80 9,ab 81 11,aD 82 112 [79,80,81],ab 77 82,bF 83 77 0,bF 84 77 1,bF 85 77 2,ab 13 83,ab 11 84,ab 14 85]),(.ae [ak 86 7 11,a9 87 86 3,ab 88 13,ab 89 12,ab 90 89,.bw 90 false [ab 91 14] 92 91,aC 93 (.build (bG Zj) [(0,1,88),(2,1,92)]),aD 94 113 [87,93],ak 95 7 11,aV 95 94 3]),(.ae [ab 96 11,ak 97 7 10,aV 97 96 1]),(.ae [ak 98 7 9,aV 98 (.k (.n [TI])) 1]),(.ae [ak 99 7 6,aV 99 (.k (.n [(.sl [TI])])) 1]),(.draw [ak 100 7 5,an 101 100 1,ab 102 8,aC 103 (.fB 101 none (some 102) QD),ak 104 7 5,an 105 104 1,ab 106 8,aw 107 .add 106 (ar 1),aC 108 (.fB 105 (some 107) none QD),aC 109 (.app 103 108 108 QD),ak 110 7 5,aV 110 109 1] []),(.ae [a9 111 7 14,aV 6 111 14]),.ret])
def QGq:List (bn × Md):=[(.l 6 14 true,.b [.d,.p 175,.p 134,.d,.d,.p 108,.p 106,.p 3,.p 3,.p 3,.p 3,.p 106,.d,.d])]
theorem QPZ(s:Qc)(m:Int)(t:List Int)(hp:pg s m t):aK Tryz.prog 32 [(.a (aT.cells Qe s)),(.c TI m),(.c (.sl [TI]) t)] (Y9 (ZD s m t)):=by
 refine bz QFV QKp QGq 0 0 112 Mw (kc Cy (kc KX (kc Bk (kc Xl (kc Qy5 (kc Bd (kc IY (kc JS (kc QXE (kc QQK kn)))))))))) (λK =>
 let z1:=id (α:=Qc) s
 let z5:=List.take ((z1.2.2.2.2.2.2.2.2.2.1).length) (List.drop 0 (z1.2.2.2.2.2.2.2.2.2.1))
 let z7:=List.take ((z1.2.2.2.2.2.2.2.2.2.2.2.1).length) (List.drop 0 (z1.2.2.2.2.2.2.2.2.2.2.2.1))
 let z8:=List.take ((z1.2.2.2.2.2.2.1).length) (List.drop 0 (z1.2.2.2.2.2.2.1))
 let dQ:=QJ s.2.2.2.2.2.1 m
 let z6:=aq QS (z1.2.2.2.2.2.1) (0+(Int.toNat dQ))
 let z9:=Int.toNat dQ-Int.toNat 0
 let gV:=List.take ((z1.2.2.2.2.2.2.2.2.1).length) (z1.2.2.2.2.2.2.2.2.1)
 let gW:=List.take ((z1.2.2.2.2.2.2.2.1).length) (z1.2.2.2.2.2.2.2.1)
 let mA:=List.take ((z1.2.2.2.2.2.2.2.2.2.2.2.1).length) (z1.2.2.2.2.2.2.2.2.2.2.2.1)
 let mB:=List.take ((z1.2.2.2.2.2.2.2.2.2.2.1).length) (z1.2.2.2.2.2.2.2.2.2.2.1)
 let kU:=List.take ((z1.2.2.2.2.2.2.2.2.2.1).length) (z1.2.2.2.2.2.2.2.2.2.1)
 let kb:=List.take ((z1.2.2.1).length) (z1.2.2.1)
 let ke:=List.take ((z1.2.1).length) (z1.2.1)
 let mC:=List.take ((z1.2.2.2.2.2.2.1).length) (z1.2.2.2.2.2.2.1)
 let mD:=List.take ((z1.2.2.2.2.2.1).length) (z1.2.2.2.2.2.1)
 let uE:=Q2 s.2.2.1 (z6.2) z5
 let uF:=Q2 s.2.2.1 z8 z5
 let CF:=aG (((s.2.2.1).length:Int)+1)
 let uG:=aG (dQ+1)
 let z4:=List.take (Int.toNat (((z1.2.2.2.2.2.1).length:Nat):Int)-Int.toNat uG) (List.drop (0+Int.toNat uG) (z1.2.2.2.2.2.1))
 let su:=List.take (z9+z4.length) ((List.take z9 (z1.2.2.2.2.2.1))++z4)
 let Mx:=Int.toNat ((s.2.2.1).length:Int)
 let eX:=QY (aq ([]:List Int) (z1.2.2.2.2.2.2.1) (0+Mx)) t
 let eW:=QY (aq ([]:List Int) (z6.2) Mx) t
 let My:=List.take ((eX.1).length) (List.drop 0 (eX.1))
 let z3:=Q2 s.2.2.1 z8 My
 let Mz:=List.take ((eW.1).length) (List.drop 0 (eW.1))
 let z2:=Q2 s.2.2.1 (z6.2) Mz
 let CG:=Zu (Zn s)
 let z35:=List.take ((uF.1).length) (List.drop 0 (uF.1))
 let gy:=ZZ (z7,z1.2.2.2.2.2.2.2.2.2.2.2.2.1,z1.2.2.2.2.2.2.2.2.2.2.2.2.2) (z35,(0:Int),(false||(uF.2.2)))
 let z36:=List.take ((uE.1).length) (List.drop 0 (uE.1))
 let gx:=ZZ (z7,z1.2.2.2.2.2.2.2.2.2.2.2.2.1,z1.2.2.2.2.2.2.2.2.2.2.2.2.2) (z36,(0:Int),(false||(uE.2.2)))
 let z37:=List.take ((z3.1).length) (List.drop 0 (z3.1))
 let kS:=ZZ (z7,z1.2.2.2.2.2.2.2.2.2.2.2.2.1,z1.2.2.2.2.2.2.2.2.2.2.2.2.2) (z37,(0:Int),((eX.2)||(z3.2.2)))
 let z38:=List.take ((z2.1).length) (List.drop 0 (z2.1))
 let kT:=ZZ (z7,z1.2.2.2.2.2.2.2.2.2.2.2.2.1,z1.2.2.2.2.2.2.2.2.2.2.2.2.2) (z38,(0:Int),((eW.2)||(z2.2.2)))
 ((Qt (α:=Qc) s)/\(aI ((!(QU s))||(decide (dQ<0))) (K (Y9 (z1.1,ke,kb,z1.2.2.2.1,z1.2.2.2.2.1,mD,mC,gW,gV,kU,mB,mA,z1.2.2.2.2.2.2.2.2.2.2.2.2.1,z1.2.2.2.2.2.2.2.2.2.2.2.2.2))) (((0<=dQ/\Int.toNat dQ<(z1.2.2.2.2.2.1).length)/\((0+(Int.toNat dQ))<(z1.2.2.2.2.2.1).length))/\(aI s.2.2.2.2.1 (((!((((z1.2.2.2.2.2.2.1).length:Nat):Int) != CF))=true->(xh s.2.2.1 z8 ((s.2.2.1).length:Int)))/\(aI (((((z1.2.2.2.2.2.2.1).length:Nat):Int) != CF)||(!(ZQ s.2.2.1 z8 ((s.2.2.1).length:Int)))) (K (Y9 (z1.1,ke,kb,z1.2.2.2.1,z1.2.2.2.2.1,mD,mC,gW,gV,kU,mB,mA,z1.2.2.2.2.2.2.2.2.2.2.2.2.1,z1.2.2.2.2.2.2.2.2.2.2.2.2.2))) (aI s.2.2.2.1 (((0<=((s.2.2.1).length:Int)/\Int.toNat ((s.2.2.1).length:Int)<(z1.2.2.2.2.2.2.1).length)/\((0+Mx)<(z1.2.2.2.2.2.2.1).length))/\(aI (!(QH My CG)) (K (Y9 (z1.1,ke,kb,z1.2.2.2.1,z1.2.2.2.2.1,mD,mC,gW,gV,kU,mB,mA,z1.2.2.2.2.2.2.2.2.2.2.2.2.1,z1.2.2.2.2.2.2.2.2.2.2.2.2.2))) ((tI s.2.2.1 z8 My)/\((Zp (α:=QN) (β:=QN) (z7,z1.2.2.2.2.2.2.2.2.2.2.2.2.1,z1.2.2.2.2.2.2.2.2.2.2.2.2.2) (z37,(0:Int),((eX.2)||(z3.2.2))))/\((((0:Int)<=0/\0<=dQ/\dQ<=(((z1.2.2.2.2.2.1).length:Nat):Int))/\((0<=aG (dQ+1)/\aG (dQ+1)<=(((z1.2.2.2.2.2.1).length:Nat):Int)/\(((z1.2.2.2.2.2.1).length:Nat):Int)<=(((z1.2.2.2.2.2.1).length:Nat):Int))/\(((z9=(z1.2.2.2.2.2.1).length\/z9+z4.length<=(z1.2.2.2.2.2.1).length)/\z9+z4.length<=ca)/\(z9<=(0+Int.toNat uG)))))/\K (Y9 (z1.1,ke,kb,z1.2.2.2.1,z1.2.2.2.2.1,su,([]:List (List Int)),gW,gV,([]:List Int),(List.take ((z3.2.1).length) (z3.2.1)),(List.take ((kS.1).length) (kS.1)),kS.2.1,kS.2.2))))))) (aI (!(QH z5 CG)) (K (Y9 (z1.1,ke,kb,z1.2.2.2.1,z1.2.2.2.2.1,mD,mC,gW,gV,kU,mB,mA,z1.2.2.2.2.2.2.2.2.2.2.2.2.1,z1.2.2.2.2.2.2.2.2.2.2.2.2.2))) ((tI s.2.2.1 z8 z5)/\((Zp (α:=QN) (β:=QN) (z7,z1.2.2.2.2.2.2.2.2.2.2.2.2.1,z1.2.2.2.2.2.2.2.2.2.2.2.2.2) (z35,(0:Int),(false||(uF.2.2))))/\((((0:Int)<=0/\0<=dQ/\dQ<=(((z1.2.2.2.2.2.1).length:Nat):Int))/\((0<=aG (dQ+1)/\aG (dQ+1)<=(((z1.2.2.2.2.2.1).length:Nat):Int)/\(((z1.2.2.2.2.2.1).length:Nat):Int)<=(((z1.2.2.2.2.2.1).length:Nat):Int))/\(((z9=(z1.2.2.2.2.2.1).length\/z9+z4.length<=(z1.2.2.2.2.2.1).length)/\z9+z4.length<=ca)/\(z9<=(0+Int.toNat uG)))))/\K (Y9 (z1.1,ke,kb,z1.2.2.2.1,z1.2.2.2.2.1,su,([]:List (List Int)),gW,gV,([]:List Int),(List.take ((uF.2.1).length) (uF.2.1)),(List.take ((gy.1).length) (gy.1)),gy.2.1,gy.2.2))))))))) (((!(((z6.2).length:Int) != CF))=true->(xh s.2.2.1 (z6.2) ((s.2.2.1).length:Int)))/\(aI ((((z6.2).length:Int) != CF)||(!(ZQ s.2.2.1 (z6.2) ((s.2.2.1).length:Int)))) (K (Y9 (z1.1,ke,kb,z1.2.2.2.1,z1.2.2.2.2.1,mD,mC,gW,gV,kU,mB,mA,z1.2.2.2.2.2.2.2.2.2.2.2.2.1,z1.2.2.2.2.2.2.2.2.2.2.2.2.2))) (aI s.2.2.2.1 ((0<=((s.2.2.1).length:Int)/\Int.toNat ((s.2.2.1).length:Int)<(z6.2).length)/\(aI (!(QH Mz CG)) (K (Y9 (z1.1,ke,kb,z1.2.2.2.1,z1.2.2.2.2.1,mD,mC,gW,gV,kU,mB,mA,z1.2.2.2.2.2.2.2.2.2.2.2.2.1,z1.2.2.2.2.2.2.2.2.2.2.2.2.2))) ((tI s.2.2.1 (z6.2) Mz)/\((Zp (α:=QN) (β:=QN) (z7,z1.2.2.2.2.2.2.2.2.2.2.2.2.1,z1.2.2.2.2.2.2.2.2.2.2.2.2.2) (z38,(0:Int),((eW.2)||(z2.2.2))))/\((((0:Int)<=0/\0<=dQ/\dQ<=(((z1.2.2.2.2.2.1).length:Nat):Int))/\((0<=aG (dQ+1)/\aG (dQ+1)<=(((z1.2.2.2.2.2.1).length:Nat):Int)/\(((z1.2.2.2.2.2.1).length:Nat):Int)<=(((z1.2.2.2.2.2.1).length:Nat):Int))/\(((z9=(z1.2.2.2.2.2.1).length\/z9+z4.length<=(z1.2.2.2.2.2.1).length)/\z9+z4.length<=ca)/\(z9<=(0+Int.toNat uG)))))/\K (Y9 (z1.1,ke,kb,z1.2.2.2.1,z1.2.2.2.2.1,su,([]:List (List Int)),gW,gV,([]:List Int),(List.take ((z2.2.1).length) (z2.2.1)),(List.take ((kT.1).length) (kT.1)),kT.2.1,kT.2.2))))))) (aI (!(QH z5 CG)) (K (Y9 (z1.1,ke,kb,z1.2.2.2.1,z1.2.2.2.2.1,mD,mC,gW,gV,kU,mB,mA,z1.2.2.2.2.2.2.2.2.2.2.2.2.1,z1.2.2.2.2.2.2.2.2.2.2.2.2.2))) ((tI s.2.2.1 (z6.2) z5)/\((Zp (α:=QN) (β:=QN) (z7,z1.2.2.2.2.2.2.2.2.2.2.2.2.1,z1.2.2.2.2.2.2.2.2.2.2.2.2.2) (z36,(0:Int),(false||(uE.2.2))))/\((((0:Int)<=0/\0<=dQ/\dQ<=(((z1.2.2.2.2.2.1).length:Nat):Int))/\((0<=aG (dQ+1)/\aG (dQ+1)<=(((z1.2.2.2.2.2.1).length:Nat):Int)/\(((z1.2.2.2.2.2.1).length:Nat):Int)<=(((z1.2.2.2.2.2.1).length:Nat):Int))/\(((z9=(z1.2.2.2.2.2.1).length\/z9+z4.length<=(z1.2.2.2.2.2.1).length)/\z9+z4.length<=ca)/\(z9<=(0+Int.toNat uG)))))/\K (Y9 (z1.1,ke,kb,z1.2.2.2.1,z1.2.2.2.2.1,su,([]:List (List Int)),gW,gV,([]:List Int),(List.take ((uE.2.1).length) (uE.2.1)),(List.take ((gx.1).length) (gx.1)),gx.2.1,gx.2.2)))))))))))))) (λhb=>?_)
 conv=>zeta
 have iO:Sz.sz s<=2147483648:=hp;have hs:=ZL s;have l1:=Ym (Qi s);obtain⟨kf,fQ⟩:∃ kf,QJ s.2.2.2.2.2.1 m=kf:=⟨_,rfl⟩
 have hf:=yu (Qi s) m;rw[show QJ (Qi s) m=kf from fQ]at hf;have fk:Yx s kf t=false->(ZD s m t)=s:=λh=>QCJ (by rw[show QJ (Qi s) m=kf from fQ,h];simp);simp only[id,List.drop_zero,List.take_length,true_or,true_and,Nat.zero_add,Int.toNat_natCast];rw[Cu,show QJ (Qi s) m=kf from fQ];refine⟨hp,λh=>au ?_,λh=>?_⟩
 ·rw[fk];simp only[Bool.not_eq_true']at h;rw[JB,h];rfl
 simp only[Bool.not_eq_false',Bool.and_eq_true,decide_eq_true_eq]at h;obtain⟨h1,h2⟩:=h;obtain⟨kn,rfl⟩:∃ kn:Nat,kf=kn:=⟨kf.toNat,by omega⟩
 have cW:1<=s.2.2.1.length/\s.2.2.1.length<=8:=Yw (YN h1);have fF:=QAE h1;have yx:Sz.sz (α:=QN) s.2.2.2.2.2.2.2.2.2.2.2<=296:=Tj (YN h1) ⟨fF.1,fF.2⟩;have ado:Sz.sz s.2.2.2.2.2.2.2.2.2.2.2.1<=296:=by have h:=yx;simp only[QP,QL,Q0]at h;omega
 have hk:kn<s.2.2.2.2.2.1.length:=by((try simp only[bU,Qw,aE,Qn,Qp,Qi,QB,sX,sY,sG,sD,Qz,Qx,bh,QA,QE,Qr,Qq]at *);omega)
 have oU:(List.take (s.2.2.2.2.2.1.length-(kn+1)) (List.drop (kn+1) s.2.2.2.2.2.1)).length=s.2.2.2.2.2.1.length-(kn+1):=by simp
 rw[dP (k:=s.2.2.1.length) (by omega),dP (k:=kn) (by((try simp only[bU,Qw,aE,Qn,Qp,Qi,QB,sX,sY,sG,sD,Qz,Qx,bh,QA,QE,Qr,Qq]at *);omega))];simp only[Int.toNat_natCast,show Int.toNat 0=0 from rfl,Nat.sub_zero];refine⟨⟨⟨h2,by((try simp only[bU,Qw,aE,Qn,Qp,Qi,QB,sX,sY,sG,sD,Qz,Qx,bh,QA,QE,Qr,Qq]at *);omega)⟩,by((try simp only[bU,Qw,aE,Qn,Qp,Qi,QB,sX,sY,sG,sD,Qz,Qx,bh,QA,QE,Qr,Qq]at *);omega)⟩,λjT=>?_,λjT=>?_⟩
 ·have sv:(s.2.2.2.2.2.2.1)=Zq s (kn:Int):=by unfold Zq;rw[if_pos (show Qp s=true from jT)];try rfl
  refine⟨λh=>?_,λh=>au ?_,λh=>?_⟩
  ·simp at h;exact⟨by omega,by omega,by omega⟩
  ·rw[fk];rw[JB,<- sv];simp only[Bool.or_eq_true,bne_iff_ne,Bool.not_eq_true']at h
   rcases h with h | h
   ·have:((s.2.2.2.2.2.2.1).length==s.2.2.1.length+1)=false:=by rw[beq_eq_false_iff_ne];omega
    simp[this]
   ·have h':ZQ (aE s) (s.2.2.2.2.2.2.1) (aE s).length=false:=h;simp[h']
  ·simp only[Bool.or_eq_false_iff,bne_eq_false_iff_eq,Bool.not_eq_false']at h;have h3:((Zq s (kn:Int)).length==(aE s).length+1)=true:=by rw[<- sv,beq_iff_eq];have:=h.1;((try simp only[bU,Qw,aE,Qn,Qp,Qi,QB,sX,sY,sG,sD,Qz,Qx,bh,QA,QE,Qr,Qq]at *);omega)
   have h4:ZQ (aE s) (Zq s (kn:Int)) (aE s).length=true:=by rw[<- sv];exact h.2
   refine⟨λhl=>⟨⟨⟨by omega,by have:=h.1;omega⟩,by have:=h.1;omega⟩,?_⟩,λhl=>?_⟩
   ·have hr:(s.2.2.2.2.2.2.1)=Zq s (kn:Int):=by unfold Zq;rw[if_pos (show Qp s=true from jT)];try rfl
    have hd:(((QY (aq [] (s.2.2.2.2.2.2.1) s.2.2.1.length) t).1),((QY (aq [] (s.2.2.2.2.2.2.1) s.2.2.1.length) t).2))=eM s (kn:Int) t:=by unfold eM;rw[if_pos (show Qn s=true from hl),<- hr];try rfl
    have hb:Yx s (kn:Int) t=QH ((QY (aq [] (s.2.2.2.2.2.2.1) s.2.2.1.length) t).1) (Zu (Zn s)):=by
     rw[JB,<- hd,h1,h3,h4,decide_eq_true h2];rfl
    refine⟨λh=>au ?_,λh=>?_⟩
    ·rw[fk (by rw[hb];simpa using h)]
    ·have hv:QH ((QY (aq [] (s.2.2.2.2.2.2.1) s.2.2.1.length) t).1) (Zu (Zn s))=true:=by simpa using h
     have cH:Yx s (kn:Int) t=true:=by rw[hb,hv]
     have CH:=Y8 hv;have da:=yv (t:=t) (rows:=s.2.2.2.2.2.2.1) (d:=(QY (aq [] (s.2.2.2.2.2.2.1) s.2.2.1.length) t).1) (b:=(QY (aq [] (s.2.2.2.2.2.2.1) s.2.2.1.length) t).2) (by rw[show QJ (Qi s) m=(kn:Int) from fQ];exact cH) (by rw[show QJ (Qi s) m=(kn:Int) from fQ] ;exact hr) (by rw[show QJ (Qi s) m=(kn:Int) from fQ] ;exact hd);have jv:(s.2.2.2.2.2.2.1).length=s.2.2.1.length+1:=by rw[hr];rw[beq_iff_eq]at h3;exact h3
     have k7:=uy s.2.2.1 (s.2.2.2.2.2.2.1) ((QY (aq [] (s.2.2.2.2.2.2.1) s.2.2.1.length) t).1);refine⟨⟨⟨by omega,by rw[Zg];((try simp only[bU,Qw,aE,Qn,Qp,Qi,QB,sX,sY,sG,sD,Qz,Qx,bh,QA,QE,Qr,Qq]at *);omega)⟩,by omega⟩,?_,⟨⟨by omega,by omega,by omega⟩,⟨by omega,by omega,by omega⟩,?_,by omega⟩,au ?_⟩
     ·unfold Zp;simp only[YJ,QL,Q0]
      ((try simp only[bU,Qw,aE,Qn,Qp,Qi,QB,sX,sY,sG,sD,Qz,Qx,bh,QA,QE,Qr,Qq]at *);omega)
     ·rw[oU,Zg];((try simp only[bU,Qw,aE,Qn,Qp,Qi,QB,sX,sY,sG,sD,Qz,Qx,bh,QA,QE,Qr,Qq]at *);omega)
     ·rw[yw hk,da,show QJ (Qi s) m=(kn:Int) from fQ,Int.toNat_natCast]
   ·have hr:(s.2.2.2.2.2.2.1)=Zq s (kn:Int):=by unfold Zq;rw[if_pos (show Qp s=true from jT)];try rfl
    have hd:((s.2.2.2.2.2.2.2.2.2.1),(false))=eM s (kn:Int) t:=by unfold eM;rw[if_neg (by rw[show Qn s=false from hl];simp)];try rfl
    have hb:Yx s (kn:Int) t=QH (s.2.2.2.2.2.2.2.2.2.1) (Zu (Zn s)):=by
     rw[JB,<- hd,h1,h3,h4,decide_eq_true h2];rfl
    refine⟨λh=>au ?_,λh=>?_⟩
    ·rw[fk (by rw[hb];simpa using h)]
    ·have hv:QH (s.2.2.2.2.2.2.2.2.2.1) (Zu (Zn s))=true:=by simpa using h
     have cH:Yx s (kn:Int) t=true:=by rw[hb,hv]
     have CH:=Y8 hv;have da:=yv (t:=t) (rows:=s.2.2.2.2.2.2.1) (d:=s.2.2.2.2.2.2.2.2.2.1) (b:=false) (by rw[show QJ (Qi s) m=(kn:Int) from fQ];exact cH) (by rw[show QJ (Qi s) m=(kn:Int) from fQ] ;exact hr) (by rw[show QJ (Qi s) m=(kn:Int) from fQ] ;exact hd);have jv:(s.2.2.2.2.2.2.1).length=s.2.2.1.length+1:=by rw[hr];rw[beq_iff_eq]at h3;exact h3
     have k7:=uy s.2.2.1 (s.2.2.2.2.2.2.1) (s.2.2.2.2.2.2.2.2.2.1);refine⟨⟨⟨by omega,by rw[Zg];((try simp only[bU,Qw,aE,Qn,Qp,Qi,QB,sX,sY,sG,sD,Qz,Qx,bh,QA,QE,Qr,Qq]at *);omega)⟩,by omega⟩,?_,⟨⟨by omega,by omega,by omega⟩,⟨by omega,by omega,by omega⟩,?_,by omega⟩,au ?_⟩
     ·unfold Zp;simp only[YJ,QL,Q0]
      ((try simp only[bU,Qw,aE,Qn,Qp,Qi,QB,sX,sY,sG,sD,Qz,Qx,bh,QA,QE,Qr,Qq]at *);omega)
     ·rw[oU,Zg];((try simp only[bU,Qw,aE,Qn,Qp,Qi,QB,sX,sY,sG,sD,Qz,Qx,bh,QA,QE,Qr,Qq]at *);omega)
     ·rw[yw hk,da,show QJ (Qi s) m=(kn:Int) from fQ,Int.toNat_natCast]
 ·have sv:((aq QS s.2.2.2.2.2.1 kn).2)=Zq s (kn:Int):=by unfold Zq;rw[if_neg (by rw[show Qp s=false from jT];simp)];try rfl
  refine⟨λh=>?_,λh=>au ?_,λh=>?_⟩
  ·simp at h;exact⟨by omega,by omega,by omega⟩
  ·rw[fk];rw[JB,<- sv];simp only[Bool.or_eq_true,bne_iff_ne,Bool.not_eq_true']at h
   rcases h with h | h
   ·have:(((aq QS s.2.2.2.2.2.1 kn).2).length==s.2.2.1.length+1)=false:=by rw[beq_eq_false_iff_ne];omega
    simp[this]
   ·have h':ZQ (aE s) ((aq QS s.2.2.2.2.2.1 kn).2) (aE s).length=false:=h;simp[h']
  ·simp only[Bool.or_eq_false_iff,bne_eq_false_iff_eq,Bool.not_eq_false']at h;have h3:((Zq s (kn:Int)).length==(aE s).length+1)=true:=by rw[<- sv,beq_iff_eq];have:=h.1;((try simp only[bU,Qw,aE,Qn,Qp,Qi,QB,sX,sY,sG,sD,Qz,Qx,bh,QA,QE,Qr,Qq]at *);omega)
   have h4:ZQ (aE s) (Zq s (kn:Int)) (aE s).length=true:=by rw[<- sv];exact h.2
   refine⟨λhl=>⟨⟨by omega,by have:=h.1;omega⟩,?_⟩,λhl=>?_⟩
   ·have hr:((aq QS s.2.2.2.2.2.1 kn).2)=Zq s (kn:Int):=by unfold Zq;rw[if_neg (by rw[show Qp s=false from jT];simp)];try rfl
    have hd:(((QY (aq [] ((aq QS s.2.2.2.2.2.1 kn).2) s.2.2.1.length) t).1),((QY (aq [] ((aq QS s.2.2.2.2.2.1 kn).2) s.2.2.1.length) t).2))=eM s (kn:Int) t:=by unfold eM;rw[if_pos (show Qn s=true from hl),<- hr];try rfl
    have hb:Yx s (kn:Int) t=QH ((QY (aq [] ((aq QS s.2.2.2.2.2.1 kn).2) s.2.2.1.length) t).1) (Zu (Zn s)):=by
     rw[JB,<- hd,h1,h3,h4,decide_eq_true h2];rfl
    refine⟨λh=>au ?_,λh=>?_⟩
    ·rw[fk (by rw[hb];simpa using h)]
    ·have hv:QH ((QY (aq [] ((aq QS s.2.2.2.2.2.1 kn).2) s.2.2.1.length) t).1) (Zu (Zn s))=true:=by simpa using h
     have cH:Yx s (kn:Int) t=true:=by rw[hb,hv]
     have CH:=Y8 hv;have da:=yv (t:=t) (rows:=(aq QS s.2.2.2.2.2.1 kn).2) (d:=(QY (aq [] ((aq QS s.2.2.2.2.2.1 kn).2) s.2.2.1.length) t).1) (b:=(QY (aq [] ((aq QS s.2.2.2.2.2.1 kn).2) s.2.2.1.length) t).2) (by rw[show QJ (Qi s) m=(kn:Int) from fQ];exact cH) (by rw[show QJ (Qi s) m=(kn:Int) from fQ] ;exact hr) (by rw[show QJ (Qi s) m=(kn:Int) from fQ] ;exact hd);have jv:((aq QS s.2.2.2.2.2.1 kn).2).length=s.2.2.1.length+1:=by rw[hr];rw[beq_iff_eq]at h3;exact h3
     have k7:=uy s.2.2.1 ((aq QS s.2.2.2.2.2.1 kn).2) ((QY (aq [] ((aq QS s.2.2.2.2.2.1 kn).2) s.2.2.1.length) t).1);refine⟨⟨⟨by omega,by rw[Zg];((try simp only[bU,Qw,aE,Qn,Qp,Qi,QB,sX,sY,sG,sD,Qz,Qx,bh,QA,QE,Qr,Qq]at *);omega)⟩,by omega⟩,?_,⟨⟨by omega,by omega,by omega⟩,⟨by omega,by omega,by omega⟩,?_,by omega⟩,au ?_⟩
     ·unfold Zp;simp only[YJ,QL,Q0]
      ((try simp only[bU,Qw,aE,Qn,Qp,Qi,QB,sX,sY,sG,sD,Qz,Qx,bh,QA,QE,Qr,Qq]at *);omega)
     ·rw[oU,Zg];((try simp only[bU,Qw,aE,Qn,Qp,Qi,QB,sX,sY,sG,sD,Qz,Qx,bh,QA,QE,Qr,Qq]at *);omega)
     ·rw[yw hk,da,show QJ (Qi s) m=(kn:Int) from fQ,Int.toNat_natCast]
   ·have hr:((aq QS s.2.2.2.2.2.1 kn).2)=Zq s (kn:Int):=by unfold Zq;rw[if_neg (by rw[show Qp s=false from jT];simp)];try rfl
    have hd:((s.2.2.2.2.2.2.2.2.2.1),(false))=eM s (kn:Int) t:=by unfold eM;rw[if_neg (by rw[show Qn s=false from hl];simp)];try rfl
    have hb:Yx s (kn:Int) t=QH (s.2.2.2.2.2.2.2.2.2.1) (Zu (Zn s)):=by
     rw[JB,<- hd,h1,h3,h4,decide_eq_true h2];rfl
    refine⟨λh=>au ?_,λh=>?_⟩
    ·rw[fk (by rw[hb];simpa using h)]
    ·have hv:QH (s.2.2.2.2.2.2.2.2.2.1) (Zu (Zn s))=true:=by simpa using h
     have cH:Yx s (kn:Int) t=true:=by rw[hb,hv]
     have CH:=Y8 hv;have da:=yv (t:=t) (rows:=(aq QS s.2.2.2.2.2.1 kn).2) (d:=s.2.2.2.2.2.2.2.2.2.1) (b:=false) (by rw[show QJ (Qi s) m=(kn:Int) from fQ];exact cH) (by rw[show QJ (Qi s) m=(kn:Int) from fQ] ;exact hr) (by rw[show QJ (Qi s) m=(kn:Int) from fQ] ;exact hd);have jv:((aq QS s.2.2.2.2.2.1 kn).2).length=s.2.2.1.length+1:=by rw[hr];rw[beq_iff_eq]at h3;exact h3
     have k7:=uy s.2.2.1 ((aq QS s.2.2.2.2.2.1 kn).2) (s.2.2.2.2.2.2.2.2.2.1);refine⟨⟨⟨by omega,by rw[Zg];((try simp only[bU,Qw,aE,Qn,Qp,Qi,QB,sX,sY,sG,sD,Qz,Qx,bh,QA,QE,Qr,Qq]at *);omega)⟩,by omega⟩,?_,⟨⟨by omega,by omega,by omega⟩,⟨by omega,by omega,by omega⟩,?_,by omega⟩,au ?_⟩
     ·unfold Zp;simp only[YJ,QL,Q0]
      ((try simp only[bU,Qw,aE,Qn,Qp,Qi,QB,sX,sY,sG,sD,Qz,Qx,bh,QA,QE,Qr,Qq]at *);omega)
     ·rw[oU,Zg];((try simp only[bU,Qw,aE,Qn,Qp,Qi,QB,sX,sY,sG,sD,Qz,Qx,bh,QA,QE,Qr,Qq]at *);omega)
     ·rw[yw hk,da,show QJ (Qi s) m=(kn:Int) from fQ,Int.toNat_natCast]
theorem QU0:Qf Tryz.prog Mw:=Qh λx h=>QPZ x.1 x.2.1 x.2.2.1 h
def JF(t:Qc):aB:=f5 (.a (aT.cells Qe t))
def MA:aJ:=Qg 31 [(.a Qe),(.c TI),(.c (.sl [TI]))] λx=>(some (pg x.1 x.2.1 x.2.2.1),JF (ZD x.1 x.2.1 x.2.2.1))
def yy:aF:=⟨[uC,x4,uf,Yv,BD,L2,KH],false⟩
def QrR:af :=
 (ag [(ag [(.ae [ab 53 12,ak 54 3 2,an 55 54 1,ba 56 55,aw 57 .lss 53 56]),(.cond 57 .skip (.exit 0))]),(.block 1 (ag [(.draw [ab 60 9,ab 61 12,aZ 62 60 61 [(.sl [TI])],ak 63 62 0,an 64 63 1,aD 65 97 [64],bL 66 65,ab 67 66,.bw 67 false [ab 68 9,ab 69 12,aZ 70 68 69 [(.sl [TI])],ak 71 70 0,an 72 71 1,ba 73 72,ak 74 3 2,an 75 74 1,ab 76 12,aZ 77 75 76 aM,ak 78 77 1,an 79 78 1,aw 80 .neq 73 79] 81 80] []),(.cond 81 (ag [(.ae [a9 82 7 14,aV 6 82 14]),.ret]) .skip)])),(.ae [ab 58 12,aw 59 .add 58 (ar 1),ab 12 59])])
def QwY:List (Nat × Md):=[(2,.one .d),(3,.b (dO 14)),(6,.b (dO 14)),(7,.b [.d,.d,.d,.d,.d,.f,.d,.d,.d,.d,.d,.d,.d,.d]),(8,.one .d),(9,.one .d),(10,.one .d),(11,.one .d),(12,.one .d)]
def Qzh:af :=
 (ag [(ag [(.ae [ab 99 10,ba 100 99,ak 101 3 2,an 102 101 1,ak 103 3 2,an 104 103 1,ba 105 104,aw 106 .sub 105 (ar 1),aZ 107 102 106 aM,ak 108 107 2,an 109 108 1,aw 110 .neq 100 109,ab 111 110,.bw 111 false [ab 112 10,aD 113 97 [112],bL 114 113] 115 114]),(.cond 115 (ag [(.ae [a9 116 7 14,aV 6 116 14]),.ret]) .skip)]),(.ae [ak 118 3 2,an 119 118 1,ab 120 9,ab 121 10,aD 122 108 [119,120,121],ab 117 122,bF 123 117 0,bF 124 117 1,bF 125 117 2,ab 15 123,ab 16 124,ab 17 125]),(.ae [ak 126 3 11,a9 127 126 3,ab 128 15,ab 129 11,ab 130 129,.bw 130 false [ab 131 17] 132 131,aC 133 (.build (bG Zj) [(0,1,128),(2,1,132)]),aD 134 109 [127,133],aC 18 (.new 37 (bG Zj)),aV 18 134 3]),(.ae [a9 135 18 3,ak 136 7 11,aV 136 135 3]),(.ae [ab 137 16,ak 138 7 10,aV 138 137 1]),(.ae [aC 139 (.bW 3 [TI] []),ak 140 7 9,aV 140 139 1]),(.ae [aC 141 (.bW 106 [(.sl [TI])] []),ak 142 7 6,aV 142 141 1]),(.draw [ak 143 7 5,an 144 143 1,ab 145 8,aC 146 (.fB 144 none (some 145) QD),ak 147 7 5,an 148 147 1,ab 149 8,aw 150 .add 149 (ar 1),aC 151 (.fB 148 (some 150) none QD),aC 152 (.app 146 151 108 QD),ak 153 7 5,aV 153 152 1] []),(.ae [a9 154 7 14,aV 6 154 14]),.ret])
def QQ1:List (Nat × Md):=[(3,.b (dO 14)),(6,.b (dO 14)),(7,.b [.d,.d,.d,.d,.d,.f,.d,.d,.d,.d,.d,.d,.d,.d]),(8,.one .d),(9,.one .d),(10,.one .d),(11,.one .d)]
def QWH:af:=.wk QQ1 Qzh
def Qxi:af :=
 (ag [(ag [(.ae [ak 83 3 3,an 84 83 1]),(.cond 84 (ag [(.ae [ab 86 9,ak 87 3 2,an 88 87 1,ba 89 88,aZ 90 86 89 [(.sl [TI])],ak 91 90 0,an 92 91 1,ab 93 2,aD 94 107 [92,93],ab 85 94,bF 95 85 0,bF 96 85 1,ab 13 95,ab 14 96]),(.ae [ab 97 13,ab 10 97]),(.ae [ab 98 14,ab 11 98])]) .skip)]),QWH])
def QuR:af :=
 (ag [(.ae [ak 43 3 9,an 44 43 1,ab 10 44]),(.ae [ab 11 (a6 false)]),(ag [(.ae [ab 45 9,ba 46 45,ak 47 3 2,an 48 47 1,ba 49 48,aw 50 .add 49 (ar 1),aw 51 .neq 46 50]),(.cond 51 (ag [(.ae [a9 52 7 14,aV 6 52 14]),.ret]) .skip)]),(ag [(.ae [ab 12 (ar 0)]),(.block 0 (.loop QwY QrR))]),Qxi])
def QOB:List (Nat × Md):=[(2,.one .d),(3,.b (dO 14)),(6,.b (dO 14)),(7,.b [.d,.d,.d,.d,.d,.f,.d,.d,.d,.d,.d,.d,.d,.d]),(8,.one .d),(9,.one .d)]
def QQw:af:=.wk QOB QuR
def QWu:af :=
 (ag [(.ae [aC 3 (.box 39 0 14),aC 6 (.new 39 (bG Qe))]),(.ae [a9 19 3 14,aD 20 61 [19],aC 7 (.new 39 (bG Qe)),aV 7 20 14]),(.ae [ak 21 3 5,an 22 21 1,ab 23 1,aD 24 62 [22,23],ab 8 24]),(ag [(.ae [a9 25 3 14,aD 26 63 [25],bL 27 26,ab 28 27,.bw 28 false [ab 29 8,aw 30 .lss 29 (ar 0)] 31 30]),(.cond 31 (ag [(.ae [a9 32 7 14,aV 6 32 14]),.ret]) .skip)]),(.ae [ak 33 3 5,an 34 33 1,ab 35 8,aZ 36 34 35 QD,ak 37 36 1,an 38 37 1,ab 9 38]),(ag [(.ae [ak 39 3 4,an 40 39 1]),(.cond 40 (.ae [ak 41 3 6,an 42 41 1,ab 9 42]) .skip)]),QQw])
def QDF:List (bn × Md):=[(.l 6 14 true,.b (dO 14))]
def CI:Qb:=TQ 0 0 QDF K
@[irreducible] def CJ(s:Qc)(m:Int)(dm:List (List Int))(y5:List QC)(d:List Int)(sat:Bool):Prop:=let z1:=id (α:=Qc) s
 aN yy 0 Qzh (CI K) ⟨[(3,(.p 0 0 0)),(6,(.p 1 0 0)),(7,(.p 3 0 0)),(8,(aL (QJ s.2.2.2.2.2.1 m))),(9,(bf [(.sl [TI])] dm)),(10,(bf [TI] d)),(11,(bE sat))],[(0,(.box (aT.cells Qe s))),(1,(.box (aT.cells Qe ((0:Int),[],[],false,false,[],[],[],[],[],[],[],(0:Int),false)))),(2,(.sl 108 QD .ow (List.take y5.length y5))),(3,(.box [(aL (z1.1)),(bf QO (z1.2.1)),(bf aM (z1.2.2.1)),(bE (z1.2.2.2.1)),(bE (z1.2.2.2.2.1)),(.r QD 2 0 ((List.take y5.length y5).length)),(bf [(.sl [TI])] (z1.2.2.2.2.2.2.1)),(bf [TI] (z1.2.2.2.2.2.2.2.1)),(bf [TI] (z1.2.2.2.2.2.2.2.2.1)),(bf [TI] (z1.2.2.2.2.2.2.2.2.2.1)),(bf [TI] (z1.2.2.2.2.2.2.2.2.2.2.1)),(bf [(.sl [TI])] (z1.2.2.2.2.2.2.2.2.2.2.2.1)),(aL (z1.2.2.2.2.2.2.2.2.2.2.2.2.1)),(bE (z1.2.2.2.2.2.2.2.2.2.2.2.2.2))]))],4⟩
def QWV:Qb:=a0 (aN yy 0 Qxi (CI K)) (CI K)
def QQv:Qb:=a7 0 (QWV K)
def yz(s:Qc)(m:Int)(t:List Int)(dm:List (List Int))(i:Int)(y5:List QC):Prop:=let z1:=id (α:=Qc) s
 Loop yy 0 QwY QrR (QQv K) ⟨[(2,(bf [TI] t)),(3,(.p 0 0 0)),(6,(.p 1 0 0)),(7,(.p 3 0 0)),(8,(aL (QJ s.2.2.2.2.2.1 m))),(9,(bf [(.sl [TI])] dm)),(10,(bf [TI] s.2.2.2.2.2.2.2.2.2.1)),(11,(bE false)),(12,(aL i))],[(0,(.box (aT.cells Qe s))),(1,(.box (aT.cells Qe ((0:Int),[],[],false,false,[],[],[],[],[],[],[],(0:Int),false)))),(2,(.sl 108 QD .ow y5)),(3,(.box [(aL (z1.1)),(bf QO (z1.2.1)),(bf aM (z1.2.2.1)),(bE (z1.2.2.2.1)),(bE (z1.2.2.2.2.1)),(.r QD 2 0 y5.length),(bf [(.sl [TI])] (z1.2.2.2.2.2.2.1)),(bf [TI] (z1.2.2.2.2.2.2.2.1)),(bf [TI] (z1.2.2.2.2.2.2.2.2.1)),(bf [TI] (z1.2.2.2.2.2.2.2.2.2.1)),(bf [TI] (z1.2.2.2.2.2.2.2.2.2.2.1)),(bf [(.sl [TI])] (z1.2.2.2.2.2.2.2.2.2.2.2.1)),(aL (z1.2.2.2.2.2.2.2.2.2.2.2.2.1)),(bE (z1.2.2.2.2.2.2.2.2.2.2.2.2.2))]))],4⟩
@[irreducible] def CK(s:Qc)(m:Int)(t:List Int)(dm:List (List Int)):Prop:=let z1:=id (α:=Qc) s
 let z2:=List.take ((z1.2.2.2.2.2.1).length) (z1.2.2.2.2.2.1)
 aN yy 0 QuR (CI K) ⟨[(2,(bf [TI] t)),(3,(.p 0 0 0)),(6,(.p 1 0 0)),(7,(.p 3 0 0)),(8,(aL (QJ s.2.2.2.2.2.1 m))),(9,(bf [(.sl [TI])] dm))],[(0,(.box (aT.cells Qe s))),(1,(.box (aT.cells Qe ((0:Int),[],[],false,false,[],[],[],[],[],[],[],(0:Int),false)))),(2,(.sl 108 QD .ow z2)),(3,(.box [(aL (z1.1)),(bf QO (z1.2.1)),(bf aM (z1.2.2.1)),(bE (z1.2.2.2.1)),(bE (z1.2.2.2.2.1)),(.r QD 2 0 (z2.length)),(bf [(.sl [TI])] (z1.2.2.2.2.2.2.1)),(bf [TI] (z1.2.2.2.2.2.2.2.1)),(bf [TI] (z1.2.2.2.2.2.2.2.2.1)),(bf [TI] (z1.2.2.2.2.2.2.2.2.2.1)),(bf [TI] (z1.2.2.2.2.2.2.2.2.2.2.1)),(bf [(.sl [TI])] (z1.2.2.2.2.2.2.2.2.2.2.2.1)),(aL (z1.2.2.2.2.2.2.2.2.2.2.2.2.1)),(bE (z1.2.2.2.2.2.2.2.2.2.2.2.2.2))]))],4⟩
theorem QQu(s:Qc)(m:Int)(dm:List (List Int))(y5:List QC)(d:List Int)(sat:Bool) (h :
 let z2:=id (α:=Qc) s
 let z3:=QJ s.2.2.2.2.2.1 m
 let z5:=List.take y5.length y5
 let z1:=List.take (Int.toNat ((z5.length:Nat):Int)-Int.toNat (aG (z3+1))) (List.drop (0+Int.toNat (aG (z3+1))) z5)
 let z6:=Int.toNat z3-Int.toNat 0
 let z7:=Q2 s.2.2.1 dm d
 let z4:=ZZ s.2.2.2.2.2.2.2.2.2.2.2 (z7.1,(0:Int),(sat||(z7.2.2)))
 let z8:=aG (((s.2.2.1).length:Int)-1)
 ((0<=aG (((s.2.2.1).length:Int)-1)/\Int.toNat z8<(s.2.2.1).length)/\(aI (((d.length:Int) != ((aq b5 s.2.2.1 (Int.toNat z8)).2.2.1))||(!(QK d))) (K (JF (z2.1,z2.2.1,z2.2.2.1,z2.2.2.2.1,z2.2.2.2.2.1,(List.take (z5.length) (List.drop 0 z5)),z2.2.2.2.2.2.2.1,z2.2.2.2.2.2.2.2.1,z2.2.2.2.2.2.2.2.2.1,z2.2.2.2.2.2.2.2.2.2.1,z2.2.2.2.2.2.2.2.2.2.2.1,z2.2.2.2.2.2.2.2.2.2.2.2.1,z2.2.2.2.2.2.2.2.2.2.2.2.2.1,z2.2.2.2.2.2.2.2.2.2.2.2.2.2))) ((Gg s.2.2.1 dm d)/\((Zp (α:=QN) (β:=QN) s.2.2.2.2.2.2.2.2.2.2.2 (z7.1,(0:Int),(sat||(z7.2.2))))/\((((0:Int)<=0/\0<=z3/\z3<=((z5.length:Nat):Int))/\((0<=aG (z3+1)/\aG (z3+1)<=((z5.length:Nat):Int)/\((z5.length:Nat):Int)<=((z5.length:Nat):Int))/\((z6=z5.length\/z6+z1.length<=z5.length)/\z6+z1.length<=ca)))/\K (JF (z2.1,z2.2.1,z2.2.2.1,z2.2.2.2.1,z2.2.2.2.2.1,(List.take (z6+z1.length) (List.drop 0 ((List.take z6 z5)++z1))),([]:List (List Int)),z2.2.2.2.2.2.2.2.1,z2.2.2.2.2.2.2.2.2.1,([]:List Int),z7.2.1,z4.1,z4.2.1,z4.2.2)))))))):dt (CJ K s m dm y5 d sat) :=
 dt.of h
theorem QrZ(s:Qc)(m:Int)(t:List Int)(dm:List (List Int))(i:Int)(y5:List QC) (h :
 (aI (decide (i<((s.2.2.1).length:Int))) (((0<=i/\Int.toNat i<dm.length)/\((!(!(QK (aq ([]:List Int) dm (Int.toNat i)))))=true->((0<=i/\Int.toNat i<dm.length)/\(0<=i/\Int.toNat i<(s.2.2.1).length))))/\(aI ((!(QK (aq ([]:List Int) dm (Int.toNat i))))||(((aq ([]:List Int) dm (Int.toNat i)).length:Int) != ((aq b5 s.2.2.1 (Int.toNat i)).2.1))) (K (JF ((id (α:=Qc) s).1,(id (α:=Qc) s).2.1,(id (α:=Qc) s).2.2.1,(id (α:=Qc) s).2.2.2.1,(id (α:=Qc) s).2.2.2.2.1,(List.take y5.length (List.drop 0 y5)),(id (α:=Qc) s).2.2.2.2.2.2.1,(id (α:=Qc) s).2.2.2.2.2.2.2.1,(id (α:=Qc) s).2.2.2.2.2.2.2.2.1,(id (α:=Qc) s).2.2.2.2.2.2.2.2.2.1,(id (α:=Qc) s).2.2.2.2.2.2.2.2.2.2.1,(id (α:=Qc) s).2.2.2.2.2.2.2.2.2.2.2.1,(id (α:=Qc) s).2.2.2.2.2.2.2.2.2.2.2.2.1,(id (α:=Qc) s).2.2.2.2.2.2.2.2.2.2.2.2.2))) (yz K s m t dm (aG (i+1)) (List.take y5.length y5)))) (aI s.2.2.2.1 ((0<=((s.2.2.1).length:Int)/\Int.toNat ((s.2.2.1).length:Int)<dm.length)/\(CJ K s m dm y5 ((QY (aq ([]:List Int) dm (Int.toNat ((s.2.2.1).length:Int))) t).1) ((QY (aq ([]:List Int) dm (Int.toNat ((s.2.2.1).length:Int))) t).2))) (CJ K s m dm y5 s.2.2.2.2.2.2.2.2.2.1 false)))):yz K s m t dm i y5 :=
 Loop.of h
theorem QNj(s:Qc)(m:Int)(t:List Int)(dm:List (List Int)) (h :
 let z1:=id (α:=Qc) s
 let z2:=List.take ((z1.2.2.2.2.2.1).length) (z1.2.2.2.2.2.1)
 (aI ((dm.length:Int) != (aG (((s.2.2.1).length:Int)+1))) (K (JF (z1.1,z1.2.1,z1.2.2.1,z1.2.2.2.1,z1.2.2.2.2.1,(List.take (z2.length) (List.drop 0 z2)),z1.2.2.2.2.2.2.1,z1.2.2.2.2.2.2.2.1,z1.2.2.2.2.2.2.2.2.1,z1.2.2.2.2.2.2.2.2.2.1,z1.2.2.2.2.2.2.2.2.2.2.1,z1.2.2.2.2.2.2.2.2.2.2.2.1,z1.2.2.2.2.2.2.2.2.2.2.2.2.1,z1.2.2.2.2.2.2.2.2.2.2.2.2.2))) (yz K s m t dm 0 (List.take (z2.length) z2)))):dt (CK K s m t dm) :=
 dt.of h
theorem QKl(s:Qc)(m:Int)(t:List Int)(hp:pg s m t):aK Tryz.prog 31 [(.a (aT.cells Qe s)),(.c TI m),(.c (.sl [TI]) t)] (JF (ZD s m t)):=by
 refine bz yy QWu QDF 0 0 155 MA (kc CA (kc KV (kc Bp (kc YL (kc QqQ (kc QPf (kc QIJ kn))))))) (λK =>
 ((Qt (α:=Qc) s)/\(aI ((!(QU s))||(decide ((QJ s.2.2.2.2.2.1 m)<0))) (K (JF ((id (α:=Qc) s).1,(id (α:=Qc) s).2.1,(id (α:=Qc) s).2.2.1,(id (α:=Qc) s).2.2.2.1,(id (α:=Qc) s).2.2.2.2.1,(List.take (((id (α:=Qc) s).2.2.2.2.2.1).length) (List.drop 0 ((id (α:=Qc) s).2.2.2.2.2.1))),(id (α:=Qc) s).2.2.2.2.2.2.1,(id (α:=Qc) s).2.2.2.2.2.2.2.1,(id (α:=Qc) s).2.2.2.2.2.2.2.2.1,(id (α:=Qc) s).2.2.2.2.2.2.2.2.2.1,(id (α:=Qc) s).2.2.2.2.2.2.2.2.2.2.1,(id (α:=Qc) s).2.2.2.2.2.2.2.2.2.2.2.1,(id (α:=Qc) s).2.2.2.2.2.2.2.2.2.2.2.2.1,(id (α:=Qc) s).2.2.2.2.2.2.2.2.2.2.2.2.2))) (((0:Int)<=(QJ s.2.2.2.2.2.1 m)/\Int.toNat (QJ s.2.2.2.2.2.1 m)<(s.2.2.2.2.2.1).length)/\(aI s.2.2.2.2.1 (CK K s m t s.2.2.2.2.2.2.1) (CK K s m t ((aq QS s.2.2.2.2.2.1 (Int.toNat (QJ s.2.2.2.2.2.1 m))).2))))))) (λhb=>?_)
 have iO:Sz.sz s<=2147483648:=hp;have hs:=ZL s;have l1:=Ym (Qi s);obtain⟨kf,fQ⟩:∃ kf,QJ s.2.2.2.2.2.1 m=kf:=⟨_,rfl⟩
 have hf:=yu (Qi s) m;rw[show QJ (Qi s) m=kf from fQ]at hf;have fk:Yx s kf t=false->(ZD s m t)=s:=λh=>QCJ (by rw[show QJ (Qi s) m=kf from fQ,h];simp);have k4:QU s=true->0<=kf->∀ rows d sat,rows=Zq s kf->(d,sat)=eM s kf t->((Zq s kf).length==(aE s).length+1)=true->ZQ (aE s) (Zq s kf) (aE s).length=true->CJ (λr'=>r'=JF (ZD s m t)) s m rows s.2.2.2.2.2.1 d sat:=by
  intro h1 h2 rows d sat hr hd h3 h4;have hm:=YN h1;have cW:1<=s.2.2.1.length/\s.2.2.1.length<=8:=Yw hm;have hb:Yx s kf t=QH d (Zu (Zn s)):=by
   rw[JB,<- hd,h1,h3,h4,decide_eq_true h2];rfl
  obtain⟨kn,jx⟩:∃ kn:Nat,kf=kn:=⟨kf.toNat,by omega⟩
  have hw:aG ((s.2.2.1.length:Int)-1)=((s.2.2.1.length-1:Nat):Int):=by rw[QF (by omega) (by omega)];omega
  have hg:(((d.length:Int) != (aq b5 s.2.2.1 (s.2.2.1.length-1)).2.2.1)||(!(QK d))) = !QH d (Zu (Zn s)):=by
   rw[show Zu (Zn s)=_ from QrO hm];show _ = !(QK d&&((d.length:Int)==(aq b5 s.2.2.1 (s.2.2.1.length-1)).2.2.1));simp only[bne]
   cases QK d <;> cases((d.length:Int)==(aq b5 s.2.2.1 (s.2.2.1.length-1)).2.2.1) <;> rfl
  refine(QQu _ _ _ _ _ _ _ ?_).h
  conv=>zeta
  simp only[id,List.drop_zero,List.take_length,true_or,true_and,Nat.zero_add];rw[fQ,jx,hw,Int.toNat_natCast,hg];refine⟨⟨by omega,by omega⟩,λh=>au ?_,λh=>?_⟩
  ·rw[fk (by rw[hb];simpa using h)]
  ·have hv:QH d (Zu (Zn s))=true:=by simpa using h
   have cH:Yx s kf t=true:=by rw[hb,hv]
   have CH:=Y8 hv;rw[beq_iff_eq]at h3;have fF:=QAE h1;have yx:Sz.sz (α:=QN) s.2.2.2.2.2.2.2.2.2.2.2<=296:=Tj (YN h1) ⟨fF.1,fF.2⟩;have da:=yv (t:=t) (rows:=rows) (d:=d) (b:=sat) (by rw[show QJ (Qi s) m=kf from fQ];exact cH) (by rw[show QJ (Qi s) m=kf from fQ] ;exact hr) (by rw[show QJ (Qi s) m=kf from fQ] ;exact hd);have hk:kn<s.2.2.2.2.2.1.length:=by((try simp only[bU,Qw,aE,Qn,Qp,Qi,QB,sX,sY,sG,sD,Qz,Qx,bh,QA,QE,Qr,Qq]at *);omega)
   have jv:rows.length=s.2.2.1.length+1:=by rw[hr];exact h3
   have k7:=uy s.2.2.1 rows d;have oU:(List.take (s.2.2.2.2.2.1.length-(kn+1)) (List.drop (kn+1) s.2.2.2.2.2.1)).length=s.2.2.2.2.2.1.length-(kn+1):=by simp
   rw[dP (by((try simp only[bU,Qw,aE,Qn,Qp,Qi,QB,sX,sY,sG,sD,Qz,Qx,bh,QA,QE,Qr,Qq]at *);omega))];simp only[Int.toNat_natCast,show Int.toNat 0=0 from rfl,Nat.sub_zero];refine⟨⟨by omega,by rw[Zg];((try simp only[bU,Qw,aE,Qn,Qp,Qi,QB,sX,sY,sG,sD,Qz,Qx,bh,QA,QE,Qr,Qq]at *);omega)⟩,?_,⟨⟨by omega,by omega,by omega⟩,⟨by omega,by omega,by omega⟩,?_⟩,au ?_⟩
   ·unfold Zp;simp only[YJ,QL,Q0]
    ((try simp only[bU,Qw,aE,Qn,Qp,Qi,QB,sX,sY,sG,sD,Qz,Qx,bh,QA,QE,Qr,Qq]at *);omega)
   ·rw[oU,Zg];((try simp only[bU,Qw,aE,Qn,Qp,Qi,QB,sX,sY,sG,sD,Qz,Qx,bh,QA,QE,Qr,Qq]at *);omega)
   ·rw[yw hk,da,show QJ (Qi s) m=kf from fQ,jx,Int.toNat_natCast]
 have k3:QU s=true->0<=kf->∀ rows,rows=Zq s kf->((Zq s kf).length==(aE s).length+1)=true->yz (λr'=>r'=JF (ZD s m t)) s m t rows ((0:Nat):Int) s.2.2.2.2.2.1:=by
  intro h1 h2 rows hr h3;have hm:=YN h1;have cW:1<=s.2.2.1.length/\s.2.2.1.length<=8:=Yw hm;have jv:rows.length=s.2.2.1.length+1:=by rw[hr];exact beq_iff_eq.1 h3
  refine re s.2.2.1.length (λk=>YG s.2.2.1 k ((rows.drop k).take (s.2.2.1.length-k))=ZQ s.2.2.1 rows s.2.2.1.length->yz (λr'=>r'=JF (ZD s m t)) s m t rows (k:Int) s.2.2.2.2.2.1) ?_ ?_ ?_
  ·intro hg;rw[Nat.sub_self,List.take_zero,YG]at hg;have h4:ZQ (aE s) (Zq s kf) (aE s).length=true:=by rw[<- hr];exact hg.symm
   refine QrZ _ _ _ _ _ _ _ ⟨λh=>by simp at h,λ_=>⟨λhl=>⟨⟨by omega,by rw[Int.toNat_natCast];omega⟩,?_⟩,λhl=>k4 h1 h2 _ _ _ hr ?_ h3 h4⟩⟩
   ·rw[Int.toNat_natCast];refine k4 h1 h2 _ _ _ hr ?_ h3 h4;unfold eM;rw[if_pos hl,<- hr]
   ·unfold eM;rw[if_neg (by rw[show Qn s=false from hl];simp)]
  ·intro k hk ih hg;rw[QQj hk (by omega)]at hg;have hv:((!(QK (aq [] rows k)))||(((aq [] rows k).length:Int) != (aq b5 s.2.2.1 k).2.1)) = !QH (aq [] rows k) (aq b5 s.2.2.1 k).2.1:=by
    unfold QH;simp only[bne]
    cases QK (aq [] rows k) <;> cases(((aq [] rows k).length:Int)==(aq b5 s.2.2.1 k).2.1) <;> rfl
   refine QrZ _ _ _ _ _ _ _ ⟨λ_=>?_,λh=>by simp at h;omega⟩;simp only[id,List.drop_zero,List.take_length,Int.toNat_natCast];rw[hv,dP (by omega)];refine⟨⟨⟨by omega,by omega⟩,λ_=>⟨⟨by omega,by omega⟩,by omega,by omega⟩⟩,λh=>au ?_,λh=>ih ?_⟩
   ·rw[fk];have h5:QH (aq [] rows k) (aq b5 s.2.2.1 k).2.1=false:=by simpa using h
    rw[h5,Bool.false_and]at hg;rw[JB,<- hr,show ZQ (aE s) rows (aE s).length=false from hg.symm];simp
   ·have h5:QH (aq [] rows k) (aq b5 s.2.2.1 k).2.1=true:=by simpa using h
    rw[h5,Bool.true_and]at hg;exact hg
  ·rw[List.drop_zero,Nat.sub_zero];unfold ZQ;rw[Int.toNat_natCast]
 have k1:QU s=true->0<=kf->∀ rows,rows=Zq s kf->CK (λr'=>r'=JF (ZD s m t)) s m t rows:=by
  intro h1 h2 rows hr;have cW:1<=s.2.2.1.length/\s.2.2.1.length<=8:=Yw (YN h1);refine(QNj _ _ _ _ _ ?_).h
  conv=>zeta
  simp only[id,List.drop_zero,List.take_length,true_or,true_and,Nat.zero_add,Int.toNat_natCast];rw[dP (k:=s.2.2.1.length) (by omega)];refine⟨λh=>au ?_,λh=>k3 h1 h2 _ hr ?_⟩
  ·rw[fk];have:(rows.length==s.2.2.1.length+1)=false:=by
    rw[beq_eq_false_iff_ne];simp only[bne_iff_ne]at h;omega
   rw[JB,<- hr];simp[this]
  ·rw[<- hr,beq_iff_eq];simp only[bne_eq_false_iff_eq]at h
   ((try simp only[bU,Qw,aE,Qn,Qp,Qi,QB,sX,sY,sG,sD,Qz,Qx,bh,QA,QE,Qr,Qq]at *);omega)
 simp only[id,List.drop_zero,List.take_length,true_or,true_and,Nat.zero_add];rw[Cu,show QJ (Qi s) m=kf from fQ];refine⟨hp,λh=>au ?_,λh=>?_⟩
 ·rw[fk];simp only[Bool.not_eq_true']at h;rw[JB,h];rfl
 ·simp only[Bool.not_eq_false',Bool.and_eq_true,decide_eq_true_eq]at h;refine⟨⟨h.2,by((try simp only[bU,Qw,aE,Qn,Qp,Qi,QB,sX,sY,sG,sD,Qz,Qx,bh,QA,QE,Qr,Qq]at *);omega)⟩,λhr=>k1 h.1 h.2 _ ?_,λhr=>k1 h.1 h.2 _ ?_⟩
  ·unfold Zq;rw[if_pos hr]
  ·unfold Zq;rw[if_neg (by rw[show Qp s=false from hr];simp)]
theorem QPX:Qf Tryz.prog MA:=Qh λx h=>QKl x.1 x.2.1 x.2.2.1 h
end
end Go.Proofs.YtdplaepmjogjjaaGreat.Am

namespace Go.Proofs.YtdplaepmjogjjaaGreat.Am
open Go Go.RowKit Go.Proofs.YtdplaepmjogjjaaGreat
set_option linter.all false
noncomputable section
variable (K:aB->Prop)
def MB(t:Bool):aB:=b6 (bE t)
def CL:aJ:=Qg 221 [(.a Qs)] λx=>(none,MB (Yq x.1))
def QKE:aF:=⟨[J4],false⟩
def QKe:af :=
 (ag [(.ae [aC 1 (.box 178 0 2),ab 2 (a6 false)]),(.ae [ak 3 1 1,an 4 3 1,aD 5 187 [4],ab 6 5,.bw 6 true [ak 7 1 0,an 8 7 1,aw 9 .geq 8 (ar 0)] 10 9,ab 11 10,.bw 11 true [ak 12 1 0,an 13 12 1,aw 14 .lss 13 (ar 5)] 15 14,ab 2 15]),.ret])
def QPv:List (bn × Md):=[(.t 2,.one .d)]
theorem QIv(x:Ql):aK Tryz.prog 221 [(.a [(.c TI x.1),(.c (.sl [TI]) x.2)])] (MB (Yq x)):=by
 refine bz QKE QKe QPv 0 0 16 CL (kc r8 kn) (λK =>
 K (MB (((QK x.2)&&(decide (x.1>=0)))&&(decide (x.1<5))))) (λhb=>?_)
 exact au (by grind[Yq])
theorem QzP:Qf Tryz.prog CL:=Qh λx _=>QIv x.1
def CM(t:Bool):aB:=b6 (bE t)
def yA:aJ:=Qg 218 [(.a Qj)] λx=>(none,CM (QZ x.1))
def MC:aF:=⟨[Yv,Y1],false⟩
def QD7:af :=
 (ag [(ag [(.ae [ab 4 3,ak 5 1 1,an 6 5 1,ba 7 6,aw 8 .lss 4 7]),(.cond 8 .skip (.exit 0))]),(.block 1 (ag [(.ae [ak 11 1 1,an 12 11 1,ab 13 3,aZ 14 12 13 Qs,ak 15 14 1,an 16 15 1,aD 17 97 [16],bL 18 17,ab 19 18,.bw 19 false [ak 20 1 1,an 21 20 1,ab 22 3,aZ 23 21 22 Qs,ak 24 23 0,an 25 24 1,aD 26 158 [25,(ar 0),(ar 4)],bL 27 26] 28 27]),(.cond 28 (ag [(.ae [ab 2 (a6 false)]),.ret]) .skip)])),(.ae [ab 9 3,aw 10 .add 9 (ar 1),ab 3 10])])
def Qus:List (Nat × Md):=[(1,.b [.d,.d]),(3,.one .d)]
def QD2:af :=
 (ag [(.ae [ak 29 1 0,an 30 29 1,aD 31 158 [30,(ar 1),(ar 5)],ab 32 31,.bw 32 true [ak 33 1 1,an 34 33 1,ba 35 34,ak 36 1 0,an 37 36 1,aw 38 .leq 35 37] 39 38,ab 2 39]),.ret])
def QWP:af :=
 (ag [(.ae [aC 1 (.box 161 0 2),ab 2 (a6 false)]),(ag [(.ae [ab 3 (ar 0)]),(.block 0 (.loop Qus QD7))]),QD2])
def QC7:List (bn × Md):=[(.t 2,.one .d)]
def Qwf:Qb:=TQ 0 0 QC7 K
def QPS:Qb:=a0 (aN MC 0 QD2 (Qwf K)) (Qwf K)
def QFF:Qb:=a7 0 (QPS K)
def CN(q:Qd)(i:Int):Prop:=Loop MC 0 Qus QD7 (QFF K) ⟨[(1,(.p 0 0 0)),(3,(aL i))],[(0,(.box [(aL q.1),(bf Qs q.2)]))],1⟩
theorem QAX(q:Qd)(i:Int) (h :
 (aI (decide (i<((q.2).length:Int))) (((0<=i/\Int.toNat i<(q.2).length)/\((!(!(QK ((aq ((0,[]):Ql) q.2 (Int.toNat i)).2))))=true->(0<=i/\Int.toNat i<(q.2).length)))/\(aI ((!(QK ((aq ((0,[]):Ql) q.2 (Int.toNat i)).2)))||(!(bj ((aq ((0,[]):Ql) q.2 (Int.toNat i)).1) (0:Int) (4:Int)))) (K (CM false)) (CN K q (aG (i+1))))) (K (CM ((bj q.1 (1:Int) (5:Int))&&(decide (((q.2).length:Int)<=q.1))))))):CN K q i :=
 Loop.of h
theorem QS7(q:Qd):aK Tryz.prog 218 [(.a [(.c TI q.1),(.c (.sl Qs) q.2)])] (CM (QZ q)):=by
 refine bz MC QWP QC7 0 0 40 yA (kc YL (kc Jg kn)) (λK =>
 (CN K q 0)) (λhb=>?_)
 have ma:(q.2).length<=9223372036854775807:=hb.1.2.1.1;refine Zf q.2 (λr k=>r.all Yq=q.2.all Yq->CN _ q k) ?_ ?_ rfl
 ·intro he;refine QAX _ q _ ⟨λh=>by simp at h,λ_=>?_⟩;grind[QZ,bj]
 ·intro k x r hk aW hg ih he;refine QAX _ q _ ⟨λ_=>?_,λh=>by simp at h;omega⟩;rw[Int.toNat_natCast,hg,QF (by omega) (by omega)];grind[QZ,Yq,bj]
theorem MD:Qf Tryz.prog yA:=Qh λx _=>QS7 x.1
def sw(t:Bool):aB:=b6 (bE t)
def yB:aJ:=Qg 220 [(.a Qj)] λx=>(none,sw (QZ x.1))
def ME:aF:=⟨[CL],false⟩
def QAr:af :=
 (ag [(.ae [aw 25 .lss 24 23]),(.cond 25 .skip (.exit 0)),(.block 1 (ag [(.ae [aZ 26 22 24 Qs,a9 27 26 2,aC 4 (.new 178 (bG Qs)),aV 4 27 2]),(.ae [a9 28 4 2,aD 29 221 [28],bL 30 29]),(.cond 30 (ag [(.ae [ab 2 (a6 false)]),.ret]) .skip)])),(.ae [aw 31 .add 24 (ar 1),ab 24 31])])
def QyI:List (Nat × Md):=eV [22,23,24]
def Qrt:af :=
 (ag [(.ae [ab 2 (a6 true)]),.ret])
def QWd:af :=
 (ag [(.ae [aC 1 (.box 161 0 2),ab 2 (a6 false)]),(ag [(.ae [ak 5 1 0,an 6 5 1,aw 7 .lss 6 (ar 1),ab 8 7,.bw 8 false [ak 9 1 0,an 10 9 1,aw 11 .gtr 10 (ar 5)] 12 11,ab 13 12,.bw 13 false [ak 14 1 1,an 15 14 1,ba 16 15,ak 17 1 0,an 18 17 1,aw 19 .gtr 16 18] 20 19]),(.cond 20 (ag [(.ae [ab 2 (a6 false)]),.ret]) .skip)]),(ag [(.ae [ak 21 1 1,an 22 21 1,ba 23 22,ab 24 (ar 0)]),(.block 0 (.loop QyI QAr))]),Qrt])
def Qux:List (bn × Md):=[(.t 2,.one .d)]
def QBU:Qb:=TQ 0 0 Qux K
def QNO:Qb:=a0 (aN ME 0 Qrt (QBU K)) (QBU K)
def QKG:Qb:=a7 0 (QNO K)
def MF(q:Qd)(x:Int):Prop:=Loop ME 0 QyI QAr (QKG K) ⟨[(22,(bf Qs q.2)),(23,(aL ((q.2).length:Int))),(24,(aL x))],[],0⟩
theorem QM6(q:Qd)(x:Int) (h :
 (aI (decide (x<((q.2).length:Int))) ((0<=x/\Int.toNat x<(q.2).length)/\(aI (!(Yq (aq ((0,[]):Ql) q.2 (Int.toNat x)))) (K (sw false)) (MF K q (aG (x+1))))) (K (sw true)))):MF K q x :=
 Loop.of h
theorem QFD(q:Qd):aK Tryz.prog 220 [(.a [(.c TI q.1),(.c (.sl Qs) q.2)])] (sw (QZ q)):=by
 refine bz ME QWd Qux 0 0 32 yB (kc QzP kn) (λK =>
 (aI (((decide (q.1<1))||(decide (q.1>5)))||(decide (((q.2).length:Int)>q.1))) (K (sw false)) (MF K q 0))) (λhb=>?_)
 have ma:(q.2).length<=9223372036854775807:=hb.1.2.1.1;refine⟨λh=>au ?_,λh=>oV (Q:=λx=>sw x=sw (QZ q)) (p:=Yq) (c:=λx=>!(Yq x)) (0,[]) ma (λ_=>rfl) (λi h=>QM6 _ q i h) (au ?_)⟩
 ·grind[QZ]
 ·grind[QZ]
theorem MG:Qf Tryz.prog yB:=Qh λx _=>QFD x.1
def MH(t:Bool):aB:=b6 (bE t)
def MI:aJ:=Qg 180 [(.a Qj)] λx=>(none,MH (oS x.1))
def QOF:aF:=⟨[],false⟩
def QVP:af :=
 (ag [(.ae [aC 1 (.box 161 0 2),ab 2 (a6 false)]),(.ae [ak 3 1 1,an 4 3 1,ba 5 4,ak 6 1 0,an 7 6 1,aw 8 .lss 5 7,ab 2 8]),.ret])
def QVe:List (bn × Md):=[(.t 2,.one .d)]
theorem QIR(q:Qd):aK Tryz.prog 180 [(.a [(.c TI q.1),(.c (.sl Qs) q.2)])] (MH (oS q)):=by
 refine bz QOF QVP QVe 0 0 9 MI kn (λK =>
 K (MH (decide (((q.2).length:Int)<q.1)))) (λhb=>?_)
 exact au rfl
theorem QRu:Qf Tryz.prog MI:=Qh λx _=>QIR x.1
def yC(t:Qd):aB:=⟨(.a [(aL t.1),(.r Qs 0 0 ((t.2).length))]),[(.sl 178 Qs (.dp 0 true []) t.2)],[],false,[]⟩
def yD:aJ:=Qg 219 [(.a Qj)] λx=>(some (Qt (α:=Qd) x.1),yC (id (α:=Qd) x.1))
def MJ:aF:=⟨[JG],true⟩
def Qs9:af :=
 (ag [(.ae [aw 13 .lss 12 11]),(.cond 13 .skip (.exit 0)),(.block 1 (ag [(.ae [aZ 14 10 12 Qs,a9 15 14 2,aC 5 (.new 178 (bG Qs)),aV 5 15 2]),(.draw [ak 16 3 1,an 17 16 1,ak 18 5 0,an 19 18 1,ak 20 5 1,an 21 20 1,aD 22 104 [21],aC 23 (.build (bG Qs) [(0,1,19),(1,1,22)]),aC 24 (.bW 178 Qs [23]),aC 25 (.app 17 24 178 Qs),ak 26 3 1,aV 26 25 1] [(0,6),(1,6),(2,6),(3,6),(0,8),(1,8)])])),(.ae [aw 27 .add 12 (ar 1),ab 12 27])])
def QDI:List (Nat × Md):=[(2,.b [.d,.f]),(3,.b [.d,.p 178]),(10,.one .d),(11,.one .d),(12,.one .d)]
def Qq1:af :=
 (ag [(.ae [a9 28 3 2,aV 2 28 2]),.ret])
def QRA:af :=
 (ag [(.ae [aC 1 (.box 161 0 2),aC 2 (.new 161 (bG Qj))]),(.ae [ak 6 1 0,an 7 6 1,aC 8 (.build (bG Qj) [(0,1,7)]),aC 3 (.new 161 (bG Qj)),aV 3 8 2]),(ag [(.ae [ak 9 1 1,an 10 9 1,ba 11 10,ab 12 (ar 0)]),(.block 0 (.loop QDI Qs9))]),Qq1])
def Qru:List (bn × Md):=[(.l 2 2 true,.b [.d,.p 178])]
def QBF:Qb:=TQ 0 0 Qru K
def QWI:Qb:=a0 (aN MJ 0 Qq1 (QBF K)) (QBF K)
def QSw:Qb:=a7 0 (QWI K)
def MK(q:Qd)(x:Int)(r1:List Ql):Prop:=Loop MJ 0 QDI Qs9 (QSw K) ⟨[(2,(.p 0 0 0)),(3,(.p 2 0 0)),(10,(bf Qs q.2)),(11,(aL ((q.2).length:Int))),(12,(aL x))],[(0,(.box [(aL 0),(.n Qs)])),(1,(.sl 178 Qs (.dp 0 true []) r1)),(2,(.box [(aL q.1),(.r Qs 1 0 r1.length)]))],3⟩
theorem QCR(q:Qd)(x:Int)(r1:List Ql) (h :
 (aI (decide (x<((q.2).length:Int))) ((0<=x/\Int.toNat x<(q.2).length)/\(((Qt (α:=List Int) ((aq ((0,[]):Ql) q.2 (Int.toNat x)).2))/\((r1.length=r1.length\/r1.length+1<=r1.length)/\r1.length+1<=ca))/\(MK K q (aG (x+1)) (List.take (r1.length+1) ((List.take r1.length r1)++([((aq ((0,[]):Ql) q.2 (Int.toNat x)).1,(List.take ((id (α:=List Int) ((aq ((0,[]):Ql) q.2 (Int.toNat x)).2)).length) (List.drop 0 (id (α:=List Int) ((aq ((0,[]):Ql) q.2 (Int.toNat x)).2)))))])))))) (K (yC (q.1,(List.take r1.length r1)))))):MK K q x r1 :=
 Loop.of h
theorem QN8(q:Qd)(hp:Qt (α:=Qd) q):aK Tryz.prog 219 [(.a [(.c TI q.1),(.c (.sl Qs) q.2)])] (yC (id (α:=Qd) q)):=by
 refine bz MJ QRA Qru 0 0 29 yD (kc nQ kn) (λK =>
 (MK K q 0 ([]:List Ql))) (λhb=>?_)
 unfold Qt at hp;simp only[QP,QL]at hp;refine YC (l:=q.2) (Q:=λz=>yC (q.1,z)=yC (id (α:=Qd) q)) (by omega) (λk x v hk hl hg hv hx ih=>?_) (λhq=>?_) (au rfl)
 ·refine QCR _ _ _ _ ⟨λ_=>?_,λh=>by simp at h;omega⟩;simp only[QP,QL]at hx;rw[Int.toNat_natCast,hg,dP (by omega),Q8,rD];exact⟨⟨by omega,hk⟩,⟨(show Sz.sz (_:List Int)<=2147483648 by omega),room (by omega)⟩,ih⟩
 ·refine QCR _ _ _ _ ⟨λh=>by simp at h,λ_=>?_⟩;rw[List.take_length];exact hq
theorem ML:Qf Tryz.prog yD:=Qh λx h=>QN8 x.1 h
def yE(t:Qd):aB:=⟨(.a [(aL t.1),(.r Qs 0 0 ((t.2).length))]),[(.sl 178 Qs .ow t.2)],[],true,[]⟩
def yF:aJ:=Qg 217 [(.a Qj)] λx=>(some (Qt (α:=Qd) x.1),yE (id (α:=Qd) x.1))
def MM:aF:=⟨[],false⟩
def Qtw:af :=
 (ag [(ag [(.ae [ab 6 4,ak 7 1 1,an 8 7 1,ba 9 8,aw 10 .lss 6 9]),(.cond 10 .skip (.exit 0))]),(.block 1 (.draw [ab 13 3,ak 14 1 1,an 15 14 1,ab 16 4,aZ 17 15 16 Qs,ak 18 17 0,an 19 18 1,aC 20 (.bW 3 [TI] []),ak 21 1 1,an 22 21 1,ab 23 4,aZ 24 22 23 Qs,ak 25 24 1,an 26 25 1,aC 27 (.app 20 26 3 [TI]),aC 28 (.build (bG Qs) [(0,1,19),(1,1,27)]),aC 29 (.bW 178 Qs [28]),aC 30 (.app 13 29 178 Qs),ab 3 30] [(1,7),(2,7),(4,7),(5,7),(6,7),(7,8),(7,9),(7,11),(7,12),(7,13),(1,14),(2,14),(4,14),(5,14),(6,14)])),(.ae [ab 11 4,aw 12 .add 11 (ar 1),ab 4 12])])
def QAv:List (Nat × Md):=[(1,.b [.d,.d]),(2,.b [.d,.d]),(3,.one .f),(4,.one .d)]
def QrP:af :=
 (ag [(.ae [ab 31 3,ak 32 1 1,aV 32 31 1]),(.ae [a9 33 1 2,aV 2 33 2]),.ret])
def QNV:af :=
 (ag [(.ae [aC 1 (.box 161 0 2),aC 2 (.new 161 (bG Qj))]),(.ae [aC 5 (.bW 178 Qs []),ab 3 5]),(ag [(.ae [ab 4 (ar 0)]),(.block 0 (.loop QAv Qtw))]),QrP])
def QB9:List (bn × Md):=[(.l 2 2 true,.b [.d,.o 178])]
def QvL:Qb:=TQ 0 0 QB9 K
def QL8:Qb:=a0 (aN MM 0 QrP (QvL K)) (QvL K)
def QXF:Qb:=a7 0 (QL8 K)
def MN(q:Qd)(i:Int)(l:List Ql):Prop:=Loop MM 0 QAv Qtw (QXF K) ⟨[(1,(.p 0 0 0)),(2,(.p 1 0 0)),(3,(.r Qs 2 0 l.length)),(4,(aL i))],[(0,(.box [(aL q.1),(bf Qs q.2)])),(1,(.box [(aL 0),(bf Qs ([]))])),(2,(.sl 178 Qs .ow l))],3⟩
theorem QzL(q:Qd)(i:Int)(l:List Ql) (h :
 (aI (decide (i<((q.2).length:Int))) (((0<=i/\Int.toNat i<(q.2).length)/\((0<=i/\Int.toNat i<(q.2).length)/\(((0=0\/0+((aq ((0,[]):Ql) q.2 (Int.toNat i)).2).length<=0)/\0+((aq ((0,[]):Ql) q.2 (Int.toNat i)).2).length<=ca)/\((l.length=l.length\/l.length+1<=l.length)/\l.length+1<=ca))))/\(MN K q (aG (i+1)) (List.take (l.length+1) ((List.take l.length l)++([((aq ((0,[]):Ql) q.2 (Int.toNat i)).1,(List.take (0+((aq ((0,[]):Ql) q.2 (Int.toNat i)).2).length) (List.drop 0 ((aq ((0,[]):Ql) q.2 (Int.toNat i)).2))))]))))) (K (yE (q.1,(List.take l.length l)))))):MN K q i l :=
 Loop.of h
theorem QFx(q:Qd)(hp:Qt (α:=Qd) q):aK Tryz.prog 217 [(.a [(.c TI q.1),(.c (.sl Qs) q.2)])] (yE (id (α:=Qd) q)):=by
 refine bz MM QNV QB9 0 0 34 yF kn (λK =>
 (MN K q 0 ([]:List Ql))) (λhb=>?_)
 unfold Qt at hp;simp only[QP,QL]at hp;refine YC (l:=q.2) (Q:=λz=>yE (q.1,z)=yE (id (α:=Qd) q)) (by omega) (λk x v hk hl hg hv hx ih=>?_) (λhq=>?_) (au rfl)
 ·refine QzL _ _ _ _ ⟨λ_=>?_,λh=>by simp at h;omega⟩;simp only[QP,QL]at hx;rw[Int.toNat_natCast,hg,dP (by omega),Q8,tJ];have:=ZH x.2;exact⟨⟨⟨by omega,hk⟩,⟨by omega,hk⟩,⟨.inl rfl,by rw[Zg];omega⟩,room (by omega)⟩,ih⟩
 ·refine QzL _ _ _ _ ⟨λh=>by simp at h,λ_=>?_⟩;rw[List.take_length];exact hq
theorem MO:Qf Tryz.prog yF:=Qh λx h=>QFx x.1 h
def CO(t:Qd × Bool):aB:=⟨(.tp [(.a [(aL t.1.1),(.r Qs 0 0 ((t.1.2).length))]),(bE t.2)]),[(.sl 178 Qs (.dp 0 true []) t.1.2)],[],false,[]⟩
def MP:aJ:=Qg 150 [(.a Qj),(.a Qs)] λx=>(some (Zp (α:=Qd) (β:=Ql) x.1 x.2.1),CO (Z4 x.1 x.2.1))
def QFB:aF:=⟨[yD,yB,CL,JG],true⟩
def QPr:af :=
 (ag [(.ae [aC 2 (.box 161 0 2),aC 3 (.box 178 1 2),aC 4 (.new 161 (bG Qj)),ab 5 (a6 false)]),(.ae [a9 7 2 2,aD 8 219 [7],aC 6 (.new 161 (bG Qj)),aV 6 8 2]),(ag [(.ae [a9 9 2 2,aD 10 220 [9],bL 11 10,ab 12 11,.bw 12 false [a9 13 3 2,aD 14 221 [13],bL 15 14] 16 15,ab 17 16,.bw 17 false [ak 18 2 1,an 19 18 1,ba 20 19,ak 21 2 0,an 22 21 1,aw 23 .eql 20 22] 24 23]),(.cond 24 (ag [(.ae [a9 25 6 2,aV 4 25 2,ab 5 (a6 false)]),.ret]) .skip)]),(.draw [ak 26 6 1,an 27 26 1,ak 28 3 0,an 29 28 1,ak 30 3 1,an 31 30 1,aD 32 104 [31],aC 33 (.build (bG Qs) [(0,1,29),(1,1,32)]),aC 34 (.bW 178 Qs [33]),aC 35 (.app 27 34 178 Qs),ak 36 6 1,aV 36 35 1] [(0,6),(1,6),(2,6),(3,6),(0,8),(1,8)]),(.ae [a9 37 6 2,aV 4 37 2,ab 5 (a6 true)]),.ret])
def QN9:List (bn × Md):=[(.l 4 2 true,.b [.d,.p 178]),(.t 5,.one .d)]
theorem QIp(q:Qd)(x:Ql)(hp:Zp (α:=Qd) (β:=Ql) q x):aK Tryz.prog 150 [(.a [(.c TI q.1),(.c (.sl Qs) q.2)]),(.a [(.c TI x.1),(.c (.sl [TI]) x.2)])] (CO (Z4 q x)):=by
 refine bz QFB QPr QN9 0 0 38 MP (kc ML (kc MG (kc QzP (kc nQ kn)))) (λK =>
 ((Qt (α:=Qd) q)/\(aI (((!(QZ q))||(!(Yq x)))||(((q.2).length:Int)==q.1)) (K (CO (((id (α:=Qd) q).1,(List.take (((id (α:=Qd) q).2).length) ((id (α:=Qd) q).2))),false))) (((Qt (α:=List Int) x.2)/\((((id (α:=Qd) q).2).length=((id (α:=Qd) q).2).length\/((id (α:=Qd) q).2).length+1<=((id (α:=Qd) q).2).length)/\((id (α:=Qd) q).2).length+1<=ca))/\K (CO (((id (α:=Qd) q).1,(List.take (((id (α:=Qd) q).2).length+1) ((List.take (((id (α:=Qd) q).2).length) ((id (α:=Qd) q).2))++([(x.1,(List.take ((id (α:=List Int) x.2).length) (List.drop 0 (id (α:=List Int) x.2))))])))),true)))))) (λhb=>?_)
 unfold Zp at hp;have hq:Qt q:=by unfold Qt;omega
 simp only[QP,QL]at hp;have h1:=Ym q.2;have h2:=ZH x.2;have e:((((!(QZ q))||(!(Yq x)))||(((q.2).length:Int)==q.1))) = !(QZ q&&Yq x&&decide ((q.2.length:Int)<q.1)):=by
  cases hk:QZ q
  ·rfl
  ·have:(q.2.length:Int)<=q.1:=by
    simp only[QZ,Bool.and_eq_true,decide_eq_true_eq]at hk;exact hk.1.2
   cases Yq x
   ·rfl
   ·rw[Bool.eq_iff_iff];simp;omega
 rw[e];refine⟨hq,λh=>au ?_,λh=>⟨⟨(show Sz.sz (_:List Int)<=2147483648 by omega),⟨.inl rfl,by rw[Zg];simp only[id];omega⟩⟩,au ?_⟩⟩
 ·simp only[Bool.not_eq_true']at h;simp[Z4,h]
 ·simp only[Bool.not_eq_false']at h;simp[Z4,h,List.take_of_length_le]
theorem QXg:Qf Tryz.prog MP:=Qh λx h=>QIp x.1 x.2.1 h
def CP(t:Qd × Bool):aB:=⟨(.tp [(.a [(aL t.1.1),(.r Qs 0 0 ((t.1.2).length))]),(bE t.2)]),[(.sl 178 Qs .ow t.1.2)],[],true,[]⟩
def MQ:aJ:=Qg 146 [(.a Qj),(.a Qs)] λx=>(some (Zp (α:=Qd) (β:=Ql) x.1 x.2.1),CP (Z4 x.1 x.2.1))
def QNm:aF:=⟨[yF,yA,Yv,Y1],false⟩
def QWn:af :=
 (ag [(.ae [aC 2 (.box 161 0 2),aC 3 (.box 178 1 2),aC 4 (.new 161 (bG Qj)),ab 5 (a6 false)]),(.ae [a9 7 2 2,aD 8 217 [7],aC 6 (.new 161 (bG Qj)),aV 6 8 2]),(ag [(.ae [a9 9 2 2,aD 10 218 [9],bL 11 10,ab 12 11,.bw 12 false [ak 13 2 1,an 14 13 1,ba 15 14,ak 16 2 0,an 17 16 1,aw 18 .geq 15 17] 19 18,ab 20 19,.bw 20 false [ak 21 3 1,an 22 21 1,aD 23 97 [22],bL 24 23] 25 24,ab 26 25,.bw 26 false [ak 27 3 0,an 28 27 1,aD 29 158 [28,(ar 0),(ar 4)],bL 30 29] 31 30]),(.cond 31 (ag [(.ae [a9 32 6 2,aV 4 32 2,ab 5 (a6 false)]),.ret]) .skip)]),(.draw [ak 33 6 1,an 34 33 1,ak 35 3 0,an 36 35 1,aC 37 (.bW 3 [TI] []),ak 38 3 1,an 39 38 1,aC 40 (.app 37 39 3 [TI]),aC 41 (.build (bG Qs) [(0,1,36),(1,1,40)]),aC 42 (.bW 178 Qs [41]),aC 43 (.app 34 42 178 Qs),ak 44 6 1,aV 44 43 1] [(0,4),(1,4),(2,4),(3,4),(4,5),(4,6),(0,7),(1,7),(2,7),(3,7),(0,9),(1,9)]),(.ae [a9 45 6 2,aV 4 45 2,ab 5 (a6 true)]),.ret])
def QUU:List (bn × Md):=[(.l 4 2 true,.b [.d,.o 178]),(.t 5,.one .d)]
theorem QQb(q:Qd)(x:Ql)(hp:Zp (α:=Qd) (β:=Ql) q x):aK Tryz.prog 146 [(.a [(.c TI q.1),(.c (.sl Qs) q.2)]),(.a [(.c TI x.1),(.c (.sl [TI]) x.2)])] (CP (Z4 q x)):=by
 refine bz QNm QWn QUU 0 0 46 MQ (kc MO (kc MD (kc YL (kc Jg kn)))) (λK =>
 ((Qt (α:=Qd) q)/\(aI ((((!(QZ q))||(decide (((q.2).length:Int)>=q.1)))||(!(QK x.2)))||(!(bj x.1 (0:Int) (4:Int)))) (K (CP (((id (α:=Qd) q).1,(List.take (((id (α:=Qd) q).2).length) ((id (α:=Qd) q).2))),false))) ((((0=0\/0+(x.2).length<=0)/\0+(x.2).length<=ca)/\((((id (α:=Qd) q).2).length=((id (α:=Qd) q).2).length\/((id (α:=Qd) q).2).length+1<=((id (α:=Qd) q).2).length)/\((id (α:=Qd) q).2).length+1<=ca))/\K (CP (((id (α:=Qd) q).1,(List.take (((id (α:=Qd) q).2).length+1) ((List.take (((id (α:=Qd) q).2).length) ((id (α:=Qd) q).2))++([(x.1,(List.take (0+(x.2).length) (List.drop 0 (x.2:List Int))))])))),true)))))) (λhb=>?_)
 unfold Zp at hp;have hq:Qt q:=by unfold Qt;omega
 simp only[QP,QL]at hp;have h1:=Ym q.2;have h2:=ZH x.2;have e:(((((!(QZ q))||(decide (((q.2).length:Int)>=q.1)))||(!(QK x.2)))||(!(bj x.1 0 4)))) = !(QZ q&&Yq x&&decide ((q.2.length:Int)<q.1)):=by
  cases hk:QZ q
  ·rfl
  ·cases hv:QK x.2
   ·simp[Yq,hv]
   ·rw[Bool.eq_iff_iff];simp[Yq,hv,bj];omega
 rw[e];refine⟨hq,λh=>au ?_,λh=>⟨⟨⟨.inl rfl,by rw[Zg];omega⟩,⟨.inl rfl,by rw[Zg];simp only[id];omega⟩⟩,au ?_⟩⟩
 ·simp only[Bool.not_eq_true']at h;simp[Z4,h]
 ·simp only[Bool.not_eq_false']at h;simp[Z4,h,List.take_of_length_le]
theorem QHK:Qf Tryz.prog MQ:=Qh λx h=>QQb x.1 x.2.1 h
def CQ(t:Qd × Ql × Bool):aB:=⟨(.tp [(.a [(aL t.1.1),(.r Qs 0 0 ((t.1.2).length))]),(.a [(aL t.2.1.1),(.r [TI] 1 0 ((t.2.1.2).length))]),(bE t.2.2)]),[(.sl 0 Qs (.dp 0 false []) t.1.2),(.sl 0 [TI] (.dp 0 false []) t.2.1.2)],[],false,[]⟩
def MR:aJ:=Qg 149 [(.a Qj)] λx=>(some (Qt (α:=Qd) x.1),CQ (Ze x.1))
def QXG:aF:=⟨[yD,yB],true⟩
def QVE:af :=
 (ag [(.ae [aC 1 (.box 161 0 2),aC 2 (.new 161 (bG Qj)),aC 3 (.new 178 (bG Qs)),ab 4 (a6 false)]),(.ae [a9 7 1 2,aD 8 219 [7],aC 5 (.new 161 (bG Qj)),aV 5 8 2]),(ag [(.ae [a9 9 1 2,aD 10 220 [9],bL 11 10,ab 12 11,.bw 12 false [ak 13 1 1,an 14 13 1,ba 15 14,aw 16 .eql 15 (ar 0)] 17 16]),(.cond 17 (ag [(.ae [a9 18 5 2,aC 19 (.build (bG Qs) []),aV 2 18 2,aV 3 19 2,ab 4 (a6 false)]),.ret]) .skip)]),(.ae [ak 20 5 1,an 21 20 1,aZ 22 21 (ar 0) Qs,a9 23 22 2,aC 6 (.new 178 (bG Qs)),aV 6 23 2]),(.ae [ak 24 5 1,an 25 24 1,aC 26 (.fB 25 (some (ar 1)) none Qs),ak 27 5 1,aV 27 26 1]),(.draw [a9 28 5 2,a9 29 6 2,aV 2 28 2,aV 3 29 2,ab 4 (a6 true)] [(1,2)]),(.cv 3 1 .ret)])
def QOV:List (bn × Md):=[(.l 2 2 true,.b [.d,.w]),(.l 3 2 true,.b [.d,.w]),(.t 4,.one .d)]
theorem QYa(q:Qd)(hp:Qt (α:=Qd) q):aK Tryz.prog 149 [(.a [(.c TI q.1),(.c (.sl Qs) q.2)])] (CQ (Ze q)):=by
 refine bz QXG QVE QOV 0 0 30 MR (kc ML (kc MG kn)) (λK =>
 ((Qt (α:=Qd) q)/\(aI ((!(QZ q))||(((q.2).length:Int)==0)) (K (CQ (((id (α:=Qd) q).1,(List.take (((id (α:=Qd) q).2).length) ((id (α:=Qd) q).2))),((0:Int),([]:List Int)),false))) ((((0:Int)<=0/\Int.toNat 0<((id (α:=Qd) q).2).length)/\((0+(Int.toNat 0))<((id (α:=Qd) q).2).length))/\(((0:Int)<=1/\1<=((((id (α:=Qd) q).2).length:Nat):Int)/\((((id (α:=Qd) q).2).length:Nat):Int)<=((((id (α:=Qd) q).2).length:Nat):Int))/\(((0+(Int.toNat 0))<((id (α:=Qd) q).2).length)/\K (CQ (((id (α:=Qd) q).1,(List.take (Int.toNat ((((id (α:=Qd) q).2).length:Nat):Int)-Int.toNat 1) (List.drop (0+Int.toNat 1) ((id (α:=Qd) q).2)))),((aq ((0,[]):Ql) ((id (α:=Qd) q).2) (0+(Int.toNat 0))).1,(List.take (((aq ((0,[]):Ql) ((id (α:=Qd) q).2) (0+(Int.toNat 0))).2).length) ((aq ((0,[]):Ql) ((id (α:=Qd) q).2) (0+(Int.toNat 0))).2))),true)))))))) (λhb=>?_)
 have hq:=hp;unfold Qt at hp;simp only[QP,QL]at hp;have h1:=Ym q.2;have e:((!(QZ q))||(((q.2).length:Int)==0)) = !(QZ q&&decide (0<q.2.length)):=by
  rw[Bool.eq_iff_iff];simp
 rw[e];refine⟨hq,λh=>au ?_,λh=>?_⟩
 ·simp only[Bool.not_eq_true']at h;simp only[Ze,h];simp
 ·simp only[Bool.not_eq_false']at h;have h2:0<q.2.length:=by simp at h;exact h.2
  have h3:=Ag (JA h2 (0,[]));have h4:=ZH (aq (0,[]) q.2 0).2;simp only[QP,QL]at h3;have hM:(Ze q)=((q.1,q.2.tail),aq (0,[]) q.2 0,true):=by simp only[Ze,h];simp
  simp only[id];exact⟨⟨⟨by omega,by simpa using h2⟩,by simpa using h2⟩,⟨by omega,by omega,by omega⟩,by simpa using h2,au (by rw[hM];simp[List.take_of_length_le])⟩
theorem QQS:Qf Tryz.prog MR:=Qh λx h=>QYa x.1 h
def CS(t:Qd × Ql × Bool):aB:=f5 (.tp [(.a [(aL t.1.1),(bf Qs t.1.2)]),(.a [(aL t.2.1.1),(bf [TI] t.2.1.2)]),(bE t.2.2)])
def MS:aJ:=Qg 145 [(.a Qj)] λx=>(some (Qt (α:=Qd) x.1),CS (Ze x.1))
def QKy:aF:=⟨[yF,yA],false⟩
def QMZ:af :=
 (ag [(.ae [aC 1 (.box 161 0 2),aC 2 (.new 161 (bG Qj)),aC 3 (.new 178 (bG Qs)),ab 4 (a6 false)]),(.ae [a9 7 1 2,aD 8 217 [7],aC 5 (.new 161 (bG Qj)),aV 5 8 2]),(ag [(.ae [a9 9 1 2,aD 10 218 [9],bL 11 10,ab 12 11,.bw 12 false [ak 13 1 1,an 14 13 1,ba 15 14,aw 16 .eql 15 (ar 0)] 17 16]),(.cond 17 (ag [(.ae [a9 18 5 2,aC 19 (.build (bG Qs) []),aV 2 18 2,aV 3 19 2,ab 4 (a6 false)]),.ret]) .skip)]),(.ae [ak 20 1 1,an 21 20 1,aZ 22 21 (ar 0) Qs,a9 23 22 2,aC 6 (.new 178 (bG Qs)),aV 6 23 2]),(.ae [ak 24 5 1,an 25 24 1,aC 26 (.fB 25 (some (ar 1)) none Qs),ak 27 5 1,aV 27 26 1]),(.draw [a9 28 5 2,ak 29 6 0,an 30 29 1,aC 31 (.bW 3 [TI] []),ak 32 6 1,an 33 32 1,aC 34 (.app 31 33 3 [TI]),aC 35 (.build (bG Qs) [(0,1,30),(1,1,34)]),aV 2 28 2,aV 3 35 2,ab 4 (a6 true)] [(0,3),(1,3),(2,3),(3,4),(3,5),(0,6),(1,6),(2,6),(1,8),(2,8)]),.ret])
def QWa:List (bn × Md):=[(.l 2 2 true,.b [.d,.d]),(.l 3 2 true,.b [.d,.d]),(.t 4,.one .d)]
theorem QKz(q:Qd)(hp:Qt (α:=Qd) q):aK Tryz.prog 145 [(.a [(.c TI q.1),(.c (.sl Qs) q.2)])] (CS (Ze q)):=by
 refine bz QKy QMZ QWa 0 0 36 MS (kc MO (kc MD kn)) (λK =>
 ((Qt (α:=Qd) q)/\(aI ((!(QZ q))||(((q.2).length:Int)==0)) (K (CS (((id (α:=Qd) q).1,(List.take (((id (α:=Qd) q).2).length) (List.drop 0 ((id (α:=Qd) q).2)))),((0:Int),[]),false))) (((0:Int)<=0/\Int.toNat 0<(q.2).length)/\(((0:Int)<=1/\1<=((((id (α:=Qd) q).2).length:Nat):Int)/\((((id (α:=Qd) q).2).length:Nat):Int)<=((((id (α:=Qd) q).2).length:Nat):Int))/\(((0=0\/0+((aq ((0,[]):Ql) q.2 (Int.toNat 0)).2).length<=0)/\0+((aq ((0,[]):Ql) q.2 (Int.toNat 0)).2).length<=ca)/\K (CS (((id (α:=Qd) q).1,(List.take (Int.toNat ((((id (α:=Qd) q).2).length:Nat):Int)-Int.toNat 1) (List.drop (0+Int.toNat 1) ((id (α:=Qd) q).2)))),((aq ((0,[]):Ql) q.2 (Int.toNat 0)).1,(List.take (0+((aq ((0,[]):Ql) q.2 (Int.toNat 0)).2).length) (List.drop 0 ((aq ((0,[]):Ql) q.2 (Int.toNat 0)).2)))),true)))))))) (λhb=>?_)
 have hq:=hp;unfold Qt at hp;simp only[QP,QL]at hp;have h1:=Ym q.2;have e:((!(QZ q))||(((q.2).length:Int)==0)) = !(QZ q&&decide (0<q.2.length)):=by
  rw[Bool.eq_iff_iff];simp
 rw[e];refine⟨hq,λh=>au ?_,λh=>?_⟩
 ·simp only[Bool.not_eq_true']at h;simp only[Ze,h];simp
 ·simp only[Bool.not_eq_false']at h;have h2:0<q.2.length:=by simp at h;exact h.2
  have h3:=Ag (JA h2 (0,[]));have h4:=ZH (aq (0,[]) q.2 0).2;simp only[QP,QL]at h3;have hM:(Ze q)=((q.1,q.2.tail),aq (0,[]) q.2 0,true):=by simp only[Ze,h];simp
  simp only[id];exact⟨⟨by omega,by simpa using h2⟩,⟨by omega,by omega,by omega⟩,⟨by simp,by rw[Zg];simp;omega⟩,au (by rw[hM];simp[List.take_of_length_le])⟩
theorem QXp:Qf Tryz.prog MS:=Qh λx h=>QKz x.1 h
def Yu(t:Bool):aB:=b6 (bE t)
def MT:aJ:=Qg 176 [(.a QR)] λx=>(none,Yu (Zk x.1))
def J7:aF:=⟨[Y1,uf,yA,Yv],false⟩
def QuB:af :=
 (ag [(ag [(.ae [ab 59 6,ak 60 5 1,an 61 60 1,ba 62 61,aw 63 .lss 59 62]),(.cond 63 .skip (.exit 2))]),(.block 3 (ag [(.draw [ak 66 5 1,an 67 66 1,ab 68 6,aZ 69 67 68 QO,ak 70 69 1,an 71 70 1,ak 72 1 0,an 73 72 1,ba 74 73,aw 75 .sub 74 (ar 1),aD 76 158 [71,(ar 0),75],bL 77 76] []),(.cond 77 (ag [(.ae [ab 2 (a6 false)]),.ret]) .skip)])),(.ae [ab 64 6,aw 65 .add 64 (ar 1),ab 6 65])])
def QCE:List (Nat × Md):=[(1,.b (dO 4)),(3,.one .d),(4,.one .d),(5,.b (dO 14)),(6,.one .d)]
def QDQ:af :=
 (ag [(.ae [ab 78 4,aw 79 .gtr 78 (ar 0),ab 80 79,.bw 80 true [ak 81 1 2,an 82 81 1,ab 83 4,aw 84 .sub 83 (ar 1),aZ 85 82 84 Qj,a9 86 85 2,aD 87 218 [86],bL 88 87,ab 89 88,.bw 89 false [ak 90 1 3,an 91 90 1,ab 92 4,aw 93 .sub 92 (ar 1),aZ 94 91 93 Qj,a9 95 94 2,aD 96 218 [95],bL 97 96] 98 97] 99 98]),(.cond 99 (ag [(.ae [ab 2 (a6 false)]),.ret]) .skip)])
def QBW:af :=
 (.ae [ab 40 4,aw 41 .add 40 (ar 1),ab 4 41])
def MU:af :=
 (ag [(ag [(.ae [ab 37 4,ab 38 3,aw 39 .lss 37 38]),(.cond 39 .skip (.exit 0))]),(.block 1 (ag [(.ae [ak 42 1 1,an 43 42 1,ab 44 4,aZ 45 43 44 Qe,a9 46 45 14,aC 5 (.new 39 (bG Qe)),aV 5 46 14]),(ag [(.ae [a9 47 5 14,aD 48 63 [47],bL 49 48,ab 50 49,.bw 50 false [ak 51 5 3,an 52 51 1,ab 53 4,ab 54 3,aw 55 .sub 54 (ar 1),aw 56 .eql 53 55,aC 57 (.ie true 52 56)] 58 57]),(.cond 58 (ag [(.ae [ab 2 (a6 false)]),.ret]) .skip)]),(ag [(.ae [ab 6 (ar 0)]),(.block 2 (.loop QCE QuB))]),QDQ])),QBW])
def CU:List (Nat × Md):=[(1,.b (dO 4)),(3,.one .d),(4,.one .d)]
def QqI:af :=
 (ag [(ag [(.ae [ab 100 7,ak 101 1 0,an 102 101 1,ba 103 102,aw 104 .lss 100 103]),(.cond 104 .skip (.exit 4))]),(.block 5 (ag [(.ae [ak 107 1 0,an 108 107 1,ab 109 7,aZ 110 108 109 QG,ak 111 110 0,an 112 111 1,aD 113 97 [112],bL 114 113,ab 115 114,.bw 115 false [ak 116 1 0,an 117 116 1,ab 118 7,aZ 119 117 118 QG,ak 120 119 1,an 121 120 1,aD 122 97 [121],bL 123 122] 124 123]),(.cond 124 (ag [(.ae [ab 2 (a6 false)]),.ret]) .skip)])),(.ae [ab 105 7,aw 106 .add 105 (ar 1),ab 7 106])])
def QyZ:List (Nat × Md):=[(1,.b (dO 4)),(7,.one .d)]
def QCS:af :=
 (ag [(.ae [ab 2 (a6 true)]),.ret])
def Qxb:af :=
 (ag [(ag [(.ae [ab 7 (ar 0)]),(.block 4 (.loop QyZ QqI))]),QCS])
def QSz:af :=
 (ag [(.ae [aC 1 (.box 56 0 4),ab 2 (a6 false)]),(.ae [ak 8 1 1,an 9 8 1,ba 10 9,ab 3 10]),(ag [(.ae [ab 11 3,aD 12 158 [11,(ar 1),(ar 4)],bL 13 12,ab 14 13,.bw 14 false [ak 15 1 2,an 16 15 1,ba 17 16,ab 18 3,aw 19 .sub 18 (ar 1),aw 20 .neq 17 19] 21 20,ab 22 21,.bw 22 false [ak 23 1 3,an 24 23 1,ba 25 24,ab 26 3,aw 27 .sub 26 (ar 1),aw 28 .neq 25 27] 29 28,ab 30 29,.bw 30 false [ak 31 1 0,an 32 31 1,ba 33 32,aD 34 158 [33,(ar 1),(ar 5)],bL 35 34] 36 35]),(.cond 36 (ag [(.ae [ab 2 (a6 false)]),.ret]) .skip)]),(ag [(.ae [ab 4 (ar 0)]),(.block 0 (.loop CU MU))]),Qxb])
def QrW:List (bn × Md):=[(.t 2,.one .d)]
def CV:Qb:=TQ 0 0 QrW K
def QLT:Qb:=a0 (aN J7 0 Qxb (CV K)) (CV K)
def MV:Qb:=a7 0 (QLT K)
def Quf:Qb:=a0 (λs'=>Loop J7 0 CU MU (MV K) (gc 0 CU s')) (MV K)
def QNe:Qb:=a0 (aN J7 0 QBW (Quf K)) (Quf K)
def Qqq:Qb:=a7 1 (QNe K)
def QH5:Qb:=a0 (aN J7 0 QDQ (Qqq K)) (Qqq K)
def QX5:Qb:=a7 2 (QH5 K)
def MW(p:Qm)(i:Int)(s:Int):Prop:=Loop J7 0 QCE QuB (QX5 K) ⟨[(1,(.p 0 0 0)),(3,(aL ((p.2.1).length:Int))),(4,(aL s)),(5,(.p 1 0 0)),(6,(aL i))],[(0,(.box (aT.cells QR p))),(1,(.box (aT.cells Qe (aq Qy p.2.1 (Int.toNat s)))))],2⟩
def QTQ:Qb:=a0 (aN J7 0 QCS (CV K)) (CV K)
def QJU:Qb:=a7 4 (QTQ K)
def yG(p:Qm)(i1:Int):Prop:=Loop J7 0 QyZ QqI (QJU K) ⟨[(1,(.p 0 0 0)),(7,(aL i1))],[(0,(.box (aT.cells QR p)))],1⟩
def yH(p:Qm)(s:Int):Prop:=Loop J7 0 CU MU (MV K) ⟨[(1,(.p 0 0 0)),(3,(aL ((p.2.1).length:Int))),(4,(aL s))],[(0,(.box (aT.cells QR p)))],1⟩
theorem QTN(p:Qm)(i:Int)(s:Int) (h :
 (aI (decide (i<(((aq Qy p.2.1 (Int.toNat s)).2.1).length:Int))) ((0<=i/\Int.toNat i<((aq Qy p.2.1 (Int.toNat s)).2.1).length)/\(aI (!(bj ((aq eF ((aq Qy p.2.1 (Int.toNat s)).2.1) (Int.toNat i)).2) (0:Int) (aG (((p.1).length:Int)-1)))) (K (Yu false)) (MW K p (aG (i+1)) s))) (((decide (s>0))=true->((0<=aG (s-1)/\Int.toNat (aG (s-1))<(p.2.2.1).length)/\((!(!(QZ (aq Qv p.2.2.1 (Int.toNat (aG (s-1)))))))=true->(0<=aG (s-1)/\Int.toNat (aG (s-1))<(p.2.2.2).length))))/\(aI ((decide (s>0))&&((!(QZ (aq Qv p.2.2.1 (Int.toNat (aG (s-1))))))||(!(QZ (aq Qv p.2.2.2 (Int.toNat (aG (s-1)))))))) (K (Yu false)) (yH K p (aG (s+1))))))):MW K p i s :=
 Loop.of h
theorem QqL(p:Qm)(i1:Int) (h :
 (aI (decide (i1<((p.1).length:Int))) (((0<=i1/\Int.toNat i1<(p.1).length)/\((!(!(QK ((aq QW p.1 (Int.toNat i1)).1))))=true->(0<=i1/\Int.toNat i1<(p.1).length)))/\(aI ((!(QK ((aq QW p.1 (Int.toNat i1)).1)))||(!(QK ((aq QW p.1 (Int.toNat i1)).2)))) (K (Yu false)) (yG K p (aG (i1+1))))) (K (Yu true)))):yG K p i1 :=
 Loop.of h
theorem QvJ(p:Qm)(s:Int) (h :
 (aI (decide (s<((p.2.1).length:Int))) ((0<=s/\Int.toNat s<(p.2.1).length)/\(aI ((!(QU (aq Qy p.2.1 (Int.toNat s))))||(!(((aq Qy p.2.1 (Int.toNat s)).2.2.2.1)==(s==(aG (((p.2.1).length:Int)-1)))))) (K (Yu false)) (MW K p 0 s))) (yG K p 0))):yH K p s :=
 Loop.of h
theorem QGU(p:Qm):aK Tryz.prog 176 [(.a (aT.cells QR p))] (Yu (Zk p)):=by
 refine bz J7 QSz QrW 0 0 125 MT (kc Jg (kc Bp (kc MD (kc YL kn)))) (λK =>
 (aI ((((!(bj ((p.2.1).length:Int) (1:Int) (4:Int)))||(((p.2.2.1).length:Int) != (aG (((p.2.1).length:Int)-1))))||(((p.2.2.2).length:Int) != (aG (((p.2.1).length:Int)-1))))||(!(bj ((p.1).length:Int) (1:Int) (5:Int)))) (K (Yu false)) (yH K p 0))) (λhb=>?_)
 have fY:(p.1).length<=9223372036854775807:=hb.1.1.1;have fA:(p.2.1).length<=9223372036854775807:=hb.1.2.1.1;have gX:(p.2.2.1).length<=9223372036854775807:=hb.1.2.2.1.1;have gY:(p.2.2.2).length<=9223372036854775807:=hb.1.2.2.2.1.1;by_cases h0:bj p.2.1.length 1 4=true;rotate_left
 ·exact⟨λh=>au (by simp[Zk,h0]),λh=>by simp[h0]at h⟩
 have h1:=Za.1 h0;have e1:aG ((p.2.1.length:Int)-1)=p.2.1.length-1:=QF (by omega) (by omega);rw[e1];refine⟨λh=>au ?_,λh=>?_⟩
 ·have:((p.2.2.1.length+1==p.2.1.length)&&(p.2.2.2.length+1==p.2.1.length)&&bj p.1.length 1 5)=false:=by
   cases hx:bj p.1.length 1 5 with
   | false=>simp
   | true=>simp[h0,hx]at h;simp;omega
  have e2:(Zk p)=false:=by
   unfold Zk;rw[h0,Bool.true_and,this,Bool.false_and]
  exact e2.symm
 have h2:bj p.1.length 1 5=true:=by grind
 have h3:=Za.1 h2;have ha:p.2.2.1.length+1=p.2.1.length/\p.2.2.2.length+1=p.2.1.length:=by simp[h0,h2]at h;omega
 have val:(Zk p)=(p.1.all Je&&(p.2.2.1.all QZ&&p.2.2.2.all QZ)&&Ja p.1.length p.2.1):=by
  simp only[Zk,h0,h2,ha];simp
 have e3:aG ((p.1.length:Int)-1)=p.1.length-1:=QF (by omega) (by omega);have batch:(p.2.2.1.all QZ&&p.2.2.2.all QZ)=true->Ja p.1.length p.2.1=true->yG (λr'=>r'=Yu (Zk p)) p ((0:Nat):Int):=by
  intro hq hs;refine Zf p.1 (λr k=>r.all Je=p.1.all Je->yG (λr'=>r'=Yu (Zk p)) p k) ?_ ?_ rfl
  ·intro he;refine QqL _ _ _ ⟨λh=>by simp at h,λ_=>au ?_⟩;rw[val,hq,hs,<- he];rfl
  ·intro k x r hk aW hg ih he;refine QqL _ _ _ ⟨λ_=>?_,λh=>by simp at h;omega⟩;rw[Int.toNat_natCast,hg,QF (x:=(k:Int)+1) (by omega) (by omega)];rw[List.all_cons]at he;refine⟨⟨⟨by omega,aW⟩,λ_=>⟨by omega,aW⟩⟩,λh=>au ?_,λh=>ih ?_⟩
   ·have:Je x=false:=by grind[Je]
    rw[this,Bool.false_and]at he;rw[val,<- he];rfl
   ·have:Je x=true:=by grind[Je]
    rw[this,Bool.true_and]at he;exact he
 refine Zf p.2.1 (λr k=>Ja p.1.length r=Ja p.1.length p.2.1->(∀ j:Nat,j+1<k->QZ (aq Qv p.2.2.1 j)=true/\QZ (aq Qv p.2.2.2 j)=true)->yH (λr'=>r'=Yu (Zk p)) p k) ?_ ?_ rfl (λj hj=>by omega)
 ·intro he hq;refine QvJ _ _ _ ⟨λh=>by simp at h,λ_=>batch ?_ ?_⟩
  ·rw[(Ak Qv).2 (λj hj=>(hq j (by omega)).1),(Ak Qv).2 (λj hj=>(hq j (by omega)).2)];rfl
  ·rw[<- he];rfl
 ·intro k x r hk aW hg ih he hq;have dE:x∈p.2.1:=List.mem_of_mem_drop (i:=k) (by rw[hk];exact List.mem_cons_self);have jU:x.2.1.length<=9223372036854775807:=(hb.1.2.1.2 x dE).2.1.1;have kh:=SO hk fA;rw[e1]at kh;rw[Ja]at he;refine QvJ _ _ _ ⟨λ_=>?_,λh=>by simp at h;omega⟩;rw[Int.toNat_natCast,hg,e1,kh];refine⟨⟨by omega,aW⟩,λh=>au ?_,λh=>?_⟩
  ·have:(QU x&&(x.2.2.2.1==decide (r.length=0)))=false:=by grind
   rw[this,Bool.false_and,Bool.false_and]at he;rw[val,<- he,Bool.and_false]
  ·have:(QU x&&(x.2.2.2.1==decide (r.length=0)))=true:=by grind
   rw[this,Bool.true_and]at he;have rest:x.2.1.all (λy=>bj y.2 0 (p.1.length-1))=true->((((decide ((k:Int)>0))=true->((0<=aG ((k:Int)-1)/\Int.toNat (aG ((k:Int)-1))<p.2.2.1.length)/\((!(!(QZ (aq Qv p.2.2.1 (Int.toNat (aG ((k:Int)-1)))))))=true->(0<=aG ((k:Int)-1)/\Int.toNat (aG ((k:Int)-1))<p.2.2.2.length))))/\((((decide ((k:Int)>0))&&((!(QZ (aq Qv p.2.2.1 (Int.toNat (aG ((k:Int)-1))))))||(!(QZ (aq Qv p.2.2.2 (Int.toNat (aG ((k:Int)-1))))))))=true->Yu false=Yu (Zk p))/\(((decide ((k:Int)>0))&&((!(QZ (aq Qv p.2.2.1 (Int.toNat (aG ((k:Int)-1))))))||(!(QZ (aq Qv p.2.2.2 (Int.toNat (aG ((k:Int)-1))))))))=false->yH (λr'=>r'=Yu (Zk p)) p (aG ((k:Int)+1)))))):=by
    intro hx;rw[hx,Bool.true_and]at he;rw[QF (x:=(k:Int)+1) (by omega) (by omega)]
    rcases Nat.eq_zero_or_pos k with k0 | k0
    ·subst k0;exact⟨λh=>by simp at h,λh=>by simp at h,λ_=>ih he (λj hj=>by omega)⟩
    ·have e2:=rl k0 (by omega:k<=9223372036854775807);rw[e2.1];refine⟨λ_=>⟨⟨e2.2,by omega⟩,λ_=>⟨e2.2,by omega⟩⟩,λh=>au ?_,λh=>ih he (λj hj=>?_)⟩
     ·have oq:(p.2.2.1.all QZ&&p.2.2.2.all QZ)=false:=by
       cases hc:(p.2.2.1.all QZ&&p.2.2.2.all QZ) with
       | false=>rfl
       | true =>
        simp only[Bool.and_eq_true]at hc;have a1:=(Ak Qv).1 hc.1 (k-1) (by omega);have a2:=(Ak Qv).1 hc.2 (k-1) (by omega);rw[a1,a2]at h;simp at h
      rw[val,oq];simp
     ·by_cases hjk:j+1<k
      ·exact hq j hjk
      ·rw[show j=k-1 by omega];have dj:decide ((k:Int)>0)=true:=by simp;omega
       rw[dj]at h;grind
   refine oV (l:=x.2.1) (Q:=λb=>rm b _ (Yu false=Yu (Zk p))) (p:=λy=>bj y.2 0 (p.1.length-1)) (c:=λy=>!(bj y.2 0 (p.1.length-1))) (e:=true) eF jU (λy=>rfl) (λi h=>QTN (λr'=>r'=Yu (Zk p)) p i k (by rw[Int.toNat_natCast,hg,e3];exact h)) ?_
   cases hx:x.2.1.all (λy=>bj y.2 0 (p.1.length-1)) with
   | false =>
    rw[hx,Bool.false_and]at he;exact au (by rw[val,<- he,Bool.and_false])
   | true=>exact rest hx
theorem QHD:Qf Tryz.prog MT:=Qh λx _=>QGU x.1
def Yc(t:Bool):aB:=b6 (bE t)
def MX:aJ:=Qg 179 [(.a QR)] λx=>(none,Yc (Zk x.1))
def JT:aF:=⟨[J4,yB,ue],false⟩
def QyW:af :=
 (ag [(.ae [aw 50 .lss 49 48]),(.cond 50 .skip (.exit 0)),(.block 1 (ag [(.ae [aZ 51 47 49 QG,a9 52 51 2,aC 5 (.new 154 (bG QG)),aV 5 52 2]),(.ae [ak 53 5 0,an 54 53 1,aD 55 187 [54],bL 56 55,ab 57 56,.bw 57 false [ak 58 5 1,an 59 58 1,aD 60 187 [59],bL 61 60] 62 61]),(.cond 62 (ag [(.ae [ab 2 (a6 false)]),.ret]) .skip)])),(.ae [aw 63 .add 49 (ar 1),ab 49 63])])
def Qsl:List (Nat × Md):=[(1,.b (dO 4)),(3,.one .d),(47,.one .d),(48,.one .d),(49,.one .d)]
def QxA:af :=
 (ag [(.ae [aw 68 .lss 67 66]),(.cond 68 .skip (.exit 2)),(.block 3 (ag [(.ae [ab 69 67,ab 6 69]),(.ae [ak 70 1 2,an 71 70 1,ab 72 6,aZ 73 71 72 Qj,a9 74 73 2,aD 75 220 [74],bL 76 75,ab 77 76,.bw 77 false [ak 78 1 3,an 79 78 1,ab 80 6,aZ 81 79 80 Qj,a9 82 81 2,aD 83 220 [82],bL 84 83] 85 84]),(.cond 85 (ag [(.ae [ab 2 (a6 false)]),.ret]) .skip)])),(.ae [aw 86 .add 67 (ar 1),ab 67 86])])
def QDM:List (Nat × Md):=[(1,.b (dO 4)),(3,.one .d),(66,.one .d),(67,.one .d)]
def Qxk:af :=
 (ag [(.ae [aw 111 .lss 110 109]),(.cond 111 .skip (.exit 6)),(.block 7 (ag [(.ae [aZ 112 108 110 QO,a9 113 112 2,aC 10 (.new 175 (bG QO)),aV 10 113 2]),(.ae [ak 114 10 1,an 115 114 1,aw 116 .lss 115 (ar 0),ab 117 116,.bw 117 false [ak 118 10 1,an 119 118 1,ak 120 1 0,an 121 120 1,ba 122 121,aw 123 .geq 119 122] 124 123]),(.cond 124 (ag [(.ae [ab 2 (a6 false)]),.ret]) .skip)])),(.ae [aw 125 .add 110 (ar 1),ab 110 125])])
def QDU:List (Nat × Md):=[(1,.b (dO 4)),(3,.one .d),(88,.one .d),(89,.one .d),(90,.one .d),(108,.one .d),(109,.one .d),(110,.one .d)]
def QAc:af :=
 (.ae [aw 126 .add 90 (ar 1),ab 90 126])
def MY:af :=
 (ag [(.ae [aw 91 .lss 90 89]),(.cond 91 .skip (.exit 4)),(.block 5 (ag [(.ae [ab 92 90,aZ 93 88 90 Qe,a9 94 93 14,aC 8 (.new 39 (bG Qe)),ab 7 92,aV 8 94 14]),(ag [(.ae [a9 95 8 14,aD 96 72 [95],bL 97 96,ab 98 97,.bw 98 false [ak 99 8 3,an 100 99 1,ab 101 7,ab 102 3,aw 103 .sub 102 (ar 1),aw 104 .eql 101 103,aC 105 (.ie true 100 104)] 106 105]),(.cond 106 (ag [(.ae [ab 2 (a6 false)]),.ret]) .skip)]),(.ae [ak 107 8 1,an 108 107 1,ba 109 108,ab 110 (ar 0)]),(.block 6 (.loop QDU Qxk))])),QAc])
def CW:List (Nat × Md):=[(1,.b (dO 4)),(3,.one .d),(88,.one .d),(89,.one .d),(90,.one .d)]
def Qxy:af :=
 (ag [(.ae [ab 2 (a6 true)]),.ret])
def QyY:af :=
 (ag [(ag [(.ae [ak 87 1 1,an 88 87 1,ba 89 88,ab 90 (ar 0)]),(.block 4 (.loop CW MY))]),Qxy])
def QAL:af :=
 (ag [(ag [(.ae [ak 64 1 2,an 65 64 1,ba 66 65,ab 67 (ar 0)]),(.block 2 (.loop QDM QxA))]),QyY])
def QOL:af :=
 (ag [(.ae [aC 1 (.box 56 0 4),ab 2 (a6 false)]),(.ae [ak 11 1 1,an 12 11 1,ba 13 12,ab 3 13]),(ag [(.ae [ab 14 3,aw 15 .lss 14 (ar 1),ab 16 15,.bw 16 false [ab 17 3,aw 18 .gtr 17 (ar 4)] 19 18,ab 20 19,.bw 20 false [ak 21 1 2,an 22 21 1,ba 23 22,ab 24 3,aw 25 .sub 24 (ar 1),aw 26 .neq 23 25] 27 26,ab 28 27,.bw 28 false [ak 29 1 3,an 30 29 1,ba 31 30,ab 32 3,aw 33 .sub 32 (ar 1),aw 34 .neq 31 33] 35 34]),(.cond 35 (ag [(.ae [ab 2 (a6 false)]),.ret]) .skip)]),(ag [(.ae [ak 36 1 0,an 37 36 1,ba 38 37,aw 39 .lss 38 (ar 1),ab 40 39,.bw 40 false [ak 41 1 0,an 42 41 1,ba 43 42,aw 44 .gtr 43 (ar 5)] 45 44]),(.cond 45 (ag [(.ae [ab 2 (a6 false)]),.ret]) .skip)]),(ag [(.ae [ak 46 1 0,an 47 46 1,ba 48 47,ab 49 (ar 0)]),(.block 0 (.loop Qsl QyW))]),QAL])
def Qxx:List (bn × Md):=[(.t 2,.one .d)]
def uH:Qb:=TQ 0 0 Qxx K
def QMj:Qb:=a0 (aN JT 0 Qxy (uH K)) (uH K)
def MZ:Qb:=a7 4 (QMj K)
def QqO:Qb:=a0 (λs'=>Loop JT 0 CW MY (MZ K) (gc 0 CW s')) (MZ K)
def QJc:Qb:=a0 (aN JT 0 QAc (QqO K)) (QqO K)
def QGp:Qb:=a7 5 (QJc K)
def QJa:Qb:=a7 6 (QGp K)
def M1(p:Qm)(x2:Int)(x3:Int):Prop:=Loop JT 0 QDU Qxk (QJa K) ⟨[(1,(.p 0 0 0)),(3,(aL ((p.2.1).length:Int))),(88,(bf Qe p.2.1)),(89,(aL ((p.2.1).length:Int))),(90,(aL x3)),(108,(bf QO ((aq Qy p.2.1 (Int.toNat x3)).2.1))),(109,(aL (((aq Qy p.2.1 (Int.toNat x3)).2.1).length:Int))),(110,(aL x2))],[(0,(.box (aT.cells QR p)))],1⟩
def yI(p:Qm)(x3:Int):Prop:=Loop JT 0 CW MY (MZ K) ⟨[(1,(.p 0 0 0)),(3,(aL ((p.2.1).length:Int))),(88,(bf Qe p.2.1)),(89,(aL ((p.2.1).length:Int))),(90,(aL x3))],[(0,(.box (aT.cells QR p)))],1⟩
def QX6:Qb:=a0 (aN JT 0 QyY (uH K)) (uH K)
def QKi:Qb:=a7 2 (QX6 K)
def uI(p:Qm)(x1:Int):Prop:=Loop JT 0 QDM QxA (QKi K) ⟨[(1,(.p 0 0 0)),(3,(aL ((p.2.1).length:Int))),(66,(aL ((p.2.2.1).length:Int))),(67,(aL x1))],[(0,(.box (aT.cells QR p)))],1⟩
def QTa:Qb:=a0 (aN JT 0 QAL (uH K)) (uH K)
def QUn:Qb:=a7 0 (QTa K)
def M3(p:Qm)(x:Int):Prop:=Loop JT 0 Qsl QyW (QUn K) ⟨[(1,(.p 0 0 0)),(3,(aL ((p.2.1).length:Int))),(47,(bf QG p.1)),(48,(aL ((p.1).length:Int))),(49,(aL x))],[(0,(.box (aT.cells QR p)))],1⟩
theorem QVf(p:Qm)(x2:Int)(x3:Int) (h :
 (aI (decide (x2<(((aq Qy p.2.1 (Int.toNat x3)).2.1).length:Int))) ((0<=x2/\Int.toNat x2<((aq Qy p.2.1 (Int.toNat x3)).2.1).length)/\(aI ((decide (((aq eF ((aq Qy p.2.1 (Int.toNat x3)).2.1) (Int.toNat x2)).2)<0))||(decide (((aq eF ((aq Qy p.2.1 (Int.toNat x3)).2.1) (Int.toNat x2)).2)>=((p.1).length:Int)))) (K (Yc false)) (M1 K p (aG (x2+1)) x3))) (yI K p (aG (x3+1))))):M1 K p x2 x3 :=
 Loop.of h
theorem QsN(p:Qm)(x3:Int) (h :
 (aI (decide (x3<((p.2.1).length:Int))) ((0<=x3/\Int.toNat x3<(p.2.1).length)/\(aI ((!(QU (aq Qy p.2.1 (Int.toNat x3))))||(!(((aq Qy p.2.1 (Int.toNat x3)).2.2.2.1)==(x3==(aG (((p.2.1).length:Int)-1)))))) (K (Yc false)) (M1 K p 0 x3))) (K (Yc true)))):yI K p x3 :=
 Loop.of h
theorem QBe(p:Qm)(x1:Int) (h :
 (aI (decide (x1<((p.2.2.1).length:Int))) (((0<=x1/\Int.toNat x1<(p.2.2.1).length)/\((!(!(QZ (aq Qv p.2.2.1 (Int.toNat x1)))))=true->(0<=x1/\Int.toNat x1<(p.2.2.2).length)))/\(aI ((!(QZ (aq Qv p.2.2.1 (Int.toNat x1))))||(!(QZ (aq Qv p.2.2.2 (Int.toNat x1))))) (K (Yc false)) (uI K p (aG (x1+1))))) (yI K p 0))):uI K p x1 :=
 Loop.of h
theorem QEM(p:Qm)(x:Int) (h :
 (aI (decide (x<((p.1).length:Int))) ((0<=x/\Int.toNat x<(p.1).length)/\(aI ((!(QK ((aq QW p.1 (Int.toNat x)).1)))||(!(QK ((aq QW p.1 (Int.toNat x)).2)))) (K (Yc false)) (M3 K p (aG (x+1))))) (uI K p 0))):M3 K p x :=
 Loop.of h
theorem QHv(p:Qm):aK Tryz.prog 179 [(.a (aT.cells QR p))] (Yc (Zk p)):=by
 refine bz JT QOL Qxx 0 0 127 MX (kc r8 (kc MG (kc Bk kn))) (λK =>
 (aI ((((decide (((p.2.1).length:Int)<1))||(decide (((p.2.1).length:Int)>4)))||(((p.2.2.1).length:Int) != (aG (((p.2.1).length:Int)-1))))||(((p.2.2.2).length:Int) != (aG (((p.2.1).length:Int)-1)))) (K (Yc false)) (aI ((decide (((p.1).length:Int)<1))||(decide (((p.1).length:Int)>5))) (K (Yc false)) (M3 K p 0)))) (λhb=>?_)
 have fY:(p.1).length<=9223372036854775807:=hb.1.1.1;have fA:(p.2.1).length<=9223372036854775807:=hb.1.2.1.1;have gX:(p.2.2.1).length<=9223372036854775807:=hb.1.2.2.1.1;have gY:(p.2.2.2).length<=9223372036854775807:=hb.1.2.2.2.1.1;refine⟨λh=>au ?_,λh=>?_⟩
 ·have:(bj p.2.1.length 1 4&&(p.2.2.1.length+1==p.2.1.length)&&(p.2.2.2.length+1==p.2.1.length))=false:=by
   by_cases h0:bj p.2.1.length 1 4=true
   ·have h1:=Za.1 h0;rw[QF (x:=(p.2.1.length:Int)-1) (by omega) (by omega)]at h;simp at h;simp[h0];omega
   ·simp at h0;simp[h0]
  simp[Zk,this]
 have h0:bj p.2.1.length 1 4=true:=by simp at h;simp[bj];omega
 have h1:=Za.1 h0;have e1:aG ((p.2.1.length:Int)-1)=p.2.1.length-1:=QF (by omega) (by omega);rw[e1]at h;have ha:p.2.2.1.length+1=p.2.1.length/\p.2.2.2.length+1=p.2.1.length:=by simp at h;omega
 refine⟨λh=>au ?_,λh=>?_⟩
 ·have:bj p.1.length 1 5=false:=by simp at h;simp[bj];omega
  simp[Zk,this]
 have h2:bj p.1.length 1 5=true:=by simp at h;simp[bj];omega
 have h3:=Za.1 h2;have val:(Zk p)=(p.1.all Je&&(p.2.2.1.all QZ&&p.2.2.2.all QZ)&&Ja p.1.length p.2.1):=by
  simp only[Zk,h0,h2,ha];simp
 refine oV (Q:=λb=>rm b (uI (λr'=>r'=Yc (Zk p)) p ((0:Nat):Int)) (Yc false=Yc (Zk p))) (p:=Je) (c:=λx=>(!(QK x.1))||!(QK x.2)) (e:=true) QW fY (λx=>by grind[Je]) (λi h=>QEM (λr'=>r'=Yc (Zk p)) p i h) ?_
 cases p9:p.1.all Je with
 | false=>exact au (by rw[val,p9];rfl)
 | true =>
  show uI (λr'=>r'=Yc (Zk p)) p ((0:Nat):Int);have sx:∀ k:Nat,((p.2.2.1.drop k).all QZ&&(p.2.2.2.drop k).all QZ)=(p.2.2.1.all QZ&&p.2.2.2.all QZ)->k<=p.2.2.1.length->uI (λr'=>r'=Yc (Zk p)) p k:=by
   intro k;generalize hn:p.2.2.1.length-k=n
   induction n generalizing k with
   | zero =>
    intro he hle;refine QBe _ _ _ ⟨λh=>by simp at h;omega,λ_=>?_⟩;have ej:(p.2.2.1.all QZ&&p.2.2.2.all QZ)=true:=by
     rw[<- he,List.drop_eq_nil_of_le (by omega),List.drop_eq_nil_of_le (by omega)];rfl
    refine Zf p.2.1 (λr k=>Ja p.1.length r=Ja p.1.length p.2.1->yI (λr'=>r'=Yc (Zk p)) p k) ?_ ?_ rfl
    ·intro eH;refine QsN _ _ _ ⟨λh=>by simp at h,λ_=>au ?_⟩;rw[val,p9,ej,<- eH];rfl
    ·intro k x r hk aW hg ih eH;have dE:x∈p.2.1:=List.mem_of_mem_drop (i:=k) (by rw[hk];exact List.mem_cons_self);have jU:x.2.1.length<=9223372036854775807:=(hb.1.2.1.2 x dE).2.1.1;have kh:=SO hk fA;rw[Ja]at eH;refine QsN _ _ _ ⟨λ_=>?_,λh=>by simp at h;omega⟩;rw[Int.toNat_natCast,hg,kh];refine⟨⟨by omega,aW⟩,λh=>au ?_,λh=>?_⟩
     ·have:(QU x&&(x.2.2.2.1==decide (r.length=0)))=false:=by grind
      rw[this,Bool.false_and,Bool.false_and]at eH;rw[val,<- eH,Bool.and_false]
     ·have:(QU x&&(x.2.2.2.1==decide (r.length=0)))=true:=by grind
      rw[this,Bool.true_and]at eH;refine oV (l:=x.2.1) (Q:=λb=>rm b (yI (λr'=>r'=Yc (Zk p)) p ((k+1:Nat):Int)) (Yc false=Yc (Zk p))) (p:=λy=>bj y.2 0 (p.1.length-1)) (c:=λy=>decide (y.2<0)||decide (y.2>=(p.1.length:Int))) (e:=true) eF jU (λy=>by grind[bj]) (λi h=>QVf (λr'=>r'=Yc (Zk p)) p i k (by rw[Int.toNat_natCast,hg,QF (x:=(k:Int)+1) (by omega) (by omega)];exact h)) ?_
      cases hx:x.2.1.all (λy=>bj y.2 0 (p.1.length-1)) with
      | false =>
       rw[hx,Bool.false_and]at eH;exact au (by rw[val,<- eH,Bool.and_false])
      | true =>
       rw[hx,Bool.true_and]at eH;exact ih eH
   | succ n ihn =>
    intro he hle;obtain⟨y,q,hq⟩:∃ y q,p.2.2.1.drop k=y::q:=by
     cases hq:p.2.2.1.drop k with
     | nil=>have:=congrArg List.length hq;simp at this;omega
     | cons y q=>exact⟨y,q,rfl⟩
    obtain⟨z,t,hz⟩:∃ z t,p.2.2.2.drop k=z::t:=by
     cases hz:p.2.2.2.drop k with
     | nil=>have:=congrArg List.length hz;simp at this;omega
     | cons z t=>exact⟨z,t,rfl⟩
    have aW:=Ae hq;refine QBe _ _ _ ⟨λ_=>?_,λh=>by simp at h;omega⟩;rw[Int.toNat_natCast,ZJ hq,ZJ hz,QF (x:=(k:Int)+1) (by omega) (by omega)];have l6:=ihn (k+1) (by omega);rw[Zz hq,Zz hz]at l6;rw[hq,hz,List.all_cons,List.all_cons]at he;refine⟨⟨⟨by omega,aW⟩,λ_=>⟨by omega,by omega⟩⟩,λh=>au ?_,λh=>l6 ?_ (by omega)⟩
    ·rw[val,<- he];grind
    ·rw[<- he];grind
  exact sx 0 rfl (Nat.zero_le _)
theorem QRL:Qf Tryz.prog MX:=Qh λx _=>QHv x.1
end
end Go.Proofs.YtdplaepmjogjjaaGreat.Am

