/- -/
import Derived.Test.YtdplaepmjogjjaaGreatVHM4
namespace Go.Proofs.YtdplaepmjogjjaaGreat.Am
open Go Go.RowKit Go.Proofs.YtdplaepmjogjjaaGreat
set_option linter.all false
noncomputable section
variable (K:aB->Prop)
def BW(t:Bool):aB:=b6 (bE t)
def ym:aI:=Qg 258 [(.a [TI,TI,(.sl [TI])])] λx=>(none,BW (Zp x.1))
def QR7:aF:=⟨[xG],false⟩
def QFs:af :=
 (ag [(.ae [aC 1 (.box 235 0 3),ab 2 (a6 false)]),(ag [(.ae [ak 3 1 0,an 4 3 1,aw 5 .lss 4 (aq 1),ab 6 5,.bt 6 false [ak 7 1 0,an 8 7 1,aw 9 .gtr 8 (aq 6)] 10 9,ab 11 10,.bt 11 false [ak 12 1 1,an 13 12 1,aw 14 .lss 13 (aq 1)] 15 14,ab 16 15,.bt 16 false [ak 17 1 1,an 18 17 1,aw 19 .gtr 18 (aq 6)] 20 19]),(.cond 20 (ag [(.ae [ab 2 (a6 false)]),.ret]) .skip)]),(.ae [ak 21 1 2,an 22 21 1,ba 23 22,ak 24 1 0,an 25 24 1,ak 26 1 1,an 27 26 1,aw 28 .mul 25 27,aw 29 .eql 23 28,ab 30 29,.bt 30 true [ak 31 1 2,an 32 31 1,aD 33 238 [32]] 34 33,ab 2 34]),.ret])
def QP9:List (bn × Md):=[(.t 2,.one .d)]
theorem QF5(m:cc):aK Tryz.prog 258 [(.a [(.c TI m.1),(.c TI m.2.1),(.c (.sl [TI]) m.2.2)])] (BW (Zp m)):=by
 refine bz QR7 QFs QP9 0 0 35 ym (kc IF kn) (λK =>
 (aJ ((((decide (m.1<1))||(decide (m.1>6)))||(decide (m.2.1<1)))||(decide (m.2.1>6))) (K (BW false)) (K (BW ((((m.2.2).length:Int)==(aG (m.1*m.2.1)))&&(Ye m.2.2)))))) (λhb=>?_)
 refine⟨λh=>au ?_,λh=>au ?_⟩
 ·have:(bj m.1 1 6&&bj m.2.1 1 6)=false:=by simp[bj];simp at h;omega
  unfold Zp;rw[this];rfl
 ·have h':(1<=m.1/\m.1<=6)/\1<=m.2.1/\m.2.1<=6:=by simp at h;omega
  have hm:=rm h'.1.1 h'.1.2 h'.2.1 h'.2.2;rw[QG (x:=m.1*m.2.1) (by omega) (by omega)];unfold Zp;rw[Za.2 h'.1,Za.2 h'.2];simp
theorem Lx:Qf Tryz.prog ym:=Qi λx _=>QF5 x.1
def o9(t:Bool):aB:=b6 (bE t)
def BX:aI:=Qg 254 [(.a [TI,TI,(.sl [TI])])] λx=>(none,o9 (Zp x.1))
def Ly:aF:=⟨[YV,t4],false⟩
def QtR:af :=
 (ag [(ag [(.ae [ab 25 3,ak 26 1 2,an 27 26 1,ba 28 27,aw 29 .lss 25 28]),(.cond 29 .skip (.exit 0))]),(.block 1 (ag [(.ae [ak 32 1 2,an 33 32 1,ab 34 3,a0 35 33 34 [TI],an 36 35 1,aD 37 183 [36],bL 38 37]),(.cond 38 (ag [(.ae [ab 2 (a6 false)]),.ret]) .skip)])),(.ae [ab 30 3,aw 31 .add 30 (aq 1),ab 3 31])])
def Qxa:List (Nat × Md):=[(1,.b [.d,.d,.d]),(3,.one .d)]
def Qtc:af :=
 (ag [(.ae [ab 2 (a6 true)]),.ret])
def QVF:af :=
 (ag [(.ae [aC 1 (.box 235 0 3),ab 2 (a6 false)]),(ag [(.ae [ak 4 1 0,an 5 4 1,aD 6 158 [5,(aq 1),(aq 6)],bL 7 6,ab 8 7,.bt 8 false [ak 9 1 1,an 10 9 1,aD 11 158 [10,(aq 1),(aq 6)],bL 12 11] 13 12,ab 14 13,.bt 14 false [ak 15 1 2,an 16 15 1,ba 17 16,ak 18 1 0,an 19 18 1,ak 20 1 1,an 21 20 1,aw 22 .mul 19 21,aw 23 .neq 17 22] 24 23]),(.cond 24 (ag [(.ae [ab 2 (a6 false)]),.ret]) .skip)]),(ag [(.ae [ab 3 (aq 0)]),(.block 0 (.loop Qxa QtR))]),Qtc])
def Qyt:List (bn × Md):=[(.t 2,.one .d)]
def QrN:Qb:=TQ 0 0 Qyt K
def QQd:Qb:=aY (aO Ly 0 Qtc (QrN K)) (QrN K)
def QK8:Qb:=a7 0 (QQd K)
def Lz(m:cc)(i:Int):Prop:=Loop Ly 0 Qxa QtR (QK8 K) ⟨[(1,(.p 0 0 0)),(3,(aL i))],[(0,(.box [(aL m.1),(aL m.2.1),(bg [TI] m.2.2)]))],1⟩
theorem QLQ(m:cc)(i:Int) (h :
 (aJ (decide (i<((m.2.2).length:Int))) ((0<=i/\Int.toNat i<(m.2.2).length)/\(aJ (!(Zv (ar (0:Int) m.2.2 (Int.toNat i)))) (K (o9 false)) (Lz K m (aG (i+1))))) (K (o9 true)))):Lz K m i :=
 Loop.of h
theorem QXn(m:cc):aK Tryz.prog 254 [(.a [(.c TI m.1),(.c TI m.2.1),(.c (.sl [TI]) m.2.2)])] (o9 (Zp m)):=by
 refine bz Ly QVF Qyt 0 0 39 BX (kc Js (kc AZ kn)) (λK =>
 (aJ (((!(bj m.1 (1:Int) (6:Int)))||(!(bj m.2.1 (1:Int) (6:Int))))||(((m.2.2).length:Int) != (aG (m.1*m.2.1)))) (K (o9 false)) (Lz K m 0))) (λhb=>?_)
 have su:(m.2.2).length<=9223372036854775807:=hb.1.2.2.1.1;refine⟨λh=>au ?_,λh=>?_⟩
 ·have:Zp m=false:=by
   cases hm:Zp m with
   | false=>rfl
   | true =>
    obtain⟨h1,h2,h3,h4,h5,h6,h7⟩:=rE hm;rw[Za.2 ⟨h1,h2⟩,Za.2 ⟨h3,h4⟩,QG (x:=m.1*m.2.1) (by have:=rm h1 h2 h3 h4;omega) (by omega),<- h5]at h;simp at h
  exact this.symm
 ·have h':bj m.1 1 6=true/\bj m.2.1 1 6=true:=by simp at h;exact h.1
  have h1:=Za.1 h'.1;have h2:=Za.1 h'.2;have hm:=rm h1.1 h1.2 h2.1 h2.2;rw[QG (x:=m.1*m.2.1) (by omega) (by omega)]at h;exact oW (Q:=λx=>o9 x=o9 (Zp m)) (p:=Zv) (c:=λx=>!(Zv x)) 0 su (λ_=>rfl) (λi h=>QLQ (λr'=>r'=o9 (Zp m)) m i h) (au (by
   unfold Zp Ye;have h3:((m.2.2.length:Int)==m.1*m.2.1)=true:=by simp[h']at h;simp[h]
   rw[h'.1,h'.2,h3];simp))
theorem QuZ:Qf Tryz.prog BX:=Qi λx _=>QXn x.1
def LB(t:(List Int)):aB:=fZ (bg [TI] t)
def LC:aI:=Qg 255 [(.a [TI,TI,(.sl [TI])]),(.c TI)] λx=>(some (Gw x.1 x.2.1),LB (YA x.1 x.2.1))
def QMB:aF:=⟨[],false⟩
def QOO:af :=
 (ag [(.ae [aC 2 (.box 235 0 3),ab 4 (.k (.n [TI]))]),(.ae [ak 5 2 2,an 6 5 1,ab 7 1,ak 8 2 1,an 9 8 1,aw 10 .mul 7 9,ab 11 1,aw 12 .add 11 (aq 1),ak 13 2 1,an 14 13 1,aw 15 .mul 12 14,aC 16 (.fB 6 (some 10) (some 15) [TI]),ab 4 16]),.ret])
def QOd:List (bn × Md):=[(.t 4,.one .d)]
theorem QPK(m:cc)(i:Int)(hp:Gw m i):aK Tryz.prog 255 [(.a [(.c TI m.1),(.c TI m.2.1),(.c (.sl [TI]) m.2.2)]),(.c TI i)] (LB (YA m i)):=by
 refine bz QMB QOO QOd 0 0 17 LC kn (λK =>
 ((0<=aG (i*m.2.1)/\aG (i*m.2.1)<=aG ((aG (i+1))*m.2.1)/\aG ((aG (i+1))*m.2.1)<=((m.2.2).length:Int))/\K (LB (List.take (Int.toNat (aG ((aG (i+1))*m.2.1))-Int.toNat (aG (i*m.2.1))) (List.drop (Int.toNat (aG (i*m.2.1))) m.2.2))))) (λhb=>?_)
 obtain⟨h1,h2,h3,h4,h5,h6⟩:=hp;have hd:=idx h3 h4 h1;have h36:m.1*m.2.1<=36:=by
  have:=Int.mul_le_mul h5 h2 h1 (by omega:(0:Int)<=6);omega
 rw[QG (x:=i+1) (by omega) (by omega),QG (x:=i*m.2.1) (by omega) (by omega),QG (x:=(i+1)*m.2.1) (by omega) (by omega)];exact⟨⟨by omega,by omega,by omega⟩,au rfl⟩
theorem QUz:Qf Tryz.prog LC:=Qi λx h=>QPK x.1 x.2.1 h
def BZ(t:(List Int)):aB:=fZ (bg [TI] t)
def LD:aI:=Qg 264 [(.a [TI,TI,(.sl [TI])]),(.c TI)] λx=>(some (Gx x.1 x.2.1),BZ (ZP x.1 x.2.1))
def LF:aF:=⟨[],false⟩
def QtS:af :=
 (ag [(ag [(.ae [ab 8 6,ak 9 2 0,an 10 9 1,aw 11 .lss 8 10]),(.cond 11 .skip (.exit 0))]),(.block 1 (.ae [ab 14 5,ak 15 2 2,an 16 15 1,ab 17 6,ak 18 2 1,an 19 18 1,aw 20 .mul 17 19,ab 21 1,aw 22 .add 20 21,a0 23 16 22 [TI],an 24 23 1,aC 25 (.bW 3 [TI] [24]),aC 26 (.app 14 25 3 [TI]),ab 5 26])),(.ae [ab 12 6,aw 13 .add 12 (aq 1),ab 6 13])])
def QsR:List (Nat × Md):=[(1,.one .d),(2,.b [.d,.d,.d]),(5,.one .f),(6,.one .d)]
def QCd:af :=
 (ag [(.ae [ab 27 5,ab 4 27]),.ret])
def QVI:af :=
 (ag [(.ae [aC 2 (.box 235 0 3),ab 4 (.k (.n [TI]))]),(.ae [aC 7 (.bW 3 [TI] []),ab 5 7]),(ag [(.ae [ab 6 (aq 0)]),(.block 0 (.loop QsR QtS))]),QCd])
def Qri:List (bn × Md):=[(.t 4,.one .d)]
def Qwd:Qb:=TQ 0 0 Qri K
def QP0:Qb:=aY (aO LF 0 QCd (Qwd K)) (Qwd K)
def QQx:Qb:=a7 0 (QP0 K)
def B2(m:cc)(k:Int)(i:Int)(out:List Int):Prop:=Loop LF 0 QsR QtS (QQx K) ⟨[(1,(aL k)),(2,(.p 0 0 0)),(5,(.r [TI] 1 0 out.length)),(6,(aL i))],[(0,(.box [(aL m.1),(aL m.2.1),(bg [TI] m.2.2)])),(1,(.sl 3 [TI] .ow out))],2⟩
theorem Qw8(m:cc)(k:Int)(i:Int)(out:List Int) (h :
 (aJ (decide (i<m.1)) (((0<=aG ((aG (i*m.2.1))+k)/\Int.toNat (aG ((aG (i*m.2.1))+k))<(m.2.2).length)/\((out.length=out.length\/out.length+1<=out.length)/\out.length+1<=ca))/\(B2 K m k (aG (i+1)) (List.take (out.length+1) ((List.take out.length out)++([(ar (0:Int) m.2.2 (Int.toNat (aG ((aG (i*m.2.1))+k))))]))))) (K (BZ (List.take out.length (List.drop 0 out)))))):B2 K m k i out :=
 Loop.of h
theorem QFM(m:cc)(k:Int)(hp:Gx m k):aK Tryz.prog 264 [(.a [(.c TI m.1),(.c TI m.2.1),(.c (.sl [TI]) m.2.2)]),(.c TI k)] (BZ (ZP m k)):=by
 refine bz LF QVI Qri 0 0 28 LD kn (λK =>
 (B2 K m k 0 ([]:List Int))) (λhb=>?_)
 obtain⟨h2,h3,h4,h5,h6,h7⟩:=hp;have h36:m.1*m.2.1<=36:=by
  have:=Int.mul_le_mul h6 h2 (by omega) (by omega:(0:Int)<=6);omega
 refine rh m.1.toNat (λj=>B2 (λr'=>r'=BZ (ZP m k)) m k (j:Int) ((List.range j).map λi:Nat=>ar 0 m.2.2 ((i:Int)*m.2.1+k).toNat)) ?_ ?_
 ·refine Qw8 _ _ _ _ _ ⟨λh=>by simp at h;omega,λ_=>au ?_⟩;unfold ZP;rw[List.drop_zero,List.take_length]
 ·intro j hj ih;have hd:=idx (r:=j) (R:=m.1) (C:=m.2.1) (by omega) (by omega) (by omega);refine Qw8 _ _ _ _ _ ⟨λ_=>?_,λh=>by simp at h;omega⟩;rw[QG (x:=(j:Int)*m.2.1) (by omega) (by omega),QG (x:=(j:Int)*m.2.1+k) (by omega) (by omega),dL (by omega),Q8];rw[xm]at ih;exact⟨⟨⟨by omega,by omega⟩,room (by simp;omega)⟩,ih⟩
theorem QKi:Qf Tryz.prog LD:=Qi λx h=>QFM x.1 x.2.1 h
def yn(t:(List Int) × Bool):aB:=⟨(.tp [(.r [TI] 0 0 ((t.1).length)),(bE t.2)]),[(.sl 3 [TI] (.dp 0 true []) t.1)],[],false,[]⟩
def B3:aI:=Qg 229 [(.a [TI,TI,(.sl [TI])]),(.c (.sl [TI]))] λx=>(none,yn (Q6 x.1 x.2.1))
def LG:aF:=⟨[ym,Jk,yh],true⟩
def QCD:af :=
 (ag [(ag [(.ae [ab 22 8,ak 23 2 0,an 24 23 1,aw 25 .lss 22 24]),(.cond 25 .skip (.exit 0))]),(.block 1 (ag [(.ae [ak 29 2 2,an 30 29 1,ab 31 8,ak 32 2 1,an 33 32 1,aw 34 .mul 31 33,ab 35 8,aw 36 .add 35 (aq 1),ak 37 2 1,an 38 37 1,aw 39 .mul 36 38,aC 40 (.fB 30 (some 34) (some 39) [TI]),ab 41 1,aD 42 188 [40,41],ab 28 42,bF 43 28 0,bF 44 28 1,ab 9 43,ab 10 44]),(.ae [ab 45 6,ab 46 9,aC 47 (.bW 3 [TI] [46]),aC 48 (.app 45 47 3 [TI]),ab 6 48]),(.ae [ab 49 7,ab 50 49,.bt 50 false [ab 51 10] 52 51,ab 7 52])])),(.ae [ab 26 8,aw 27 .add 26 (aq 1),ab 8 27])])
def QwC:List (Nat × Md):=[(1,.one .d),(2,.b [.d,.d,.d]),(6,.one .f),(7,.one .d),(8,.one .d)]
def QtV:af :=
 (ag [(.ae [ab 53 6,ab 54 7,ab 4 53,ab 5 54]),.ret])
def QLY:af :=
 (ag [(.ae [aC 2 (.box 235 0 3),ab 4 (.k (.n [TI])),ab 5 (a6 false)]),(ag [(.ae [a8 11 2 3,aD 12 258 [11],bL 13 12,ab 14 13,.bt 14 false [ab 15 1,ak 16 2 1,an 17 16 1,aD 18 100 [15,17],bL 19 18] 20 19]),(.cond 20 (ag [(.ae [ab 4 (.k (.n [TI])),ab 5 (a6 false)]),.ret]) .skip)]),(.ae [aC 21 (.bW 3 [TI] []),ab 6 21]),(.ae [ab 7 (a6 false)]),(ag [(.ae [ab 8 (aq 0)]),(.block 0 (.loop QwC QCD))]),QtV])
def QCq:List (bn × Md):=[(.t 4,.one (.p 3)),(.t 5,.one .d)]
def Qt7:Qb:=TQ 0 0 QCq K
def QOZ:Qb:=aY (aO LG 0 QtV (Qt7 K)) (Qt7 K)
def QTe:Qb:=a7 0 (QOZ K)
def B4(m:cc)(x:List Int)(out:Bool)(r:Int)(v:List Int):Prop:=Loop LG 0 QwC QCD (QTe K) ⟨[(1,(bg [TI] x)),(2,(.p 0 0 0)),(6,(.r [TI] 1 0 v.length)),(7,(bE out)),(8,(aL r))],[(0,(.box [(aL m.1),(aL m.2.1),(bg [TI] m.2.2)])),(1,(.sl 3 [TI] (.dp 0 true []) v))],2⟩
theorem Qw0(m:cc)(x:List Int)(out:Bool)(r:Int)(v:List Int) (h :
 (aJ (decide (r<m.1)) ((0<=aG (r*m.2.1)/\aG (r*m.2.1)<=aG ((aG (r+1))*m.2.1)/\aG ((aG (r+1))*m.2.1)<=((m.2.2).length:Int))/\(((v.length=v.length\/v.length+1<=v.length)/\v.length+1<=ca)/\(B4 K m x (out||((Q1 (List.take (Int.toNat (aG ((aG (r+1))*m.2.1))-Int.toNat (aG (r*m.2.1))) (List.drop (Int.toNat (aG (r*m.2.1))) m.2.2)) x).2)) (aG (r+1)) (List.take (v.length+1) ((List.take v.length v)++([(Q1 (List.take (Int.toNat (aG ((aG (r+1))*m.2.1))-Int.toNat (aG (r*m.2.1))) (List.drop (Int.toNat (aG (r*m.2.1))) m.2.2)) x).1])))))) (K (yn ((List.take v.length v),out))))):B4 K m x out r v :=
 Loop.of h
theorem QXp(m:cc)(x:List Int):aK Tryz.prog 229 [(.a [(.c TI m.1),(.c TI m.2.1),(.c (.sl [TI]) m.2.2)]),(.c (.sl [TI]) x)] (yn (Q6 m x)):=by
 refine bz LG QLY QCq 0 0 55 B3 (kc Lx (kc JP (kc Lk kn))) (λK =>
 (aJ ((!(Zp m))||(!(QH x m.2.1))) (K (yn (([]:List Int),false))) (B4 K m x false 0 ([]:List Int)))) (λhb=>?_)
 refine⟨λh=>au (by rw[Tq];intro h2;simp[h2.1,h2.2]at h),λh=>?_⟩;have hp:Zp m=true/\QH x m.2.1=true:=by simpa using h
 obtain⟨h1,h2,h3,h4,h5,h6,h7⟩:=rE hp.1;have hv:(Q6 m x)=((List.range m.1.toNat).map λi:Nat=>(Q1 (YA m i) x).1,(List.range m.1.toNat).any λi:Nat=>(Q1 (YA m i) x).2):=by unfold Q6;rw[if_pos (by simp[hp])]
 refine rh m.1.toNat (λj=>B4 (λr'=>r'=yn (Q6 m x)) m x ((List.range j).any λi:Nat=>(Q1 (YA m i) x).2) (j:Int) ((List.range j).map λi:Nat=>(Q1 (YA m i) x).1)) ?_ ?_
 ·refine Qw0 _ _ _ _ _ _ ⟨λh=>by simp at h;omega,λ_=>au ?_⟩;rw[hv,List.take_length]
 ·intro j hj ih;have hd:=idx (r:=j) (R:=m.1) (C:=m.2.1) (by omega) (by omega) (by omega);refine Qw0 _ _ _ _ _ _ ⟨λ_=>?_,λh=>by simp at h;omega⟩;rw[QG (x:=(j:Int)+1) (by omega) (by omega),QG (x:=(j:Int)*m.2.1) (by omega) (by omega),QG (x:=((j:Int)+1)*m.2.1) (by omega) (by omega),Q8];rw[xm,Gy]at ih;exact⟨⟨by omega,by omega,by omega⟩,room (by simp;omega),ih⟩
theorem Quh:Qf Tryz.prog B3:=Qi λx _=>QXp x.1 x.2.1
def yo(t:(List Int) × Bool):aB:=fZ (.tp [(bg [TI] t.1),(bE t.2)])
def LH:aI:=Qg 223 [(.a [TI,TI,(.sl [TI])]),(.c (.sl [TI]))] λx=>(none,yo (Q6 x.1 x.2.1))
def LI:aF:=⟨[BX,Yv,LC,um],false⟩
def Qro:af :=
 (ag [(ag [(.ae [ab 28 8,ak 29 2 0,an 30 29 1,aw 31 .lss 28 30]),(.cond 31 .skip (.exit 0))]),(.block 1 (ag [(.ae [a8 35 2 3,ab 36 8,aD 37 255 [35,36],ab 38 1,aD 39 184 [37,38],ab 34 39,bF 40 34 0,bF 41 34 1,ab 9 40,ab 10 41]),(.ae [ab 42 6,ab 43 9,aC 44 (.bW 3 [TI] [43]),aC 45 (.app 42 44 3 [TI]),ab 6 45]),(.ae [ab 46 7,ab 47 46,.bt 47 false [ab 48 10] 49 48,ab 7 49])])),(.ae [ab 32 8,aw 33 .add 32 (aq 1),ab 8 33])])
def QAe:List (Nat × Md):=[(1,.one .d),(2,.b [.d,.d,.d]),(6,.one .f),(7,.one .d),(8,.one .d)]
def Qu7:af :=
 (ag [(.ae [ab 50 6,ab 51 7,ab 4 50,ab 5 51]),.ret])
def QV4:af :=
 (ag [(.ae [aC 2 (.box 235 0 3),ab 4 (.k (.n [TI])),ab 5 (a6 false)]),(.ae [aC 11 (.bW 3 [TI] []),ab 6 11]),(.ae [ab 7 (a6 false)]),(ag [(.ae [a8 12 2 3,aD 13 254 [12],bL 14 13,ab 15 14,.bt 15 false [ab 16 1,aD 17 97 [16],bL 18 17] 19 18,ab 20 19,.bt 20 false [ab 21 1,ba 22 21,ak 23 2 1,an 24 23 1,aw 25 .neq 22 24] 26 25]),(.cond 26 (ag [(.ae [ab 27 6,ab 4 27,ab 5 (a6 false)]),.ret]) .skip)]),(ag [(.ae [ab 8 (aq 0)]),(.block 0 (.loop QAe Qro))]),Qu7])
def QsG:List (bn × Md):=[(.t 4,.one .d),(.t 5,.one .d)]
def QyM:Qb:=TQ 0 0 QsG K
def QP2:Qb:=aY (aO LI 0 Qu7 (QyM K)) (QyM K)
def QUe:Qb:=a7 0 (QP2 K)
def B5(m:cc)(x:List Int)(sat:Bool)(i:Int)(out:List Int):Prop:=Loop LI 0 QAe Qro (QUe K) ⟨[(1,(bg [TI] x)),(2,(.p 0 0 0)),(6,(.r [TI] 1 0 out.length)),(7,(bE sat)),(8,(aL i))],[(0,(.box [(aL m.1),(aL m.2.1),(bg [TI] m.2.2)])),(1,(.sl 3 [TI] .ow out))],2⟩
theorem Qre(m:cc)(x:List Int)(sat:Bool)(i:Int)(out:List Int) (h :
 (aJ (decide (i<m.1)) ((Gw m i)/\(((out.length=out.length\/out.length+1<=out.length)/\out.length+1<=ca)/\(B5 K m x (sat||((Q1 (YA m i) x).2)) (aG (i+1)) (List.take (out.length+1) ((List.take out.length out)++([(Q1 (YA m i) x).1])))))) (K (yo ((List.take out.length (List.drop 0 out)),sat))))):B5 K m x sat i out :=
 Loop.of h
theorem QKZ(m:cc)(x:List Int):aK Tryz.prog 223 [(.a [(.c TI m.1),(.c TI m.2.1),(.c (.sl [TI]) m.2.2)]),(.c (.sl [TI]) x)] (yo (Q6 m x)):=by
 refine bz LI QV4 QsG 0 0 52 LH (kc QuZ (kc YK (kc QUz (kc BQ kn)))) (λK =>
 (aJ (((!(Zp m))||(!(QK x)))||((x.length:Int) != m.2.1)) (K (yo (([]:List Int),false))) (B5 K m x false 0 ([]:List Int)))) (λhb=>?_)
 have hg:∀ n:Int,(!(QK x)||((x.length:Int) != n)) = !(QH x n):=λn=>by unfold QH;simp[bne]
 rw[Bool.or_assoc,hg];refine⟨λh=>au (by rw[Tq];intro h2;simp[h2.1,h2.2]at h),λh=>?_⟩;have hp:Zp m=true/\QH x m.2.1=true:=by simpa using h
 obtain⟨h1,h2,h3,h4,h5,h6,h7⟩:=rE hp.1;have hv:(Q6 m x)=((List.range m.1.toNat).map λi:Nat=>(Q1 (YA m i) x).1,(List.range m.1.toNat).any λi:Nat=>(Q1 (YA m i) x).2):=by unfold Q6;rw[if_pos (by simp[hp])]
 refine rh m.1.toNat (λj=>B5 (λr'=>r'=yo (Q6 m x)) m x ((List.range j).any λi:Nat=>(Q1 (YA m i) x).2) (j:Int) ((List.range j).map λi:Nat=>(Q1 (YA m i) x).1)) ?_ ?_
 ·refine Qre _ _ _ _ _ _ ⟨λh=>by simp at h;omega,λ_=>au ?_⟩;rw[hv,List.drop_zero,List.take_length]
 ·intro j hj ih;have hd:=idx (r:=j) (R:=m.1) (C:=m.2.1) (by omega) (by omega) (by omega);refine Qre _ _ _ _ _ _ ⟨λ_=>?_,λh=>by simp at h;omega⟩;rw[dL (by omega),Q8];rw[xm,Gy]at ih;exact⟨⟨by omega,by omega,by omega,by omega,by omega,h5⟩,room (by simp;omega),ih⟩
theorem QW1:Qf Tryz.prog LH:=Qi λx _=>QKZ x.1 x.2.1
def uo(t:cc):aB:=fZ (.a [(aL t.1),(aL t.2.1),(bg [TI] t.2.2)])
def LJ:aI:=Qg 265 [(.a [TI,TI,(.sl [TI])])] λx=>(none,uo (Yx x.1))
def uq:aF:=⟨[ym],false⟩
def QzQ:af :=
 (ag [(ag [(.ae [ab 21 5,ak 22 1 0,an 23 22 1,aw 24 .lss 21 23]),(.cond 24 .skip (.exit 2))]),(.block 3 (.draw [ak 27 3 2,an 28 27 1,ak 29 1 2,an 30 29 1,ab 31 5,ak 32 1 1,an 33 32 1,aw 34 .mul 31 33,ab 35 4,aw 36 .add 34 35,a0 37 30 36 [TI],an 38 37 1,aC 39 (.bW 3 [TI] [38]),aC 40 (.app 28 39 3 [TI]),ak 41 3 2,aU 41 40 1] [(0,12),(1,12)])),(.ae [ab 25 5,aw 26 .add 25 (aq 1),ab 5 26])])
def QDh:List (Nat × Md):=[(1,.b [.d,.d,.d]),(2,.b [.d,.d,.d]),(3,.b [.d,.d,.f]),(4,.one .d),(5,.one .d)]
def QDU:af :=
 (.ae [ab 19 4,aw 20 .add 19 (aq 1),ab 4 20])
def LK:af :=
 (ag [(ag [(.ae [ab 15 4,ak 16 1 1,an 17 16 1,aw 18 .lss 15 17]),(.cond 18 .skip (.exit 0))]),(.block 1 (ag [(.ae [ab 5 (aq 0)]),(.block 2 (.loop QDh QzQ))])),QDU])
def B6:List (Nat × Md):=[(1,.b [.d,.d,.d]),(2,.b [.d,.d,.d]),(3,.b [.d,.d,.o 3]),(4,.one .d)]
def Qww:af :=
 (ag [(.ae [a8 42 3 3,aU 2 42 3]),.ret])
def QSV:af :=
 (ag [(.ae [aC 1 (.box 235 0 3),aC 2 (.new 235 (bG [TI,TI,(.sl [TI])]))]),(ag [(.ae [a8 6 1 3,aD 7 258 [6],bL 8 7]),(.cond 8 (ag [(.ae [aC 9 (.build (bG [TI,TI,(.sl [TI])]) []),aU 2 9 3]),.ret]) .skip)]),(.ae [ak 10 1 1,an 11 10 1,ak 12 1 0,an 13 12 1,aC 14 (.build (bG [TI,TI,(.sl [TI])]) [(0,1,11),(1,1,13)]),aC 3 (.new 235 (bG [TI,TI,(.sl [TI])])),aU 3 14 3]),(ag [(.ae [ab 4 (aq 0)]),(.block 0 (.loop B6 LK))]),Qww])
def QrE:List (bn × Md):=[(.l 2 3 true,.b [.d,.d,.d])]
def QxG:Qb:=TQ 0 0 QrE K
def QGM:Qb:=aY (aO uq 0 Qww (QxG K)) (QxG K)
def LL:Qb:=a7 0 (QGM K)
def QBw:Qb:=aY (λs'=>Loop uq 0 B6 LK (LL K) (gc 0 B6 s')) (LL K)
def QO9:Qb:=aY (aO uq 0 QDU (QBw K)) (QBw K)
def QJq:Qb:=a7 1 (QO9 K)
def QUC:Qb:=a7 2 (QJq K)
def B7(m:cc)(r:Int)(t2:List Int)(c:Int):Prop:=Loop uq 0 QDh QzQ (QUC K) ⟨[(1,(.p 0 0 0)),(2,(.p 1 0 0)),(3,(.p 3 0 0)),(4,(aL c)),(5,(aL r))],[(0,(.box [(aL m.1),(aL m.2.1),(bg [TI] m.2.2)])),(1,(.box [(aL 0),(aL 0),(bg [TI] ([]))])),(2,(.sl 3 [TI] .ow t2)),(3,(.box [(aL m.2.1),(aL m.1),(.r [TI] 2 0 t2.length)]))],4⟩
def B8(m:cc)(c:Int)(pb:List Int):Prop:=Loop uq 0 B6 LK (LL K) ⟨[(1,(.p 0 0 0)),(2,(.p 1 0 0)),(3,(.p 3 0 0)),(4,(aL c))],[(0,(.box [(aL m.1),(aL m.2.1),(bg [TI] m.2.2)])),(1,(.box [(aL 0),(aL 0),(bg [TI] ([]))])),(2,(.sl 3 [TI] .ow pb)),(3,(.box [(aL m.2.1),(aL m.1),(.r [TI] 2 0 pb.length)]))],4⟩
theorem Qrg(m:cc)(r:Int)(t2:List Int)(c:Int) (h :
 (aJ (decide (r<m.1)) (((0<=aG ((aG (r*m.2.1))+c)/\Int.toNat (aG ((aG (r*m.2.1))+c))<(m.2.2).length)/\((t2.length=t2.length\/t2.length+1<=t2.length)/\t2.length+1<=ca))/\(B7 K m (aG (r+1)) (List.take (t2.length+1) ((List.take t2.length t2)++([(ar (0:Int) m.2.2 (Int.toNat (aG ((aG (r*m.2.1))+c))))]))) c)) (B8 K m (aG (c+1)) (List.take t2.length t2)))):B7 K m r t2 c :=
 Loop.of h
theorem Qyy(m:cc)(c:Int)(pb:List Int) (h :
 (aJ (decide (c<m.2.1)) (B7 K m 0 (List.take pb.length pb) c) (K (uo (m.2.1,m.1,(List.take pb.length (List.drop 0 pb))))))):B8 K m c pb :=
 Loop.of h
theorem QUq(m:cc):aK Tryz.prog 265 [(.a [(.c TI m.1),(.c TI m.2.1),(.c (.sl [TI]) m.2.2)])] (uo (Yx m)):=by
 refine bz uq QSV QrE 0 0 43 LJ (kc Lx kn) (λK =>
 (aJ (!(Zp m)) (K (uo ((0:Int),(0:Int),[]))) (B8 K m 0 ([]:List Int)))) (λhb=>?_)
 refine⟨λh=>au (by unfold Yx;rw[if_neg (by simpa using h)]),λh=>?_⟩;have hp:Zp m=true:=by simpa using h
 obtain⟨h1,h2,h3,h4,h5,h6,h7⟩:=rE hp;refine rh m.2.1.toNat (λk=>B8 (λr'=>r'=uo (Yx m)) m (k:Int) ((List.range k).flatMap λk:Nat=>ZP m k)) ?_ ?_
 ·refine Qyy _ _ _ _ ⟨λh=>by simp at h;omega,λ_=>au ?_⟩;rw[List.drop_zero,List.take_length];unfold Yx;rw[if_pos hp]
 ·intro k hk ih;refine Qyy _ _ _ _ ⟨λ_=>?_,λh=>by simp at h;omega⟩;rw[List.take_length];have awt:((List.range k).flatMap λk:Nat=>ZP m k).length<=36:=by
   rw[GA (R:=m.1.toNat) k (λj _=>GB m j)];have:k*m.1.toNat<=6*6:=Nat.mul_le_mul (by omega) (by omega);omega
  have inner:=rh m.1.toNat (λj=>B7 (λr'=>r'=uo (Yx m)) m (j:Int) (((List.range k).flatMap λk:Nat=>ZP m k)++(List.range j).map λi:Nat=>ar 0 m.2.2 ((i:Int)*m.2.1+(k:Nat)).toNat) (k:Int)) ?_ ?_
  ·simpa using inner
  ·refine Qrg _ _ _ _ _ ⟨λh=>by simp at h;omega,λ_=>?_⟩;rw[List.take_length,dL (by omega)];rw[Gz]at ih;exact ih
  ·intro j hj lX;have hd:=idx (r:=j) (R:=m.1) (C:=m.2.1) (by omega) (by omega) (by omega);refine Qrg _ _ _ _ _ ⟨λ_=>?_,λh=>by simp at h;omega⟩;rw[QG (x:=(j:Int)*m.2.1) (by omega) (by omega),QG (x:=(j:Int)*m.2.1+(k:Int)) (by omega) (by omega),dL (by omega),Q8];rw[xm,<- List.append_assoc]at lX;exact⟨⟨⟨by omega,by omega⟩,room (by rw[List.length_append];simp only[List.length_map,List.length_range];omega)⟩,lX⟩
theorem QWP:Qf Tryz.prog LJ:=Qi λx _=>QUq x.1
def B9(t:(List Int) × Bool):aB:=⟨(.tp [(.r [TI] 0 0 ((t.1).length)),(bE t.2)]),[(.sl 3 [TI] (.dp 0 true []) t.1)],[],false,[]⟩
def LM:aI:=Qg 244 [(.a [TI,TI,(.sl [TI])]),(.c (.sl [TI]))] λx=>(none,B9 (Zr x.1 x.2.1))
def QRU:aF:=⟨[ym,Jk,LJ,B3],true⟩
def QXB:af :=
 (ag [(.ae [aC 2 (.box 235 0 3),ab 4 (.k (.n [TI])),ab 5 (a6 false)]),(ag [(.ae [a8 6 2 3,aD 7 258 [6],bL 8 7,ab 9 8,.bt 9 false [ab 10 1,ak 11 2 0,an 12 11 1,aD 13 100 [10,12],bL 14 13] 15 14]),(.cond 15 (ag [(.ae [ab 4 (.k (.n [TI])),ab 5 (a6 false)]),.ret]) .skip)]),(.ae [a8 16 2 3,aD 17 265 [16],ab 18 1,aD 19 229 [17,18],bF 20 19 0,bF 21 19 1,ab 4 20,ab 5 21]),.ret])
def QSQ:List (bn × Md):=[(.t 4,.one (.p 3)),(.t 5,.one .d)]
theorem QTN(m:cc)(d:List Int):aK Tryz.prog 244 [(.a [(.c TI m.1),(.c TI m.2.1),(.c (.sl [TI]) m.2.2)]),(.c (.sl [TI]) d)] (B9 (Zr m d)):=by
 refine bz QRU QXB QSQ 0 0 22 LM (kc Lx (kc JP (kc QWP (kc Quh kn)))) (λK =>
 (aJ ((!(Zp m))||(!(QH d m.1))) (K (B9 (([]:List Int),false))) (K (B9 ((List.take (((Q6 (Yx m) d).1).length) ((Q6 (Yx m) d).1)),(Q6 (Yx m) d).2))))) (λhb=>?_)
 refine⟨λh=>au (by rw[Tp];intro h2;simp[h2.1,h2.2]at h),λh=>?_⟩;have hp:Zp m=true/\QH d m.1=true:=by simpa using h
 exact au (by rw[List.take_length];exact QO5 hp.1 hp.2)
theorem QQL:Qf Tryz.prog LM:=Qi λx _=>QTN x.1 x.2.1
def yp(t:(List Int) × Bool):aB:=fZ (.tp [(bg [TI] t.1),(bE t.2)])
def LN:aI:=Qg 242 [(.a [TI,TI,(.sl [TI])]),(.c (.sl [TI]))] λx=>(none,yp (Zr x.1 x.2.1))
def LO:aF:=⟨[BX,Yv,LD,um],false⟩
def QBR:af :=
 (ag [(ag [(.ae [ab 28 8,ak 29 2 1,an 30 29 1,aw 31 .lss 28 30]),(.cond 31 .skip (.exit 0))]),(.block 1 (ag [(.ae [a8 35 2 3,ab 36 8,aD 37 264 [35,36],ab 38 1,aD 39 184 [37,38],ab 34 39,bF 40 34 0,bF 41 34 1,ab 9 40,ab 10 41]),(.ae [ab 42 6,ab 43 9,aC 44 (.bW 3 [TI] [43]),aC 45 (.app 42 44 3 [TI]),ab 6 45]),(.ae [ab 46 7,ab 47 46,.bt 47 false [ab 48 10] 49 48,ab 7 49])])),(.ae [ab 32 8,aw 33 .add 32 (aq 1),ab 8 33])])
def QC2:List (Nat × Md):=[(1,.one .d),(2,.b [.d,.d,.d]),(6,.one .f),(7,.one .d),(8,.one .d)]
def QBo:af :=
 (ag [(.ae [ab 50 6,ab 51 7,ab 4 50,ab 5 51]),.ret])
def QJf:af :=
 (ag [(.ae [aC 2 (.box 235 0 3),ab 4 (.k (.n [TI])),ab 5 (a6 false)]),(.ae [aC 11 (.bW 3 [TI] []),ab 6 11]),(.ae [ab 7 (a6 false)]),(ag [(.ae [a8 12 2 3,aD 13 254 [12],bL 14 13,ab 15 14,.bt 15 false [ab 16 1,aD 17 97 [16],bL 18 17] 19 18,ab 20 19,.bt 20 false [ab 21 1,ba 22 21,ak 23 2 0,an 24 23 1,aw 25 .neq 22 24] 26 25]),(.cond 26 (ag [(.ae [ab 27 6,ab 4 27,ab 5 (a6 false)]),.ret]) .skip)]),(ag [(.ae [ab 8 (aq 0)]),(.block 0 (.loop QC2 QBR))]),QBo])
def Quw:List (bn × Md):=[(.t 4,.one .d),(.t 5,.one .d)]
def Qxo:Qb:=TQ 0 0 Quw K
def QG9:Qb:=aY (aO LO 0 QBo (Qxo K)) (Qxo K)
def QQr:Qb:=a7 0 (QG9 K)
def Ca(m:cc)(d:List Int)(sat:Bool)(k:Int)(out:List Int):Prop:=Loop LO 0 QC2 QBR (QQr K) ⟨[(1,(bg [TI] d)),(2,(.p 0 0 0)),(6,(.r [TI] 1 0 out.length)),(7,(bE sat)),(8,(aL k))],[(0,(.box [(aL m.1),(aL m.2.1),(bg [TI] m.2.2)])),(1,(.sl 3 [TI] .ow out))],2⟩
theorem QB2(m:cc)(d:List Int)(sat:Bool)(k:Int)(out:List Int) (h :
 (aJ (decide (k<m.2.1)) ((Gx m k)/\(((out.length=out.length\/out.length+1<=out.length)/\out.length+1<=ca)/\(Ca K m d (sat||((Q1 (ZP m k) d).2)) (aG (k+1)) (List.take (out.length+1) ((List.take out.length out)++([(Q1 (ZP m k) d).1])))))) (K (yp ((List.take out.length (List.drop 0 out)),sat))))):Ca K m d sat k out :=
 Loop.of h
theorem QX5(m:cc)(d:List Int):aK Tryz.prog 242 [(.a [(.c TI m.1),(.c TI m.2.1),(.c (.sl [TI]) m.2.2)]),(.c (.sl [TI]) d)] (yp (Zr m d)):=by
 refine bz LO QJf Quw 0 0 52 LN (kc QuZ (kc YK (kc QKi (kc BQ kn)))) (λK =>
 (aJ (((!(Zp m))||(!(QK d)))||((d.length:Int) != m.1)) (K (yp (([]:List Int),false))) (Ca K m d false 0 ([]:List Int)))) (λhb=>?_)
 have hg:∀ n:Int,(!(QK d)||((d.length:Int) != n)) = !(QH d n):=λn=>by unfold QH;simp[bne]
 rw[Bool.or_assoc,hg];refine⟨λh=>au (by rw[Tp];intro h2;simp[h2.1,h2.2]at h),λh=>?_⟩;have hp:Zp m=true/\QH d m.1=true:=by simpa using h
 obtain⟨h1,h2,h3,h4,h5,h6,h7⟩:=rE hp.1;have hv:(Zr m d)=((List.range m.2.1.toNat).map λk:Nat=>(Q1 (ZP m k) d).1,(List.range m.2.1.toNat).any λk:Nat=>(Q1 (ZP m k) d).2):=by unfold Zr;rw[if_pos (by simp[hp])]
 refine rh m.2.1.toNat (λj=>Ca (λr'=>r'=yp (Zr m d)) m d ((List.range j).any λk:Nat=>(Q1 (ZP m k) d).2) (j:Int) ((List.range j).map λk:Nat=>(Q1 (ZP m k) d).1)) ?_ ?_
 ·refine QB2 _ _ _ _ _ _ ⟨λh=>by simp at h;omega,λ_=>au ?_⟩;rw[hv,List.drop_zero,List.take_length]
 ·intro j hj ih;refine QB2 _ _ _ _ _ _ ⟨λ_=>?_,λh=>by simp at h;omega⟩;rw[dL (by omega),Q8];rw[xm,Gy]at ih;exact⟨⟨by omega,by omega,by omega,by omega,by omega,h5⟩,room (by simp;omega),ih⟩
theorem QLx:Qf Tryz.prog LN:=Qi λx _=>QX5 x.1 x.2.1
def ur(t:cc × Bool):aB:=⟨(.tp [(.a [(aL t.1.1),(aL t.1.2.1),(.r [TI] 0 0 ((t.1.2.2).length))]),(bE t.2)]),[(.sl 3 [TI] (.dp 0 true []) t.1.2.2)],[],false,[]⟩
def LP:aI:=Qg 245 [(.c (.sl [TI])),(.c (.sl [TI]))] λx=>(none,ur (Zn x.1 x.2.1))
def uv:aF:=⟨[nP,xR],true⟩
def Qx7:af :=
 (ag [(.ae [aw 37 .lss 36 35]),(.cond 37 .skip (.exit 2)),(.block 3 (ag [(.ae [a0 38 34 36 [TI],an 39 38 1,ab 11 39]),(.ae [ab 41 9,ab 42 11,aD 43 239 [41,42],ab 40 43,bF 44 40 0,bF 45 40 1,ab 12 44,ab 13 45]),(.ae [ak 46 6 2,an 47 46 1,ab 48 12,aC 49 (.bW 3 [TI] [48]),aC 50 (.app 47 49 3 [TI]),ak 51 6 2,aU 51 50 1]),(.ae [ab 52 7,ab 53 52,.bt 53 false [ab 54 13] 55 54,ab 7 55])])),(.ae [aw 56 .add 36 (aq 1),ab 36 56])])
def QEV:List (Nat × Md):=[(1,.one .d),(4,.b [.d,.d,.f]),(6,.b [.d,.d,.f]),(7,.one .d),(9,.one .d),(28,.one .d),(29,.one .d),(30,.one .d),(34,.one .d),(35,.one .d),(36,.one .d)]
def QEA:af :=
 (.ae [aw 57 .add 30 (aq 1),ab 30 57])
def LQ:af :=
 (ag [(.ae [aw 31 .lss 30 29]),(.cond 31 .skip (.exit 0)),(.block 1 (ag [(.ae [a0 32 28 30 [TI],an 33 32 1,ab 9 33]),(.ae [ab 34 1,ba 35 34,ab 36 (aq 0)]),(.block 2 (.loop QEV Qx7))])),QEA])
def Cb:List (Nat × Md):=[(1,.one .d),(4,.b [.d,.d,.f]),(6,.b [.d,.d,.p 3]),(7,.one .d),(28,.one .d),(29,.one .d),(30,.one .d)]
def QCb:af :=
 (ag [(.ae [a8 58 6 3,ab 59 7,aU 4 58 3,ab 5 59]),.ret])
def QL7:af :=
 (ag [(.ae [aC 4 (.new 235 (bG [TI,TI,(.sl [TI])])),ab 5 (a6 false)]),(ag [(.ae [ab 14 0,aD 15 187 [14],bL 16 15,ab 17 16,.bt 17 false [ab 18 1,aD 19 187 [18],bL 20 19] 21 20]),(.cond 21 (ag [(.ae [aC 22 (.build (bG [TI,TI,(.sl [TI])]) []),aU 4 22 3,ab 5 (a6 false)]),.ret]) .skip)]),(.ae [ab 23 0,ba 24 23,ab 25 1,ba 26 25,aC 27 (.build (bG [TI,TI,(.sl [TI])]) [(0,1,24),(1,1,26)]),aC 6 (.new 235 (bG [TI,TI,(.sl [TI])])),aU 6 27 3]),(.ae [ab 7 (a6 false)]),(ag [(.ae [ab 28 0,ba 29 28,ab 30 (aq 0)]),(.block 0 (.loop Cb LQ))]),QCb])
def Qy0:List (bn × Md):=[(.l 4 3 true,.b [.d,.d,.p 3]),(.t 5,.one .d)]
def Qsf:Qb:=TQ 0 0 Qy0 K
def QNn:Qb:=aY (aO uv 0 QCb (Qsf K)) (Qsf K)
def LR:Qb:=a7 0 (QNn K)
def Qw2:Qb:=aY (λs'=>Loop uv 0 Cb LQ (LR K) (gc 0 Cb s')) (LR K)
def QYa:Qb:=aY (aO uv 0 QEA (Qw2 K)) (Qw2 K)
def QH2:Qb:=a7 1 (QYa K)
def QVx:Qb:=a7 2 (QH2 K)
def Cd(d:List Int)(x:List Int)(out:Bool)(x1:Int)(m2:List Int)(x2:Int):Prop:=Loop uv 0 QEV Qx7 (QVx K) ⟨[(1,(bg [TI] x)),(4,(.p 0 0 0)),(6,(.p 2 0 0)),(7,(bE out)),(9,(aL (ar (0:Int) d (Int.toNat x2)))),(28,(bg [TI] d)),(29,(aL (d.length:Int))),(30,(aL x2)),(34,(bg [TI] x)),(35,(aL (x.length:Int))),(36,(aL x1))],[(0,(.box [(aL 0),(aL 0),(.n [TI])])),(1,(.sl 3 [TI] (.dp 0 true []) m2)),(2,(.box [(aL (d.length:Int)),(aL (x.length:Int)),(.r [TI] 1 0 m2.length)]))],3⟩
def Ce(d:List Int)(x:List Int)(lY:Bool)(x2:Int)(ji:List Int):Prop:=Loop uv 0 Cb LQ (LR K) ⟨[(1,(bg [TI] x)),(4,(.p 0 0 0)),(6,(.p 2 0 0)),(7,(bE lY)),(28,(bg [TI] d)),(29,(aL (d.length:Int))),(30,(aL x2))],[(0,(.box [(aL 0),(aL 0),(.n [TI])])),(1,(.sl 3 [TI] (.dp 0 true []) ji)),(2,(.box [(aL (d.length:Int)),(aL (x.length:Int)),(.r [TI] 1 0 ji.length)]))],3⟩
theorem Qxc(d:List Int)(x:List Int)(out:Bool)(x1:Int)(m2:List Int)(x2:Int) (h :
 (aJ (decide (x1<(x.length:Int))) ((0<=x1/\Int.toNat x1<x.length)/\(((m2.length=m2.length\/m2.length+1<=m2.length)/\m2.length+1<=ca)/\(Cd K d x (out||((Q7 (ar (0:Int) d (Int.toNat x2)) (ar (0:Int) x (Int.toNat x1))).2)) (aG (x1+1)) (List.take (m2.length+1) ((List.take m2.length m2)++([(Q7 (ar (0:Int) d (Int.toNat x2)) (ar (0:Int) x (Int.toNat x1))).1]))) x2))) (Ce K d x out (aG (x2+1)) (List.take m2.length m2)))):Cd K d x out x1 m2 x2 :=
 Loop.of h
theorem Qr0(d:List Int)(x:List Int)(lY:Bool)(x2:Int)(ji:List Int) (h :
 (aJ (decide (x2<(d.length:Int))) ((0<=x2/\Int.toNat x2<d.length)/\(Cd K d x lY 0 (List.take ji.length ji) x2)) (K (ur (((d.length:Int),(x.length:Int),(List.take ji.length ji)),lY))))):Ce K d x lY x2 ji :=
 Loop.of h
theorem QO0(d:List Int)(x:List Int):aK Tryz.prog 245 [(.c (.sl [TI]) d),(.c (.sl [TI]) x)] (ur (Zn d x)):=by
 refine bz uv QL7 Qy0 0 0 60 LP (kc sa (kc Kk kn)) (λK =>
 (aJ ((!(QK d))||(!(QK x))) (K (ur (((0:Int),(0:Int),([]:List Int)),false))) (Ce K d x false 0 ([]:List Int)))) (λhb=>?_)
 refine⟨λh=>au (by unfold Zn;rw[if_neg (by simpa[Classical.or_iff_not_imp_left]using h)]),λh=>?_⟩;have hp:QK d=true/\QK x=true:=by simpa using h
 have h6:=(Yi.1 hp.1).1;have h7:=(Yi.1 hp.2).1;refine Zf d (λr j=>∀(v:List Int)(z:Bool),v.length<=6*j->((((d.length:Int),(x.length:Int),v++r.flatMap λa=>x.map λb=>(Q7 a b).1),z||r.any λa=>x.any λb=>(Q7 a b).2):cc × Bool)=(Zn d x)->Ce (λr'=>r'=ur (Zn d x)) d x z j v) ?_ ?_ [] false (Nat.zero_le _) (by unfold Zn;rw[if_pos (by simp[hp])];simp)
 ·intro v z hv he;refine Qr0 _ _ _ _ _ _ ⟨λh=>by simp at h,λ_=>au ?_⟩;rw[<- he];simp
 ·intro j y r hj aW hg ih v z hv he;refine Qr0 _ _ _ _ _ _ ⟨λ_=>?_,λh=>by simp at h;omega⟩;rw[List.take_length];refine⟨⟨by omega,by omega⟩,Zf x (λr2 k=>∀(v2:List Int)(z2:Bool),v2.length=v.length+k->v2++r2.map (λb=>(Q7 y b).1)=v++x.map (λb=>(Q7 y b).1)->(z2||r2.any λb=>(Q7 y b).2)=(z||x.any λb=>(Q7 y b).2)->Cd (λr'=>r'=ur (Zn d x)) d x z2 k v2 j) ?_ ?_ v z (by omega) rfl rfl⟩
  ·intro v2 z2 mO eH jh;refine Qxc _ _ _ _ _ _ _ ⟨λh=>by simp at h,λ_=>?_⟩;rw[List.take_length,dL (by omega)];simp only[List.map_nil,List.append_nil,List.any_nil,Bool.or_false]at eH jh;refine ih _ _ (by rw[mO];omega) ?_;rw[<- he,eH,jh];simp[Bool.or_assoc]
  ·intro k w r2 hk lJ ig lX v2 z2 mO eH jh;refine Qxc _ _ _ _ _ _ _ ⟨λ_=>?_,λh=>by simp at h;omega⟩;rw[Int.toNat_natCast,Int.toNat_natCast,hg,ig,dL (by omega),Q8];refine⟨⟨by omega,by omega⟩,room (by omega),lX _ _ (by simp;omega) ?_ ?_⟩
   ·rw[<- eH];simp
   ·rw[<- jh];simp[Bool.or_assoc]
theorem QIR:Qf Tryz.prog LP:=Qi λx _=>QO0 x.1 x.2.1
def uw(t:cc × Bool):aB:=fZ (.tp [(.a [(aL t.1.1),(aL t.1.2.1),(bg [TI] t.1.2.2)]),(bE t.2)])
def LS:aI:=Qg 243 [(.c (.sl [TI])),(.c (.sl [TI]))] λx=>(none,uw (Zn x.1 x.2.1))
def ux:aF:=⟨[Yv,xS],false⟩
def QAL:af :=
 (ag [(ag [(.ae [ab 32 9,ab 33 1,ba 34 33,aw 35 .lss 32 34]),(.cond 35 .skip (.exit 2))]),(.block 3 (ag [(.draw [ab 39 0,ab 40 8,a0 41 39 40 [TI],an 42 41 1,ab 43 1,ab 44 9,a0 45 43 44 [TI],an 46 45 1,aD 47 237 [42,46],ab 38 47,bF 48 38 0,bF 49 38 1,ab 10 48,ab 11 49] []),(.ae [ak 50 6 2,an 51 50 1,ab 52 10,aC 53 (.bW 3 [TI] [52]),aC 54 (.app 51 53 3 [TI]),ak 55 6 2,aU 55 54 1]),(.ae [ab 56 7,ab 57 56,.bt 57 false [ab 58 11] 59 58,ab 7 59])])),(.ae [ab 36 9,aw 37 .add 36 (aq 1),ab 9 37])])
def QC4:List (Nat × Md):=[(0,.one .d),(1,.one .d),(4,.b [.d,.d,.d]),(6,.b [.d,.d,.f]),(7,.one .d),(8,.one .d),(9,.one .d)]
def Qtb:af :=
 (.ae [ab 30 8,aw 31 .add 30 (aq 1),ab 8 31])
def LU:af :=
 (ag [(ag [(.ae [ab 26 8,ab 27 0,ba 28 27,aw 29 .lss 26 28]),(.cond 29 .skip (.exit 0))]),(.block 1 (ag [(.ae [ab 9 (aq 0)]),(.block 2 (.loop QC4 QAL))])),Qtb])
def Cf:List (Nat × Md):=[(0,.one .d),(1,.one .d),(4,.b [.d,.d,.d]),(6,.b [.d,.d,.o 3]),(7,.one .d),(8,.one .d)]
def Qv0:af :=
 (ag [(.ae [a8 60 6 3,ab 61 7,aU 4 60 3,ab 5 61]),.ret])
def QUD:af :=
 (ag [(.ae [aC 4 (.new 235 (bG [TI,TI,(.sl [TI])])),ab 5 (a6 false)]),(ag [(.ae [ab 12 0,aD 13 97 [12],bL 14 13,ab 15 14,.bt 15 false [ab 16 1,aD 17 97 [16],bL 18 17] 19 18]),(.cond 19 (ag [(.ae [aC 20 (.build (bG [TI,TI,(.sl [TI])]) []),aU 4 20 3,ab 5 (a6 false)]),.ret]) .skip)]),(.ae [ab 21 0,ba 22 21,ab 23 1,ba 24 23,aC 25 (.build (bG [TI,TI,(.sl [TI])]) [(0,1,22),(1,1,24)]),aC 6 (.new 235 (bG [TI,TI,(.sl [TI])])),aU 6 25 3]),(.ae [ab 7 (a6 false)]),(ag [(.ae [ab 8 (aq 0)]),(.block 0 (.loop Cf LU))]),Qv0])
def QEf:List (bn × Md):=[(.l 4 3 true,.b [.d,.d,.d]),(.t 5,.one .d)]
def Qvl:Qb:=TQ 0 0 QEf K
def QQ4:Qb:=aY (aO ux 0 Qv0 (Qvl K)) (Qvl K)
def LV:Qb:=a7 0 (QQ4 K)
def Qxq:Qb:=aY (λs'=>Loop ux 0 Cf LU (LV K) (gc 0 Cf s')) (LV K)
def QX9:Qb:=aY (aO ux 0 Qtb (Qxq K)) (Qxq K)
def QWa:Qb:=a7 1 (QX9 K)
def QGF:Qb:=a7 2 (QWa K)
def Cg(d:List Int)(x:List Int)(sat:Bool)(k:Int)(m2:List Int)(i:Int):Prop:=Loop ux 0 QC4 QAL (QGF K) ⟨[(0,(bg [TI] d)),(1,(bg [TI] x)),(4,(.p 0 0 0)),(6,(.p 2 0 0)),(7,(bE sat)),(8,(aL i)),(9,(aL k))],[(0,(.box [(aL 0),(aL 0),(bg [TI] ([]))])),(1,(.sl 3 [TI] .ow m2)),(2,(.box [(aL (d.length:Int)),(aL (x.length:Int)),(.r [TI] 1 0 m2.length)]))],3⟩
def Ch(d:List Int)(x:List Int)(lZ:Bool)(i:Int)(ji:List Int):Prop:=Loop ux 0 Cf LU (LV K) ⟨[(0,(bg [TI] d)),(1,(bg [TI] x)),(4,(.p 0 0 0)),(6,(.p 2 0 0)),(7,(bE lZ)),(8,(aL i))],[(0,(.box [(aL 0),(aL 0),(bg [TI] ([]))])),(1,(.sl 3 [TI] .ow ji)),(2,(.box [(aL (d.length:Int)),(aL (x.length:Int)),(.r [TI] 1 0 ji.length)]))],3⟩
theorem Qvc(d:List Int)(x:List Int)(sat:Bool)(k:Int)(m2:List Int)(i:Int) (h :
 (aJ (decide (k<(x.length:Int))) (((0<=i/\Int.toNat i<d.length)/\(0<=k/\Int.toNat k<x.length))/\(((m2.length=m2.length\/m2.length+1<=m2.length)/\m2.length+1<=ca)/\(Cg K d x (sat||((Q7 (ar (0:Int) d (Int.toNat i)) (ar (0:Int) x (Int.toNat k))).2)) (aG (k+1)) (List.take (m2.length+1) ((List.take m2.length m2)++([(Q7 (ar (0:Int) d (Int.toNat i)) (ar (0:Int) x (Int.toNat k))).1]))) i))) (Ch K d x sat (aG (i+1)) (List.take m2.length m2)))):Cg K d x sat k m2 i :=
 Loop.of h
theorem Qtm(d:List Int)(x:List Int)(lZ:Bool)(i:Int)(ji:List Int) (h :
 (aJ (decide (i<(d.length:Int))) (Cg K d x lZ 0 (List.take ji.length ji) i) (K (uw (((d.length:Int),(x.length:Int),(List.take ji.length (List.drop 0 ji))),lZ))))):Ch K d x lZ i ji :=
 Loop.of h
theorem QXu(d:List Int)(x:List Int):aK Tryz.prog 243 [(.c (.sl [TI]) d),(.c (.sl [TI]) x)] (uw (Zn d x)):=by
 refine bz ux QUD QEf 0 0 62 LS (kc YK (kc Km kn)) (λK =>
 (aJ ((!(QK d))||(!(QK x))) (K (uw (((0:Int),(0:Int),[]),false))) (Ch K d x false 0 ([]:List Int)))) (λhb=>?_)
 refine⟨λh=>au (by unfold Zn;rw[if_neg (by simpa[Classical.or_iff_not_imp_left]using h)]),λh=>?_⟩;have hp:QK d=true/\QK x=true:=by simpa using h
 have h6:=(Yi.1 hp.1).1;have h7:=(Yi.1 hp.2).1;refine Zf d (λr j=>∀(v:List Int)(z:Bool),v.length<=6*j->((((d.length:Int),(x.length:Int),v++r.flatMap λa=>x.map λb=>(Q7 a b).1),z||r.any λa=>x.any λb=>(Q7 a b).2):cc × Bool)=(Zn d x)->Ch (λr'=>r'=uw (Zn d x)) d x z j v) ?_ ?_ [] false (Nat.zero_le _) (by unfold Zn;rw[if_pos (by simp[hp])];simp)
 ·intro v z hv he;refine Qtm _ _ _ _ _ _ ⟨λh=>by simp at h,λ_=>au ?_⟩;rw[<- he];simp
 ·intro j y r hj aW hg ih v z hv he;refine Qtm _ _ _ _ _ _ ⟨λ_=>?_,λh=>by simp at h;omega⟩;rw[List.take_length];refine Zf x (λr2 k=>∀(v2:List Int)(z2:Bool),v2.length=v.length+k->v2++r2.map (λb=>(Q7 y b).1)=v++x.map (λb=>(Q7 y b).1)->(z2||r2.any λb=>(Q7 y b).2)=(z||x.any λb=>(Q7 y b).2)->Cg (λr'=>r'=uw (Zn d x)) d x z2 k v2 j) ?_ ?_ v z (by omega) rfl rfl
  ·intro v2 z2 mO eH jh;refine Qvc _ _ _ _ _ _ _ ⟨λh=>by simp at h,λ_=>?_⟩;rw[List.take_length,dL (by omega)];simp only[List.map_nil,List.append_nil,List.any_nil,Bool.or_false]at eH jh;refine ih _ _ (by rw[mO];omega) ?_;rw[<- he,eH,jh];simp[Bool.or_assoc]
  ·intro k w r2 hk lJ ig lX v2 z2 mO eH jh;refine Qvc _ _ _ _ _ _ _ ⟨λ_=>?_,λh=>by simp at h;omega⟩;rw[Int.toNat_natCast,Int.toNat_natCast,hg,ig,dL (by omega),Q8];refine⟨⟨⟨by omega,by omega⟩,by omega,by omega⟩,room (by omega),lX _ _ (by simp;omega) ?_ ?_⟩
   ·rw[<- eH];simp
   ·rw[<- jh];simp[Bool.or_assoc]
theorem QNZ:Qf Tryz.prog LS:=Qi λx _=>QXu x.1 x.2.1
def LW(t:cc):aB:=fZ (.a [(aL t.1),(aL t.2.1),(bg [TI] t.2.2)])
def Ci:aI:=Qg 230 [(.a aM)] λx=>(none,LW (Q3 x.1))
def QIm:aF:=⟨[],false⟩
def QPi:af :=
 (ag [(.ae [aC 1 (.box 134 0 4),aC 2 (.new 235 (bG [TI,TI,(.sl [TI])]))]),(.ae [ak 3 1 2,an 4 3 1,ak 5 1 1,an 6 5 1,ak 7 1 3,an 8 7 1,aC 9 (.build (bG [TI,TI,(.sl [TI])]) [(0,1,4),(1,1,6),(2,1,8)]),aU 2 9 3]),.ret])
def QTZ:List (bn × Md):=[(.l 2 3 true,.b [.d,.d,.d])]
theorem QQq(o:aH):aK Tryz.prog 230 [(.a (aS.cells aM o))] (LW (Q3 o)):=by
 refine bz QIm QPi QTZ 0 0 10 Ci kn (λK =>
 K (LW (o.2.2.1,o.2.1,o.2.2.2))) (λhb=>?_)
 exact au rfl
theorem QzT:Qf Tryz.prog Ci:=Qi λx _=>QQq x.1
def LX(t:cc):aB:=fZ (.a [(aL t.1),(aL t.2.1),(bg [TI] t.2.2)])
def Cj:aI:=Qg 224 [(.a aM)] λx=>(none,LX (Q3 x.1))
def QUl:aF:=⟨[],false⟩
def QXz:af :=
 (ag [(.ae [aC 1 (.box 134 0 4),aC 2 (.new 235 (bG [TI,TI,(.sl [TI])]))]),(.ae [ak 3 1 2,an 4 3 1,ak 5 1 1,an 6 5 1,ak 7 1 3,an 8 7 1,aC 9 (.build (bG [TI,TI,(.sl [TI])]) [(0,1,4),(1,1,6),(2,1,8)]),aU 2 9 3]),.ret])
def QM6:List (bn × Md):=[(.l 2 3 true,.b [.d,.d,.d])]
theorem QWk(o:aH):aK Tryz.prog 224 [(.a (aS.cells aM o))] (LX (Q3 o)):=by
 refine bz QUl QXz QM6 0 0 10 Cj kn (λK =>
 K (LX (o.2.2.1,o.2.1,o.2.2.2))) (λhb=>?_)
 exact au rfl
theorem QyK:Qf Tryz.prog Cj:=Qi λx _=>QWk x.1
def pc(t:(List Int) × Bool):aB:=⟨(.tp [(.r [TI] 0 0 ((t.1).length)),(bE t.2)]),[(.sl 3 [TI] (.dp 0 true []) t.1)],[],false,[]⟩
def LY:aI:=Qg 170 [(.a aM),(.c (.sl [TI]))] λx=>(none,pc (ZY x.1 x.2.1))
def QU7:aF:=⟨[xJ,Jk,Ci,B3,Bx,BI,Ln],true⟩
def QOq:af :=
 (ag [(.ae [aC 2 (.box 134 0 4),ab 4 (.k (.n [TI])),ab 5 (a6 false)]),(ag [(.ae [a8 10 2 4,aD 11 228 [10],bL 12 11,ab 13 12,.bt 13 false [ab 14 1,ak 15 2 1,an 16 15 1,aD 17 100 [14,16],bL 18 17] 19 18]),(.cond 19 (ag [(.ae [ab 4 (.k (.n [TI])),ab 5 (a6 false)]),.ret]) .skip)]),(ag [(.ae [ak 20 2 0,an 21 20 1]),(.block 0 (ag [(.ae [aw 23 .eql 21 (aq 1),ab 22 23]),(.cond 22 (ag [(.ae [a8 24 2 4,aD 25 230 [24],ab 26 1,aD 27 229 [25,26],bF 28 27 0,bF 29 27 1,ab 4 28,ab 5 29]),.ret]) (ag [(.ae [aw 31 .eql 21 (aq 2),ab 30 31]),(.cond 30 (ag [(.ae [ab 32 1,ak 33 2 3,an 34 33 1,aD 35 231 [32,34],bF 36 35 0,bF 37 35 1,ab 4 36,ab 5 37]),.ret]) (ag [(.ae [aw 39 .eql 21 (aq 4),ab 38 39]),(.cond 38 (ag [(.ae [ak 40 2 3,an 41 40 1,a0 42 41 (aq 0) [TI],an 43 42 1,ab 44 1,aD 45 232 [43,44],bF 46 45 0,bF 47 45 1,ab 4 46,ab 5 47]),.ret]) (ag [(.ae [aw 49 .eql 21 (aq 5),ab 48 49]),(.cond 48 (ag [(.ae [a8 51 2 4,aD 52 230 [51],ab 53 1,aD 54 229 [52,53],ab 50 54,bF 55 50 0,bF 56 50 1,ab 6 55,ab 7 56]),(.ae [ab 58 1,ab 59 6,aD 60 231 [58,59],ab 57 60,bF 61 57 0,bF 62 57 1,ab 8 61,ab 9 62]),(.ae [ab 63 8,ab 64 7,ab 65 64,.bt 65 false [ab 66 9] 67 66,ab 4 63,ab 5 67]),.ret]) .skip)]))]))]))]))]),(.ae [ab 68 1,aD 69 233 [68],ab 4 69,ab 5 (a6 false)]),.ret])
def QXk:List (bn × Md):=[(.t 4,.one (.p 3)),(.t 5,.one .d)]
theorem QJJ(o:aH)(x:List Int):aK Tryz.prog 170 [(.a (aS.cells aM o)),(.c (.sl [TI]) x)] (pc (ZY o x)):=by
 refine bz QU7 QOq QXk 0 0 70 LY (kc I2 (kc JP (kc QzT (kc Quh (kc QsO (kc Qv3 (kc QN8 kn))))))) (λK =>
 (aJ ((!(Zi o))||(!(QH x o.2.1))) (K (pc (([]:List Int),false))) (aJ (o.1==1) (K (pc ((List.take (((Q6 (Q3 o) x).1).length) ((Q6 (Q3 o) x).1)),(Q6 (Q3 o) x).2))) (aJ (o.1==2) (K (pc ((List.take (((Zd x o.2.2.2).1).length) ((Zd x o.2.2.2).1)),(Zd x o.2.2.2).2))) (aJ (o.1==4) (((0:Int)<=0/\Int.toNat 0<(o.2.2.2).length)/\K (pc ((List.take (((Zz (ar (0:Int) o.2.2.2 (Int.toNat 0)) x).1).length) ((Zz (ar (0:Int) o.2.2.2 (Int.toNat 0)) x).1)),(Zz (ar (0:Int) o.2.2.2 (Int.toNat 0)) x).2))) (aJ (o.1==5) (K (pc ((List.take (((Zd x (List.take (((Q6 (Q3 o) x).1).length) (List.drop 0 ((Q6 (Q3 o) x).1)))).1).length) ((Zd x (List.take (((Q6 (Q3 o) x).1).length) (List.drop 0 ((Q6 (Q3 o) x).1)))).1)),(((Q6 (Q3 o) x).2)||((Zd x (List.take (((Q6 (Q3 o) x).1).length) (List.drop 0 ((Q6 (Q3 o) x).1)))).2))))) (K (pc ((List.take ((Z4 x).length) (Z4 x)),false))))))))) (λhb=>?_)
 refine⟨λh=>au (by rw[Ts];intro h2;simp[h2.1,h2.2]at h),λh=>?_⟩;have hp:Zi o=true/\QH x o.2.1=true:=by simpa using h
 have hk:=Ay hp.1;have hv:(ZY o x)=(if o.1=1 then Q6 (Q3 o) x else if o.1=2 then Zd x o.2.2.2 else if o.1=4 then Zz (ar 0 o.2.2.2 0) x
    else if o.1=5 then((Zd x (Q6 (Q3 o) x).1).1,(Q6 (Q3 o) x).2||(Zd x (Q6 (Q3 o) x).1).2) else(Z4 x,false)):=by
  unfold ZY;rw[if_pos (by rw[hp.1,hp.2];rfl)]
 refine⟨λh1=>au ?_,λh1=>⟨λh2=>au ?_,λh2=>⟨λh4=>⟨⟨by omega,Ax hp.1 (by simpa using h4)⟩,au ?_⟩,λh4=>⟨λh5=>au ?_,λh5=>au ?_⟩⟩⟩⟩
 all_goals (rw[hv];clear hv;simp at *;simp[*])
theorem QLi:Qf Tryz.prog LY:=Qi λx _=>QJJ x.1 x.2.1
def pd(t:(List Int) × Bool):aB:=fZ (.tp [(bg [TI] t.1),(bE t.2)])
def LZ:aI:=Qg 160 [(.a aM),(.c (.sl [TI]))] λx=>(none,pd (ZY x.1 x.2.1))
def QGt:aF:=⟨[xH,Yv,Cj,LH,BB,Lp,BL],false⟩
def QJW:af :=
 (ag [(.ae [aC 2 (.box 134 0 4),ab 4 (.k (.n [TI])),ab 5 (a6 false)]),(ag [(.ae [a8 10 2 4,aD 11 222 [10],bL 12 11,ab 13 12,.bt 13 false [ab 14 1,aD 15 97 [14],bL 16 15] 17 16,ab 18 17,.bt 18 false [ab 19 1,ba 20 19,ak 21 2 1,an 22 21 1,aw 23 .neq 20 22] 24 23]),(.cond 24 (ag [(.ae [aC 25 (.bW 3 [TI] []),ab 4 25,ab 5 (a6 false)]),.ret]) .skip)]),(ag [(.ae [ak 26 2 0,an 27 26 1]),(.block 0 (ag [(.ae [aw 29 .eql 27 (aq 1),ab 28 29]),(.cond 28 (ag [(.ae [a8 30 2 4,aD 31 224 [30],ab 32 1,aD 33 223 [31,32],bF 34 33 0,bF 35 33 1,ab 4 34,ab 5 35]),.ret]) (ag [(.ae [aw 37 .eql 27 (aq 2),ab 36 37]),(.cond 36 (ag [(.ae [ab 38 1,ak 39 2 3,an 40 39 1,aD 41 225 [38,40],bF 42 41 0,bF 43 41 1,ab 4 42,ab 5 43]),.ret]) (ag [(.ae [aw 45 .eql 27 (aq 3),ab 44 45]),(.cond 44 (ag [(.ae [ab 46 1,aD 47 226 [46],ab 4 47,ab 5 (a6 false)]),.ret]) (ag [(.ae [aw 49 .eql 27 (aq 4),ab 48 49]),(.cond 48 (ag [(.ae [ak 50 2 3,an 51 50 1,a0 52 51 (aq 0) [TI],an 53 52 1,ab 54 1,aD 55 227 [53,54],bF 56 55 0,bF 57 55 1,ab 4 56,ab 5 57]),.ret]) .skip)]))]))]))]))]),(.ae [a8 59 2 4,aD 60 224 [59],ab 61 1,aD 62 223 [60,61],ab 58 62,bF 63 58 0,bF 64 58 1,ab 6 63,ab 7 64]),(.ae [ab 66 1,ab 67 6,aD 68 225 [66,67],ab 65 68,bF 69 65 0,bF 70 65 1,ab 8 69,ab 9 70]),(.ae [ab 71 8,ab 72 7,ab 73 72,.bt 73 false [ab 74 9] 75 74,ab 4 71,ab 5 75]),.ret])
def QRP:List (bn × Md):=[(.t 4,.one .d),(.t 5,.one .d)]
theorem QN3(o:aH)(x:List Int):aK Tryz.prog 160 [(.a (aS.cells aM o)),(.c (.sl [TI]) x)] (pd (ZY o x)):=by
 refine bz QGt QJW QRP 0 0 76 LZ (kc I1 (kc YK (kc QyK (kc QW1 (kc Qye (kc QTu (kc QyU kn))))))) (λK =>
 (aJ (((!(Zi o))||(!(QK x)))||((x.length:Int) != o.2.1)) (K (pd (([]:List Int),false))) (aJ (o.1==1) (K (pd ((Q6 (Q3 o) x).1,(Q6 (Q3 o) x).2))) (aJ (o.1==2) (K (pd ((Zd x o.2.2.2).1,(Zd x o.2.2.2).2))) (aJ (o.1==3) (K (pd ((Z4 x),false))) (aJ (o.1==4) (((0:Int)<=0/\Int.toNat 0<(o.2.2.2).length)/\K (pd ((Zz (ar (0:Int) o.2.2.2 (Int.toNat 0)) x).1,(Zz (ar (0:Int) o.2.2.2 (Int.toNat 0)) x).2))) (K (pd ((Zd x ((Q6 (Q3 o) x).1)).1,(((Q6 (Q3 o) x).2)||((Zd x ((Q6 (Q3 o) x).1)).2))))))))))) (λhb=>?_)
 rw[Bool.or_assoc,GC];refine⟨λh=>au (by rw[Ts];intro h2;simp[h2.1,h2.2]at h),λh=>?_⟩;have hp:Zi o=true/\QH x o.2.1=true:=by simpa using h
 have hk:=Ay hp.1;have hv:(ZY o x)=(if o.1=1 then Q6 (Q3 o) x else if o.1=2 then Zd x o.2.2.2 else if o.1=4 then Zz (ar 0 o.2.2.2 0) x
    else if o.1=5 then((Zd x (Q6 (Q3 o) x).1).1,(Q6 (Q3 o) x).2||(Zd x (Q6 (Q3 o) x).1).2) else(Z4 x,false)):=by
  unfold ZY;rw[if_pos (by rw[hp.1,hp.2];rfl)]
 refine⟨λh1=>au ?_,λh1=>⟨λh2=>au ?_,λh2=>⟨λh3=>au ?_,λh3=>⟨λh4=>⟨⟨by omega,Ax hp.1 (by simpa using h4)⟩,au ?_⟩,λh4=>au ?_⟩⟩⟩⟩
 all_goals (rw[hv];clear hv;simp at *)
 ·simp[*]
 ·simp[*]
 ·simp[*]
 ·simp[*]
 ·have h5:o.1=5:=by omega
  simp[h5]
theorem QU6:Qf Tryz.prog LZ:=Qi λx _=>QN3 x.1 x.2.1
def pe(t:(List Int) × (List Int) × Bool):aB:=⟨(.tp [(.r [TI] 0 0 ((t.1).length)),(.r [TI] 1 0 ((t.2.1).length)),(bE t.2.2)]),[(.sl 3 [TI] (.dp 0 true []) t.1),(.sl 3 [TI] (.dp 0 true []) t.2.1)],[],false,[]⟩
def L0:aI:=Qg 197 [(.a aM),(.c (.sl [TI])),(.c (.sl [TI]))] λx=>(none,pe (ZU x.1 x.2.1 x.2.2.1))
def QME:aF:=⟨[xJ,Jk,Ci,LM,LP,Jy,BI,yh,Bx,Ls],true⟩
def QOj:af :=
 (ag [(.ae [aC 3 (.box 134 0 4),ab 6 (.k (.n [TI])),ab 7 (.k (.n [TI])),ab 8 (a6 false)]),(ag [(.ae [a8 23 3 4,aD 24 228 [23],bL 25 24,ab 26 25,.bt 26 false [ab 27 1,ak 28 3 1,an 29 28 1,aD 30 100 [27,29],bL 31 30] 32 31,ab 33 32,.bt 33 false [ab 34 2,ak 35 3 2,an 36 35 1,aD 37 100 [34,36],bL 38 37] 39 38]),(.cond 39 (ag [(.ae [ab 6 (.k (.n [TI])),ab 7 (.k (.n [TI])),ab 8 (a6 false)]),.ret]) .skip)]),(ag [(.ae [ak 40 3 0,an 41 40 1]),(.block 0 (ag [(.ae [aw 43 .eql 41 (aq 1),ab 42 43]),(.cond 42 (ag [(.ae [a8 45 3 4,aD 46 230 [45],ab 47 2,aD 48 244 [46,47],ab 44 48,bF 49 44 0,bF 50 44 1,ab 9 49,ab 10 50]),(.ae [ab 52 2,ab 53 1,aD 54 245 [52,53],ab 51 54,bF 55 51 0,bF 56 51 1,aC 11 (.new 235 (bG [TI,TI,(.sl [TI])])),aU 11 55 3,ab 12 56]),(.draw [ab 57 9,ak 58 11 2,an 59 58 1,ab 60 10,ab 61 60,.bt 61 false [ab 62 12] 63 62,ab 6 57,ab 7 59,ab 8 63] []),.ret]) (ag [(.ae [aw 65 .eql 41 (aq 2),ab 64 65]),(.cond 64 (ag [(.ae [ab 66 2,aD 67 104 [66],ab 68 2,aD 69 104 [68],ab 6 67,ab 7 69,ab 8 (a6 false)]),.ret]) (ag [(.ae [aw 71 .eql 41 (aq 4),ab 70 71]),(.cond 70 (ag [(.ae [ak 73 3 3,an 74 73 1,a0 75 74 (aq 0) [TI],an 76 75 1,ab 77 2,aD 78 232 [76,77],ab 72 78,bF 79 72 0,bF 80 72 1,ab 13 79,ab 14 80]),(.ae [ab 82 2,ab 83 1,aD 84 188 [82,83],ab 81 84,bF 85 81 0,bF 86 81 1,ab 15 85,ab 16 86]),(.ae [ab 87 13,ab 88 15,aC 89 (.bW 3 [TI] [88]),ab 90 14,ab 91 90,.bt 91 false [ab 92 16] 93 92,ab 6 87,ab 7 89,ab 8 93]),.ret]) (ag [(.ae [aw 95 .eql 41 (aq 5),ab 94 95]),(.cond 94 (ag [(.ae [a8 97 3 4,aD 98 230 [97],ab 99 2,aD 100 244 [98,99],ab 96 100,bF 101 96 0,bF 102 96 1,ab 17 101,ab 18 102]),(.ae [ab 104 2,ab 105 17,aD 106 231 [104,105],ab 103 106,bF 107 103 0,bF 108 103 1,ab 19 107,ab 20 108]),(.ae [ab 110 2,ab 111 1,aD 112 245 [110,111],ab 109 112,bF 113 109 0,bF 114 109 1,aC 21 (.new 235 (bG [TI,TI,(.sl [TI])])),aU 21 113 3,ab 22 114]),(.draw [ab 115 19,ak 116 21 2,an 117 116 1,ab 118 18,ab 119 118,.bt 119 false [ab 120 20] 121 120,ab 122 121,.bt 122 false [ab 123 22] 124 123,ab 6 115,ab 7 117,ab 8 124] []),.ret]) .skip)]))]))]))]))]),(.ae [ab 125 1,ab 126 2,aD 127 246 [125,126],ab 6 127,ab 7 (.k (.n [TI])),ab 8 (a6 false)]),.ret])
def QJI:List (bn × Md):=[(.t 6,.one (.p 3)),(.t 7,.one (.p 3)),(.t 8,.one .d)]
theorem QVi(o:aH)(x:List Int)(d:List Int):aK Tryz.prog 197 [(.a (aS.cells aM o)),(.c (.sl [TI]) x),(.c (.sl [TI]) d)] (pe (ZU o x d)):=by
 refine bz QME QOj QJI 0 0 128 L0 (kc I2 (kc JP (kc QzT (kc QQL (kc QIR (kc nR (kc Qv3 (kc Lk (kc QsO (kc QMp kn)))))))))) (λK =>
 let z2:=Zz (ar (0:Int) o.2.2.2 (Int.toNat 0)) d
 let z3:=Zr (Q3 o) d
 let z1:=Zd d (List.take ((z3.1).length) (List.drop 0 (z3.1)))
 let z4:=List.take ((((Zn d x).1).2.2).length) (((Zn d x).1).2.2)
 let z5:=List.take ((id (α:=List Int) d).length) (id (α:=List Int) d)
 (aJ (((!(Zi o))||(!(QH x o.2.1)))||(!(QH d o.2.2.1))) (K (pe (([]:List Int),([]:List Int),false))) (aJ (o.1==1) (K (pe ((List.take ((z3.1).length) (z3.1)),z4,((z3.2)||((Zn d x).2))))) (aJ (o.1==2) (((Qs (α:=List Int) d)/\(Qs (α:=List Int) d))/\K (pe (z5,z5,false))) (aJ (o.1==4) (((0:Int)<=0/\Int.toNat 0<(o.2.2.2).length)/\K (pe ((List.take ((z2.1).length) (z2.1)),[(Q1 d x).1],((z2.2)||((Q1 d x).2))))) (aJ (o.1==5) (K (pe ((List.take ((z1.1).length) (z1.1)),z4,(((z3.2)||(z1.2))||((Zn d x).2))))) (K (pe ((List.take ((Z5 x d).length) (Z5 x d)),([]:List Int),false))))))))) (λhb=>?_)
 conv=>zeta
 refine⟨λh=>au (by rw[Tt];intro h2;simp[h2.1,h2.2]at h),λh=>?_⟩;have hp:(Zi o=true/\QH x o.2.1=true)/\QH d o.2.2.1=true:=by simpa using h
 have hk:=Ay hp.1.1;have hdl:=(Yi.1 (Au.1 hp.2).1).1;have hv:(ZU o x d)=(if o.1=1 then((Zr (Q3 o) d).1,(Zn d x).1.2.2,(Zr (Q3 o) d).2||(Zn d x).2)
    else if o.1=2 then(d,d,false)
    else if o.1=4 then((Zz (ar 0 o.2.2.2 0) d).1,[(Q1 d x).1],(Zz (ar 0 o.2.2.2 0) d).2||(Q1 d x).2)
    else if o.1=5 then((Zd d (Zr (Q3 o) d).1).1,(Zn d x).1.2.2,(Zr (Q3 o) d).2||(Zn d x).2||(Zd d (Zr (Q3 o) d).1).2)
    else(Z5 x d,[],false)):=by
  unfold ZU;rw[if_pos (by rw[hp.1.1,hp.1.2,hp.2];rfl)]
 have gz:Qs (α:=List Int) d:=by unfold Qs;rw[ZK];omega
 refine⟨λh1=>au ?_,λh1=>⟨λh2=>⟨⟨gz,gz⟩,au ?_⟩,λh2=>⟨λh4=>⟨⟨by omega,Ax hp.1.1 (by simpa using h4)⟩,au ?_⟩,λh4=>⟨λh5=>au ?_,λh5=>au ?_⟩⟩⟩⟩
 all_goals (rw[hv];clear hv;simp at *)
 ·simp[*]
 ·simp[*]
 ·simp[*]
 ·simp[*,Bool.or_assoc,Bool.or_comm,Bool.or_left_comm]
 ·simp[*]
theorem QP4:Qf Tryz.prog L0:=Qi λx _=>QVi x.1 x.2.1 x.2.2.1
def pf(t:(List Int) × (List Int) × Bool):aB:=fZ (.tp [(bg [TI] t.1),(bg [TI] t.2.1),(bE t.2.2)])
def L1:aI:=Qg 193 [(.a aM),(.c (.sl [TI])),(.c (.sl [TI]))] λx=>(none,pf (ZU x.1 x.2.1 x.2.2.1))
def QIo:aF:=⟨[xH,Yv,Lu,BL,um,Cj,LN,LS,BB],false⟩
def QJ6:af :=
 (ag [(.ae [aC 3 (.box 134 0 4),ab 6 (.k (.n [TI])),ab 7 (.k (.n [TI])),ab 8 (a6 false)]),(ag [(.ae [a8 19 3 4,aD 20 222 [19],bL 21 20,ab 22 21,.bt 22 false [ab 23 1,aD 24 97 [23],bL 25 24] 26 25,ab 27 26,.bt 27 false [ab 28 1,ba 29 28,ak 30 3 1,an 31 30 1,aw 32 .neq 29 31] 33 32,ab 34 33,.bt 34 false [ab 35 2,aD 36 97 [35],bL 37 36] 38 37,ab 39 38,.bt 39 false [ab 40 2,ba 41 40,ak 42 3 2,an 43 42 1,aw 44 .neq 41 43] 45 44]),(.cond 45 (ag [(.ae [aC 46 (.bW 3 [TI] []),aC 47 (.bW 3 [TI] []),ab 6 46,ab 7 47,ab 8 (a6 false)]),.ret]) .skip)]),(ag [(.ae [ak 48 3 0,an 49 48 1]),(.block 0 (ag [(.ae [aw 51 .eql 49 (aq 2),ab 50 51]),(.cond 50 (ag [(.ae [aC 52 (.bW 3 [TI] []),ab 53 2,aC 54 (.app 52 53 3 [TI]),aC 55 (.bW 3 [TI] []),ab 56 2,aC 57 (.app 55 56 3 [TI]),ab 6 54,ab 7 57,ab 8 (a6 false)]),.ret]) (ag [(.ae [aw 59 .eql 49 (aq 3),ab 58 59]),(.cond 58 (ag [(.ae [ab 60 1,ab 61 2,aD 62 241 [60,61],aC 63 (.bW 3 [TI] []),ab 6 62,ab 7 63,ab 8 (a6 false)]),.ret]) (ag [(.ae [aw 65 .eql 49 (aq 4),ab 64 65]),(.cond 64 (ag [(.ae [ak 67 3 3,an 68 67 1,a0 69 68 (aq 0) [TI],an 70 69 1,ab 71 2,aD 72 227 [70,71],ab 66 72,bF 73 66 0,bF 74 66 1,ab 9 73,ab 10 74]),(.ae [ab 76 2,ab 77 1,aD 78 184 [76,77],ab 75 78,bF 79 75 0,bF 80 75 1,ab 11 79,ab 12 80]),(.ae [ab 81 9,ab 82 11,aC 83 (.bW 3 [TI] [82]),ab 84 10,ab 85 84,.bt 85 false [ab 86 12] 87 86,ab 6 81,ab 7 83,ab 8 87]),.ret]) .skip)]))]))]))]),(.ae [a8 89 3 4,aD 90 224 [89],ab 91 2,aD 92 242 [90,91],ab 88 92,bF 93 88 0,bF 94 88 1,ab 13 93,ab 14 94]),(.ae [ab 96 2,ab 97 1,aD 98 243 [96,97],ab 95 98,bF 99 95 0,bF 100 95 1,aC 15 (.new 235 (bG [TI,TI,(.sl [TI])])),aU 15 99 3,ab 16 100]),(ag [(.ae [ak 101 3 0,an 102 101 1,aw 103 .eql 102 (aq 1)]),(.cond 103 (ag [(.draw [ab 104 13,ak 105 15 2,an 106 105 1,ab 107 14,ab 108 107,.bt 108 false [ab 109 16] 110 109,ab 6 104,ab 7 106,ab 8 110] []),.ret]) .skip)]),(.ae [ab 112 2,ab 113 13,aD 114 225 [112,113],ab 111 114,bF 115 111 0,bF 116 111 1,ab 17 115,ab 18 116]),(.draw [ab 117 17,ak 118 15 2,an 119 118 1,ab 120 14,ab 121 120,.bt 121 false [ab 122 16] 123 122,ab 124 123,.bt 124 false [ab 125 18] 126 125,ab 6 117,ab 7 119,ab 8 126] []),.ret])
def QHe:List (bn × Md):=[(.t 6,.one .d),(.t 7,.one .d),(.t 8,.one .d)]
theorem QKO(o:aH)(x:List Int)(d:List Int):aK Tryz.prog 193 [(.a (aS.cells aM o)),(.c (.sl [TI]) x),(.c (.sl [TI]) d)] (pf (ZU o x d)):=by
 refine bz QIo QJ6 QHe 0 0 127 L1 (kc I1 (kc YK (kc QLT (kc QyU (kc BQ (kc QyK (kc QLx (kc QNZ (kc Qye kn))))))))) (λK =>
 (aJ (((((!(Zi o))||(!(QK x)))||((x.length:Int) != o.2.1))||(!(QK d)))||((d.length:Int) != o.2.2.1)) (K (pf (([]:List Int),([]:List Int),false))) (aJ (o.1==2) ((((0=0\/0+d.length<=0)/\0+d.length<=ca)/\((0=0\/0+d.length<=0)/\0+d.length<=ca))/\K (pf ((List.take (0+d.length) (List.drop 0 (d:List Int))),(List.take (0+d.length) (List.drop 0 (d:List Int))),false))) (aJ (o.1==3) (K (pf ((Z5 x d),([]:List Int),false))) (aJ (o.1==4) (((0:Int)<=0/\Int.toNat 0<(o.2.2.2).length)/\K (pf ((Zz (ar (0:Int) o.2.2.2 (Int.toNat 0)) d).1,[(Q1 d x).1],(((Zz (ar (0:Int) o.2.2.2 (Int.toNat 0)) d).2)||((Q1 d x).2))))) (aJ (o.1==1) (K (pf ((Zr (Q3 o) d).1,((Zn d x).1).2.2,(((Zr (Q3 o) d).2)||((Zn d x).2))))) (K (pf ((Zd d ((Zr (Q3 o) d).1)).1,((Zn d x).1).2.2,((((Zr (Q3 o) d).2)||((Zn d x).2))||((Zd d ((Zr (Q3 o) d).1)).2))))))))))) (λhb=>?_)
 rw[show(!(Zi o)||!(QK x)||((x.length:Int) != o.2.1)||!(QK d)||((d.length:Int) != o.2.2.1))=(!(Zi o)||!(QH x o.2.1)||!(QH d o.2.2.1)) by rw[<- GC,<- GC];simp only[Bool.or_assoc]];refine⟨λh=>au (by rw[Tt];intro h2;simp[h2.1,h2.2]at h),λh=>?_⟩;have hp:(Zi o=true/\QH x o.2.1=true)/\QH d o.2.2.1=true:=by simpa using h
 have hk:=Ay hp.1.1;have hdl:=(Yi.1 (Au.1 hp.2).1).1;have hv:(ZU o x d)=(if o.1=1 then((Zr (Q3 o) d).1,(Zn d x).1.2.2,(Zr (Q3 o) d).2||(Zn d x).2)
    else if o.1=2 then(d,d,false)
    else if o.1=4 then((Zz (ar 0 o.2.2.2 0) d).1,[(Q1 d x).1],(Zz (ar 0 o.2.2.2 0) d).2||(Q1 d x).2)
    else if o.1=5 then((Zd d (Zr (Q3 o) d).1).1,(Zn d x).1.2.2,(Zr (Q3 o) d).2||(Zn d x).2||(Zd d (Zr (Q3 o) d).1).2)
    else(Z5 x d,[],false)):=by
  unfold ZU;rw[if_pos (by rw[hp.1.1,hp.1.2,hp.2];rfl)]
 refine⟨λh2=>⟨⟨⟨.inl rfl,by rw[Ze];omega⟩,.inl rfl,by rw[Ze];omega⟩,au ?_⟩,λh2=>⟨λh3=>au ?_,λh3=>⟨λh4=>⟨⟨by omega,Ax hp.1.1 (by simpa using h4)⟩,au ?_⟩,λh4=>⟨λh1=>au ?_,λh1=>au ?_⟩⟩⟩⟩
 all_goals (rw[hv];clear hv;simp at *)
 ·simp[*]
 ·simp[*]
 ·simp[*]
 ·simp[*]
 ·have h5:o.1=5:=by omega
  simp[h5]
theorem QIa:Qf Tryz.prog L1:=Qi λx _=>QKO x.1 x.2.1 x.2.2.1
def L2(t:Int × Bool):aB:=b6 (.tp [(aL t.1),(bE t.2)])
def L3:aI:=Qg 105 [(.c (.sl [TI])),(.c (.sl [TI]))] λx=>(none,L2 (Z7 x.1 x.2.1))
def QGl:aF:=⟨[BD,yh],false⟩
def QOG:af :=
 (ag [(.ae [ab 4 (aq 0),ab 5 (a6 false)]),(.ae [ab 11 0,ab 12 1,aD 13 111 [11,12],ab 10 13,bF 14 10 0,bF 15 10 1,ab 6 14,ab 7 15]),(.ae [ab 17 6,ab 18 6,aD 19 188 [17,18],ab 16 19,bF 20 16 0,bF 21 16 1,ab 8 20,ab 9 21]),(.ae [ab 22 8,aw 23 .shr 22 (.k (.c (.int .u64) (1:Int))),ab 24 7,ab 25 24,.bt 25 false [ab 26 9] 27 26,ab 4 23,ab 5 27]),.ret])
def QYg:List (bn × Md):=[(.t 4,.one .d),(.t 5,.one .d)]
theorem QNB(y:List Int)(t:List Int):aK Tryz.prog 105 [(.c (.sl [TI]) y),(.c (.sl [TI]) t)] (L2 (Z7 y t)):=by
 refine bz QGl QOG QYg 0 0 28 L3 (kc Qsl (kc Lk kn)) (λK =>
 (((0:Int)<=1)/\K (L2 ((Int.fdiv ((Q1 (List.take (((QZ y t).1).length) (List.drop 0 ((QZ y t).1))) (List.take (((QZ y t).1).length) (List.drop 0 ((QZ y t).1)))).1) (2 ^ (min (Int.toNat 1) (IntKind.i64.bits)))),(((QZ y t).2)||((Q1 (List.take (((QZ y t).1).length) (List.drop 0 ((QZ y t).1))) (List.take (((QZ y t).1).length) (List.drop 0 ((QZ y t).1)))).2)))))) (λhb=>?_)
 exact⟨by omega,au (by simp only[List.drop_zero,List.take_length];rfl)⟩
theorem QUN:Qf Tryz.prog L3:=Qi λx _=>QNB x.1 x.2.1
def L4(t:Int × Bool):aB:=b6 (.tp [(aL t.1),(bE t.2)])
def L5:aI:=Qg 98 [(.c (.sl [TI])),(.c (.sl [TI]))] λx=>(none,L4 (Z7 x.1 x.2.1))
def QHc:aF:=⟨[BG,um],false⟩
def QUT:af :=
 (ag [(.ae [ab 4 (aq 0),ab 5 (a6 false)]),(.ae [ab 11 0,ab 12 1,aD 13 107 [11,12],ab 10 13,bF 14 10 0,bF 15 10 1,ab 6 14,ab 7 15]),(.ae [ab 17 6,ab 18 6,aD 19 184 [17,18],ab 16 19,bF 20 16 0,bF 21 16 1,ab 8 20,ab 9 21]),(.ae [ab 22 8,aw 23 .quo 22 (aq 2),ab 24 7,ab 25 24,.bt 25 false [ab 26 9] 27 26,ab 4 23,ab 5 27]),.ret])
def QWb:List (bn × Md):=[(.t 4,.one .d),(.t 5,.one .d)]
theorem QJ3(y:List Int)(t:List Int):aK Tryz.prog 98 [(.c (.sl [TI]) y),(.c (.sl [TI]) t)] (L4 (Z7 y t)):=by
 refine bz QHc QUT QWb 0 0 28 L5 (kc Qwz (kc BQ kn)) (λK =>
 ((¬ ((2:Int):Int)=0)/\K (L4 (aG (Int.tdiv ((Q1 ((QZ y t).1) ((QZ y t).1)).1) (2:Int)),(((QZ y t).2)||((Q1 ((QZ y t).1) ((QZ y t).1)).2)))))) (λhb=>?_)
 have h:=QR1 (QZ y t).1;have hf:=Tk.1 (QYN (QZ y t).1 (QZ y t).1);refine⟨by omega,au ?_⟩;unfold Z7;generalize(Q1 (QZ y t).1 (QZ y t).1).1=q at *;rw[Int.tdiv_eq_ediv_of_nonneg h,QG (x:=q / 2) (by omega) (by omega),Int.fdiv_eq_ediv_of_nonneg _ (by omega)]
theorem QL1:Qf Tryz.prog L5:=Qi λx _=>QJ3 x.1 x.2.1
def yq(t:(List (List Int)) × Bool):aB:=⟨(.tp [(.r [(.sl [TI])] 0 0 ((t.1).length)),(bE t.2)]),[(.sl 106 [(.sl [TI])] (.dp 0 true []) t.1)],[],false,[]⟩
def Ck:aI:=Qg 73 [(.a [(.sl aM)]),(.c (.sl [TI]))] λx=>(none,yq (JY x.1 x.2.1))
def L6:aF:=⟨[t9,xL,Jk,Jy,LY],true⟩
def QAW:af :=
 (ag [(.ae [aw 30 .lss 29 28]),(.cond 30 .skip (.exit 0)),(.block 1 (ag [(.ae [ab 31 29,a0 32 27 29 aM,a8 33 32 4,aC 9 (.new 134 (bG aM)),ab 8 31,aU 9 33 4]),(.draw [a8 35 9 4,ab 36 6,ab 37 8,a0 38 36 37 [(.sl [TI])],ak 39 38 0,an 40 39 1,aD 41 170 [35,40],ab 34 41,bF 42 34 0,bF 43 34 1,ab 10 42,ab 11 43] []),(.ae [ab 44 6,ab 45 10,aC 46 (.build [(.n [TI])] [(0,1,45)]),aC 47 (.bW 106 [(.sl [TI])] [46]),aC 48 (.app 44 47 106 [(.sl [TI])]),ab 6 48]),(.ae [ab 49 7,ab 50 49,.bt 50 false [ab 51 11] 52 51,ab 7 52])])),(.ae [aw 53 .add 29 (aq 1),ab 29 53])])
def Qr2:List (Nat × Md):=[(6,.one .f),(7,.one .d),(27,.one .d),(28,.one .d),(29,.one .d)]
def QwB:af :=
 (ag [(.ae [ab 54 6,ab 55 7,ab 4 54,ab 5 55]),.ret])
def QIY:af :=
 (ag [(.ae [aC 2 (.box 77 0 1),ab 4 (.k (.n [(.sl [TI])])),ab 5 (a6 false)]),(ag [(.ae [a8 12 2 1,aD 13 167 [12],bL 14 13,ab 15 14,.bt 15 false [ab 16 1,a8 17 2 1,aD 18 101 [17],aD 19 100 [16,18],bL 20 19] 21 20]),(.cond 21 (ag [(.ae [ab 4 (.k (.n [(.sl [TI])])),ab 5 (a6 false)]),.ret]) .skip)]),(.ae [ab 22 1,aD 23 104 [22],aC 24 (.build [(.n [TI])] [(0,1,23)]),aC 25 (.bW 106 [(.sl [TI])] [24]),ab 6 25]),(.ae [ab 7 (a6 false)]),(ag [(.ae [ak 26 2 0,an 27 26 1,ba 28 27,ab 29 (aq 0)]),(.block 0 (.loop Qr2 QAW))]),QwB])
def QzJ:List (bn × Md):=[(.t 4,.one (.p 106)),(.t 5,.one .d)]
def QAr:Qb:=TQ 0 0 QzJ K
def QMh:Qb:=aY (aO L6 0 QwB (QAr K)) (QAr K)
def QOl:Qb:=a7 0 (QMh K)
def Cl(m:List aH)(out:Bool)(x1:Int)(rows:List (List Int)):Prop:=Loop L6 0 Qr2 QAW (QOl K) ⟨[(6,(.r [(.sl [TI])] 0 0 rows.length)),(7,(bE out)),(27,(bg aM m)),(28,(aL (m.length:Int))),(29,(aL x1))],[(0,(.sl 106 [(.sl [TI])] (.dp 0 true []) rows))],1⟩
theorem QqE(m:List aH)(out:Bool)(x1:Int)(rows:List (List Int)) (h :
 (aJ (decide (x1<(m.length:Int))) ((0<=x1/\Int.toNat x1<m.length)/\(((0<=x1/\Int.toNat x1<rows.length)/\((0+(Int.toNat x1))<rows.length))/\(((rows.length=rows.length\/rows.length+1<=rows.length)/\rows.length+1<=ca)/\(Cl K m (out||((ZY (ar b5 m (Int.toNat x1)) (ar ([]:List Int) rows (0+(Int.toNat x1)))).2)) (aG (x1+1)) (List.take (rows.length+1) ((List.take rows.length rows)++([(List.take (((ZY (ar b5 m (Int.toNat x1)) (ar ([]:List Int) rows (0+(Int.toNat x1)))).1).length) (List.drop 0 ((ZY (ar b5 m (Int.toNat x1)) (ar ([]:List Int) rows (0+(Int.toNat x1)))).1)))]))))))) (K (yq ((List.take rows.length rows),out))))):Cl K m out x1 rows :=
 Loop.of h
theorem QUV(m:List aH)(x:List Int):aK Tryz.prog 73 [(.a [(.c (.sl aM) m)]),(.c (.sl [TI]) x)] (yq (JY m x)):=by
 refine bz L6 QIY QzJ 0 0 56 Ck (kc A2 (kc I6 (kc JP (kc nR (kc QLi kn))))) (λK =>
 (aJ ((!(Zc m))||(!(QH x (ZN m)))) (K (yq (([]:List (List Int)),false))) ((Qs (α:=List Int) x)/\(Cl K m false 0 ([(List.take ((id (α:=List Int) x).length) (List.drop 0 (id (α:=List Int) x)))]))))) (λhb=>?_)
 refine⟨λh=>au (by unfold JY;rw[if_neg (by intro h2;simp at h2;simp[h2.1,h2.2]at h)]),λh=>?_⟩;have hp:Zc m=true/\QH x (ZN m)=true:=by simpa using h
 have hl:=Yu hp.1;have hx:=(Yi.1 (Au.1 hp.2).1).1;have hm:=GF hp.1 hp.2;rw[rF];refine⟨by unfold Qs;rw[ZK];omega,?_⟩;refine Zf m (λr k=>∀(v:List (List Int))(z:Bool),v.length=k+1->(v.take k++(QW r (ar [] v k)).1,z||(QW r (ar [] v k)).2)=QW m x->Cl (λr'=>r'=yq (JY m x)) m z k v) ?_ ?_ [x] false rfl (by simp[ar])
 ·intro v z hv he;refine QqE _ _ _ _ _ ⟨λh=>by simp at h,λ_=>au ?_⟩;rw[hm,<- he,List.take_length];simp only[QW,Bool.or_false];rw[Az [] hv]
 ·intro k o r hk aW hg ih v z hv he;refine QqE _ _ _ _ _ ⟨λ_=>?_,λh=>by simp at h;omega⟩;rw[Int.toNat_natCast,hg,Nat.zero_add,dL (by omega),Q8,xn];refine⟨⟨by omega,aW⟩,⟨⟨by omega,by omega⟩,by omega⟩,room (by omega),ih _ _ (Yc hv) ?_⟩;rw[Tu [] _ hv,Tv _ hv,<- he,QW];have:=Az [] hv;simp only[Bool.or_assoc];rw[List.append_cons,this]
theorem QvG:Qf Tryz.prog Ck:=Qi λx _=>QUV x.1 x.2.1
def Cm(t:(List (List Int)) × Bool):aB:=fZ (.tp [(bg [(.sl [TI])] t.1),(bE t.2)])
def Cn:aI:=Qg 64 [(.c (.sl aM)),(.c (.sl [TI]))] λx=>(some (Av x.1 x.2.1),Cm (QW x.1 x.2.1))
def L7:aF:=⟨[LZ],false⟩
def QyR:af :=
 (ag [(ag [(.ae [ab 16 8,ab 17 0,ba 18 17,aw 19 .lss 16 18]),(.cond 19 .skip (.exit 0))]),(.block 1 (ag [(.draw [ab 23 0,ab 24 8,a0 25 23 24 aM,a8 26 25 4,ab 27 6,ab 28 8,a0 29 27 28 [(.sl [TI])],ak 30 29 0,an 31 30 1,aD 32 160 [26,31],ab 22 32,bF 33 22 0,bF 34 22 1,ab 9 33,ab 10 34] []),(.ae [ab 35 6,ab 36 9,aC 37 (.build [(.n [TI])] [(0,1,36)]),aC 38 (.bW 106 [(.sl [TI])] [37]),aC 39 (.app 35 38 106 [(.sl [TI])]),ab 6 39]),(.ae [ab 40 7,ab 41 40,.bt 41 false [ab 42 10] 43 42,ab 7 43])])),(.ae [ab 20 8,aw 21 .add 20 (aq 1),ab 8 21])])
def QzI:List (Nat × Md):=[(0,.one .d),(6,.one .f),(7,.one .d),(8,.one .d)]
def QEl:af :=
 (ag [(.ae [ab 44 6,ab 45 7,ab 4 44,ab 5 45]),.ret])
def QUs:af :=
 (ag [(.ae [ab 4 (.k (.n [(.sl [TI])])),ab 5 (a6 false)]),(.ae [aC 11 (.bW 3 [TI] []),ab 12 1,aC 13 (.app 11 12 3 [TI]),aC 14 (.build [(.n [TI])] [(0,1,13)]),aC 15 (.bW 106 [(.sl [TI])] [14]),ab 6 15]),(.ae [ab 7 (a6 false)]),(ag [(.ae [ab 8 (aq 0)]),(.block 0 (.loop QzI QyR))]),QEl])
def Qyk:List (bn × Md):=[(.t 4,.one .d),(.t 5,.one .d)]
def Qtr:Qb:=TQ 0 0 Qyk K
def QUG:Qb:=aY (aO L7 0 QEl (Qtr K)) (Qtr K)
def QOA:Qb:=a7 0 (QUG K)
def Co(ops:List aH)(sat:Bool)(i:Int)(out:List (List Int)):Prop:=Loop L7 0 QzI QyR (QOA K) ⟨[(0,(bg aM ops)),(6,(.r [(.sl [TI])] 0 0 out.length)),(7,(bE sat)),(8,(aL i))],[(0,(.sl 106 [(.sl [TI])] .ow out))],1⟩
theorem QD8(ops:List aH)(sat:Bool)(i:Int)(out:List (List Int)) (h :
 (aJ (decide (i<(ops.length:Int))) (((0<=i/\Int.toNat i<ops.length)/\((0<=i/\Int.toNat i<out.length)/\((0+(Int.toNat i))<out.length)))/\(((out.length=out.length\/out.length+1<=out.length)/\out.length+1<=ca)/\(Co K ops (sat||((ZY (ar b5 ops (Int.toNat i)) (ar ([]:List Int) out (0+(Int.toNat i)))).2)) (aG (i+1)) (List.take (out.length+1) ((List.take out.length out)++([(ZY (ar b5 ops (Int.toNat i)) (ar ([]:List Int) out (0+(Int.toNat i)))).1])))))) (K (Cm ((List.take out.length (List.drop 0 out)),sat))))):Co K ops sat i out :=
 Loop.of h
theorem QQa(ops:List aH)(x:List Int)(hp:Av ops x):aK Tryz.prog 64 [(.c (.sl aM) ops),(.c (.sl [TI]) x)] (Cm (QW ops x)):=by
 refine bz L7 QUs Qyk 0 0 46 Cn (kc QU6 kn) (λK =>
 (((0=0\/0+x.length<=0)/\0+x.length<=ca)/\(Co K ops false 0 ([(List.take (0+x.length) (List.drop 0 (x:List Int)))])))) (λhb=>?_)
 obtain⟨eS,fg⟩:=hp;rw[tM];refine⟨⟨.inl rfl,by rw[Ze];omega⟩,?_⟩;refine Zf ops (λr k=>∀(v:List (List Int))(z:Bool),v.length=k+1->(v.take k++(QW r (ar [] v k)).1,z||(QW r (ar [] v k)).2)=QW ops x->Co (λr'=>r'=Cm (QW ops x)) ops z k v) ?_ ?_ [x] false rfl (by simp[ar])
 ·intro v z hv he;refine QD8 _ _ _ _ _ ⟨λh=>by simp at h,λ_=>au ?_⟩;rw[<- he,xn];simp only[QW,Bool.or_false];rw[Az [] hv]
 ·intro k o r hk aW hg ih v z hv he;refine QD8 _ _ _ _ _ ⟨λ_=>?_,λh=>by simp at h;omega⟩;rw[Int.toNat_natCast,hg,Nat.zero_add,dL (by omega),Q8];refine⟨⟨⟨by omega,aW⟩,⟨by omega,by omega⟩,by omega⟩,room (by omega),ih _ _ (Yc hv) ?_⟩;rw[Tu [] _ hv,Tv _ hv,<- he,QW];have:=Az [] hv;simp only[Bool.or_assoc];rw[List.append_cons,this]
theorem QqH:Qf Tryz.prog Cn:=Qi λx h=>QQa x.1 x.2.1 h
def Cp(t:(List (List Int)) × (List Int) × Bool):aB:=⟨(.tp [(.r [(.sl [TI])] 0 0 ((t.1).length)),(.r [TI] 1 0 ((t.2.1).length)),(bE t.2.2)]),[(.sl 106 [(.sl [TI])] (.dp 0 true []) t.1),(.sl 3 [TI] (.dp 0 true []) t.2.1)],[],false,[]⟩
def L8:aI:=Qg 112 [(.c (.sl aM)),(.c (.sl [(.sl [TI])])),(.c (.sl [TI]))] λx=>(some (tL x.1 x.2.1 x.2.2.1),Cp (Q2 x.1 x.2.1 x.2.2.1))
def Cq:aF:=⟨[L0],true⟩
def L9:af :=
 (ag [(ag [(.ae [ab 21 11,aw 22 .geq 21 (aq 0)]),(.cond 22 .skip (.exit 0))]),(.block 1 (ag [(.draw [ab 26 0,ab 27 11,a0 28 26 27 aM,a8 29 28 4,ab 30 1,ab 31 11,a0 32 30 31 [(.sl [TI])],ak 33 32 0,an 34 33 1,ab 35 2,aD 36 197 [29,34,35],ab 25 36,bF 37 25 0,bF 38 25 1,bF 39 25 2,ab 12 37,ab 13 38,ab 14 39] []),(.ae [ab 40 9,ab 41 11,ab 42 13,aC 43 (.build [(.n [TI])] [(0,1,42)]),a0 44 40 41 [(.sl [TI])],aU 44 43 1]),(.ae [ab 45 12,ab 2 45]),(.ae [ab 46 10,ab 47 46,.bt 47 false [ab 48 14] 49 48,ab 10 49])])),(.ae [ab 23 11,aw 24 .sub 23 (aq 1),ab 11 24])])
def Ma:List (Nat × Md):=[(0,.one .f),(1,.one .f),(2,.one .f),(9,.one .f),(10,.one .d),(11,.one .d)]
def Qu5:af :=
 (ag [(.ae [ab 50 9,ab 51 2,ab 52 10,ab 6 50,ab 7 51,ab 8 52]),.ret])
def QWT:af :=
 (ag [(.ae [ab 6 (.k (.n [(.sl [TI])])),ab 7 (.k (.n [TI])),ab 8 (a6 false)]),(.ae [ab 15 0,ba 16 15,aC 17 (.mk 106 [(.sl [TI])] [(.n [TI])] 16),ab 9 17]),(.ae [ab 10 (a6 false)]),(ag [(.ae [ab 18 0,ba 19 18,aw 20 .sub 19 (aq 1),ab 11 20]),(.block 0 (.loop Ma L9))]),Qu5])
def QsE:List (bn × Md):=[(.t 6,.one (.p 106)),(.t 7,.one (.p 3)),(.t 8,.one .d)]
def Qs8:Qb:=TQ 0 0 QsE K
def QRu:Qb:=aY (aO Cq 0 Qu5 (Qs8 K)) (Qs8 K)
def QzN:Qb:=a7 0 (QRu K)
def Cr(ops:List aH)(rows:List (List Int))(out:Bool)(i:Int)(d1:List Int)(fv:List (List Int)):Prop:=Loop Cq 0 Ma L9 (QzN K) ⟨[(0,(bg aM ops)),(1,(bg [(.sl [TI])] rows)),(2,(.r [TI] 0 0 d1.length)),(9,(.r [(.sl [TI])] 1 0 fv.length)),(10,(bE out)),(11,(aL i))],[(0,(.sl 3 [TI] (.dp 0 true []) d1)),(1,(.sl 106 [(.sl [TI])] (.dp 0 true []) fv))],2⟩
def QqT(ops:List aH)(rows:List (List Int))(d:List Int):Prop:=Loop Cq 0 Ma L9 (QzN K) ⟨[(0,(bg aM ops)),(1,(bg [(.sl [TI])] rows)),(2,(bg [TI] d)),(9,(.r [(.sl [TI])] 0 0 ((List.take (Int.toNat (ops.length:Int)) (List.replicate (Int.toNat (ops.length:Int)) ([]:List Int))).length))),(10,(bE false)),(11,(aL (aG ((ops.length:Int)-1))))],[(0,(.sl 106 [(.sl [TI])] (.dp 0 true []) (List.take (Int.toNat (ops.length:Int)) (List.replicate (Int.toNat (ops.length:Int)) ([]:List Int)))))],1⟩
theorem QtL(ops:List aH)(rows:List (List Int))(out:Bool)(i:Int)(d1:List Int)(fv:List (List Int)) (h :
 let z1:=ZU (ar b5 ops (Int.toNat i)) (ar ([]:List Int) rows (Int.toNat i)) (List.take d1.length (List.drop 0 d1))
 (aJ (decide (i>=0)) (((0<=i/\Int.toNat i<ops.length)/\(0<=i/\Int.toNat i<rows.length))/\(((0<=i/\Int.toNat i<fv.length)/\((0+(Int.toNat i))<fv.length))/\(Cr K ops rows (out||(z1.2.2)) (aG (i-1)) (List.take ((z1.1).length) (z1.1)) (List.take fv.length ((fv).set (0+(Int.toNat i)) (List.take ((z1.2.1).length) (List.drop 0 (z1.2.1)))))))) (K (Cp ((List.take fv.length fv),(List.take d1.length d1),out))))):Cr K ops rows out i d1 fv :=
 Loop.of h
theorem QQF(ops:List aH)(rows:List (List Int))(d:List Int) (h :
 let z1:=List.take (Int.toNat (ops.length:Int)) (List.replicate (Int.toNat (ops.length:Int)) ([]:List Int))
 let z3:=aG ((ops.length:Int)-1)
 let z2:=ZU (ar b5 ops (Int.toNat z3)) (ar ([]:List Int) rows (Int.toNat z3)) d
 (aJ (decide (z3>=0)) (((0<=aG ((ops.length:Int)-1)/\Int.toNat z3<ops.length)/\(0<=aG ((ops.length:Int)-1)/\Int.toNat z3<rows.length))/\(((0<=aG ((ops.length:Int)-1)/\Int.toNat z3<z1.length)/\((0+(Int.toNat z3))<z1.length))/\(Cr K ops rows (false||(z2.2.2)) (aG (z3-1)) (List.take ((z2.1).length) (z2.1)) (List.take (z1.length) ((z1).set (0+(Int.toNat z3)) (List.take ((z2.2.1).length) (List.drop 0 (z2.2.1)))))))) (K (⟨(.tp [(.r [(.sl [TI])] 0 0 ((List.take (z1.length) z1).length)),(bg [TI] d),(bE false)]),[(.sl 106 [(.sl [TI])] (.dp 0 true []) (List.take (z1.length) z1))],[],true,[]⟩)))):QqT K ops rows d :=
 Loop.of h
theorem QHd(ops:List aH)(rows:List (List Int))(d:List Int)(hp:tL ops rows d):aK Tryz.prog 112 [(.c (.sl aM) ops),(.c (.sl [(.sl [TI])]) rows),(.c (.sl [TI]) d)] (Cp (Q2 ops rows d)):=by
 refine bz Cq QWT QsE 0 0 53 L8 (kc QP4 kn) (λK =>
 ((0<=(ops.length:Int)/\(ops.length:Int)<=ca)/\(QqT K ops rows d))) (λhb=>?_)
 obtain⟨⟨eS,fg⟩,hp3⟩:=hp;have zx:ops.length<=4294967296:=fg;refine⟨⟨by omega,by rw[gS];omega⟩,?_⟩;have key:∀ j,j<ops.length->Cr (λr'=>r'=Cp (Q2 ops rows d)) ops rows ((Q2 (ops.drop j) (rows.drop j) d).2.2) ((j:Int)-1) ((Q2 (ops.drop j) (rows.drop j) d).2.1) (List.replicate j ([]:List Int)++(Q2 (ops.drop j) (rows.drop j) d).1):=by
  intro j
  induction j with
  | zero =>
   intro _;refine QtL _ _ _ _ _ _ _ ⟨λh=>by simp at h,λ_=>au ?_⟩;simp
  | succ j ih =>
   intro hj;obtain⟨a,s,ha⟩:=Yt (l:=ops) (k:=j) (by omega);obtain⟨e,t,he⟩:=Yt (l:=rows) (k:=j) (by omega);have i9:(Q2 (ops.drop (j+1)) (rows.drop (j+1)) d).1.length=ops.length-(j+1):=by rw[Gv _ _ _ (by simp;omega)];simp
   refine QtL _ _ _ _ _ _ _ ⟨λ_=>?_,λh=>by simp at h⟩;simp only[List.drop_zero,List.take_length];rw[show Int.toNat (((j+1:Nat):Int)-1)=j by omega,Nat.zero_add,ZF ha,ZF he,QG (x:=((j+1:Nat):Int)-1-1) (by omega) (by omega),GD];have ih:=ih (by omega);rw[ha,he,<- ZA ha,<- ZA he,Q2]at ih;refine⟨⟨⟨by omega,by omega⟩,by omega,by omega⟩,⟨⟨by omega,by simp[i9];omega⟩,by simp[i9];omega⟩,?_⟩;rw[List.take_of_length_le (by simp[i9];omega),Bool.or_comm,show((j+1:Nat):Int)-1-1=(j:Int)-1 by omega];exact ih
 obtain⟨j,hj⟩:∃ j,ops.length=j+1:=⟨ops.length-1,by omega⟩
 have h0:=key j (by omega);obtain⟨a,s,ha⟩:=Yt (l:=ops) (k:=j) (by omega);obtain⟨e,t,he⟩:=Yt (l:=rows) (k:=j) (by omega);have hs:s=[]:=by rw[<- ZA ha];exact List.drop_eq_nil_of_le (by omega)
 rw[ha,hs,he]at h0;simp only[Q2,Bool.or_false]at h0;have hw:aG ((ops.length:Int)-1)=(j:Int):=by rw[QG (by omega) (by omega)];omega
 have hr:List.take ops.length (List.replicate ops.length ([]:List Int))=List.replicate (j+1) []++[]:=by rw[List.take_of_length_le (by simp),hj];simp
 refine QQF _ _ _ _ ?_
 conv=>zeta
 simp only[hw,Int.toNat_natCast,hr,Nat.zero_add,ZF ha,ZF he,GD,List.take_length,List.drop_zero,Bool.false_or];rw[QG (x:=(j:Int)-1) (by omega) (by omega)];refine⟨λ_=>?_,λh=>absurd h (by simp)⟩;refine⟨⟨⟨by omega,by omega⟩,by omega,by omega⟩,⟨⟨by omega,by simp⟩,by simp⟩,?_⟩;rw[List.take_of_length_le (by simp)];exact h0
theorem QLo:Qf Tryz.prog L8:=Qi λx h=>QHd x.1 x.2.1 x.2.2.1 h
def Cs(t:(List (List Int)) × (List Int) × Bool):aB:=fZ (.tp [(bg [(.sl [TI])] t.1),(bg [TI] t.2.1),(bE t.2.2)])
def Mb:aI:=Qg 108 [(.c (.sl aM)),(.c (.sl [(.sl [TI])])),(.c (.sl [TI]))] λx=>(some (Gq x.1 x.2.1 x.2.2.1),Cs (Q2 x.1 x.2.1 x.2.2.1))
def Mc:aF:=⟨[L1],false⟩
def QDX:af :=
 (ag [(ag [(.ae [ab 21 11,aw 22 .geq 21 (aq 0)]),(.cond 22 .skip (.exit 0))]),(.block 1 (ag [(.draw [ab 26 0,ab 27 11,a0 28 26 27 aM,a8 29 28 4,ab 30 1,ab 31 11,a0 32 30 31 [(.sl [TI])],ak 33 32 0,an 34 33 1,ab 35 2,aD 36 193 [29,34,35],ab 25 36,bF 37 25 0,bF 38 25 1,bF 39 25 2,ab 12 37,ab 13 38,ab 14 39] []),(.ae [ab 40 9,ab 41 11,ab 42 13,aC 43 (.build [(.n [TI])] [(0,1,42)]),a0 44 40 41 [(.sl [TI])],aU 44 43 1]),(.ae [ab 45 12,ab 2 45]),(.ae [ab 46 10,ab 47 46,.bt 47 false [ab 48 14] 49 48,ab 10 49])])),(.ae [ab 23 11,aw 24 .sub 23 (aq 1),ab 11 24])])
def Qy6:List (Nat × Md):=[(0,.one .d),(1,.one .d),(2,.one .d),(9,.one .f),(10,.one .d),(11,.one .d)]
def QrF:af :=
 (ag [(.ae [ab 50 9,ab 51 2,ab 52 10,ab 6 50,ab 7 51,ab 8 52]),.ret])
def QFf:af :=
 (ag [(.ae [ab 6 (.k (.n [(.sl [TI])])),ab 7 (.k (.n [TI])),ab 8 (a6 false)]),(.ae [ab 15 0,ba 16 15,aC 17 (.mk 106 [(.sl [TI])] [(.n [TI])] 16),ab 9 17]),(.ae [ab 10 (a6 false)]),(ag [(.ae [ab 18 0,ba 19 18,aw 20 .sub 19 (aq 1),ab 11 20]),(.block 0 (.loop Qy6 QDX))]),QrF])
def Qzy:List (bn × Md):=[(.t 6,.one .d),(.t 7,.one .d),(.t 8,.one .d)]
def QBq:Qb:=TQ 0 0 Qzy K
def QWR:Qb:=aY (aO Mc 0 QrF (QBq K)) (QBq K)
def QSr:Qb:=a7 0 (QWR K)
def Ct(ops:List aH)(dm:List (List Int))(d1:List Int)(sat:Bool)(i:Int)(g:List (List Int)):Prop:=Loop Mc 0 Qy6 QDX (QSr K) ⟨[(0,(bg aM ops)),(1,(bg [(.sl [TI])] dm)),(2,(bg [TI] d1)),(9,(.r [(.sl [TI])] 0 0 g.length)),(10,(bE sat)),(11,(aL i))],[(0,(.sl 106 [(.sl [TI])] .ow g))],1⟩
theorem QD6(ops:List aH)(dm:List (List Int))(d1:List Int)(sat:Bool)(i:Int)(g:List (List Int)) (h :
 (aJ (decide (i>=0)) (((0<=i/\Int.toNat i<ops.length)/\(0<=i/\Int.toNat i<dm.length))/\(((0<=i/\Int.toNat i<g.length)/\((0+(Int.toNat i))<g.length))/\(Ct K ops dm ((ZU (ar b5 ops (Int.toNat i)) (ar ([]:List Int) dm (Int.toNat i)) d1).1) (sat||((ZU (ar b5 ops (Int.toNat i)) (ar ([]:List Int) dm (Int.toNat i)) d1).2.2)) (aG (i-1)) (List.take g.length ((g).set (0+(Int.toNat i)) ((ZU (ar b5 ops (Int.toNat i)) (ar ([]:List Int) dm (Int.toNat i)) d1).2.1)))))) (K (Cs ((List.take g.length (List.drop 0 g)),d1,sat))))):Ct K ops dm d1 sat i g :=
 Loop.of h
theorem QTz(ops:List aH)(dm:List (List Int))(d:List Int)(hp:Gq ops dm d):aK Tryz.prog 108 [(.c (.sl aM) ops),(.c (.sl [(.sl [TI])]) dm),(.c (.sl [TI]) d)] (Cs (Q2 ops dm d)):=by
 refine bz Mc QFf Qzy 0 0 53 Mb (kc QIa kn) (λK =>
 ((0<=(ops.length:Int)/\(ops.length:Int)<=ca)/\(Ct K ops dm d false (aG ((ops.length:Int)-1)) (List.take (Int.toNat (ops.length:Int)) (List.replicate (Int.toNat (ops.length:Int)) ([]:List Int)))))) (λhb=>?_)
 obtain⟨eS,fg⟩:=hp;have zx:ops.length<=4294967296:=fg;refine⟨⟨by omega,by rw[gS];omega⟩,?_⟩;rw[QG (x:=(ops.length:Int)-1) (by omega) (by omega),Int.toNat_natCast,List.take_of_length_le (by simp)];have key:∀ j,j<=ops.length->Ct (λr'=>r'=Cs (Q2 ops dm d)) ops dm ((Q2 (ops.drop j) (dm.drop j) d).2.1) ((Q2 (ops.drop j) (dm.drop j) d).2.2) ((j:Int)-1) (List.replicate j ([]:List Int)++(Q2 (ops.drop j) (dm.drop j) d).1):=by
  intro j
  induction j with
  | zero =>
   intro _;refine QD6 _ _ _ _ _ _ _ ⟨λh=>by simp at h,λ_=>au ?_⟩;simp
  | succ j ih =>
   intro hj;obtain⟨a,s,ha⟩:=Yt (l:=ops) (k:=j) (by omega);obtain⟨e,t,he⟩:=Yt (l:=dm) (k:=j) (by omega);have i9:(Q2 (ops.drop (j+1)) (dm.drop (j+1)) d).1.length=ops.length-(j+1):=by rw[Gv _ _ _ (by simp;omega)];simp
   refine QD6 _ _ _ _ _ _ _ ⟨λ_=>?_,λh=>by simp at h⟩;rw[show Int.toNat (((j+1:Nat):Int)-1)=j by omega,Nat.zero_add,ZF ha,ZF he,QG (x:=((j+1:Nat):Int)-1-1) (by omega) (by omega),GD];have ih:=ih (by omega);rw[ha,he,<- ZA ha,<- ZA he,Q2]at ih;refine⟨⟨⟨by omega,by omega⟩,by omega,by omega⟩,⟨⟨by omega,by simp[i9];omega⟩,by simp[i9];omega⟩,?_⟩;rw[List.take_of_length_le (by simp[i9];omega),Bool.or_comm,show((j+1:Nat):Int)-1-1=(j:Int)-1 by omega];exact ih
 have h0:=key ops.length (Nat.le_refl _);rw[List.drop_length]at h0;simpa[Q2]using h0
theorem QV8:Qf Tryz.prog Mb:=Qi λx h=>QTz x.1 x.2.1 x.2.2.1 h
end
end Go.Proofs.YtdplaepmjogjjaaGreat.Am

set_option linter.all false
namespace Go.Proofs.YtdplaepmjogjjaaGreat.Am
open Go Sz
def uy(m:Zx)(cB:List Int)(s:Nat):Nat:=if s=0 then 0 else if s<=cB.length then(ar 0 cB (s-1)).toNat else m.length
def Cu(m:Zx)(cB:List Int)(s:Nat):List aH:=(m.drop (uy m cB s)).take (uy m cB (s+1)-uy m cB s)
section
variable {m:Zx} {cB:List Int} (hc:ri m cB=true)
include hc
end
def Cv(m:Zx)(cB:List Int)(x:List Int)(s:Nat):List Int:=nF (m.take (uy m cB s)) x
def QCN(m:Zx)(cB:List Int)(x:List Int)(s:Nat):List (List Int):=(QW (Cu m cB s) (Cv m cB x s)).1
def Me(m:Zx)(cB:List Int)(x:List Int)(s:Nat):Bool:=(QW (Cu m cB s) (Cv m cB x s)).2
def QKC(m:Zx)(cB:List Int)(p:Qo)(s:Nat):List (List Int) × List Int × Bool :=
 Q2 (m.drop (uy m cB s)) (QW (m.drop (uy m cB s)) (Cv m cB p.1 s)).1 (QZ (nF m p.1) p.2).1
def yr(m:Zx)(cB:List Int)(p:Qo)(s:Nat):List Int:=(QKC m cB p s).2.1
def QSs(m:Zx)(cB:List Int)(p:Qo)(s:Nat):List (List Int) × List Int × Bool:=Q2 (Cu m cB s) (QCN m cB p.1 s) (yr m cB p (s+1))
section
variable {m:Zx} {cB:List Int} (hc:ri m cB=true)
include hc
end
end Go.Proofs.YtdplaepmjogjjaaGreat.Am
namespace Go.Proofs.YtdplaepmjogjjaaGreat.Am
open Go Sz
structure yt(c:ZI)(b:List Qo):Prop where
 model:Zc (JQ c)=true
 batch:QQJ (JQ c) b=true
 cB:ri (JQ c) (JX c)=true
 Mf:(JX c).length+1<=4
 ds:1<=Gf c/\Gf c<=2
 nz:(SP c).length=(JX c).length+1
 axQ:QVo c=true
 Mg:QQI c b.length=true
def l6(c:ZI):Nat:=(JX c).length+1
abbrev ib(b:List Qo)(k:Nat):Qo:=ar QV b k
section
variable {m:Zx} {cB:List Int} (hc:ri m cB=true)
include hc
variable {p:Qo} (hp:SQ m p=true)
include hp
end
end Go.Proofs.YtdplaepmjogjjaaGreat.Am
namespace Go.Proofs.YtdplaepmjogjjaaGreat.Am
open Go Sz
section
variable (c:ZI) (b:List Qo)
def Mh(s:Nat):Bool:=ar false (SP c) s
def yu(s:Nat):List bu:=QNg (Gf c) (l6 c:Nat) s b.length (Mh c s)
abbrev opS(s:Nat):List aH:=Cu (JQ c) (JX c) s
abbrev inS(s j:Nat):List Int:=Cv (JQ c) (JX c) (ib b j).1 s
abbrev yv(s j:Nat):List (List Int):=QCN (JQ c) (JX c) (ib b j).1 s
abbrev doS(s j:Nat):List Int:=yr (JQ c) (JX c) (ib b j) s
abbrev Mi(s j:Nat):=QSs (JQ c) (JX c) (ib b j) s
abbrev nW(j:Nat):List Int:=nF (JQ c) (ib b j).1
def Cw(s:Nat):Bool:=decide (s+1=l6 c)
def QJE(s:Nat)(r:List (List Int)):List (List Int):=if Mh c s then r.take 1 else r
def Mj(s:Nat):Nat->List (List Int)
 | 0=>(QJY (opS c s)).1
 | g+1=>(ZE (Mj s g) (Mi c b s g).1).1
def Ml:Nat->Int
 | 0=>0
 | f+1=>(Q4 (Ml f) (Z7 (nW c b f) (ib b f).2).1).1
def Mm(f:Nat):Bool:=(Z7 (nW c b f) (ib b f).2).2||(Q4 (Ml c b f) (Z7 (nW c b f) (ib b f).2).1).2
def QXf(s j:Nat):Bool:=Me (JQ c) (JX c) (ib b j).1 s||(Cw c s&&Mm c b j)
def QUf(s j:Nat):Bool:=(Mi c b s j).2.2||(ZE (Mj c b s j) (Mi c b s j).1).2||(Cw c s&&(QZ (nW c b j) (ib b j).2).2)
def Mn(s f g:Nat):Bool:=(List.range f).any (QXf c b s)||(List.range g).any (QUf c b s)
def QGV(s f g:Nat):List QD:=(List.range' g (f-g)).map λj:Nat=>((j:Int),QJE c s (yv c b s j))
def QOT(s g:Nat)(k1:Int):List (List Int):=if k1=5 then yv c b s g else []
def vX(s f:Nat)(k1:Int):List Int:=if k1=1 then inS c b s f else []
def vY(s f:Nat)(k1:Int):List Int:=if k1=2/\s+1<l6 c then inS c b (s+1) (f-1) else []
def vG(s g:Nat)(k1:Int):List Int:=if k1=4\/(k1=5/\s+1<l6 c) then doS c b (s+1) g else []
def vD(s g:Nat)(k1:Int):List Int:=if k1=6/\0<s then doS c b s (g-1) else []
def st(s:Nat)(k f g:Nat)(k1:Int):Qc :=
 ((k:Int),yu c b s,opS c s,Cw c s,Mh c s,QGV c b s f g,QOT c b s g k1,vX c b s f k1,vY c b s f k1,vG c b s g k1,vD c b s g k1,Mj c b s g,(if Cw c s then Ml c b f else 0),Mn c b s f g)
end
structure axW(M f g:Nat)(kk:Int):Prop where
 gf:g<=f
 fM:f<=M
 k1:kk=1->f<M
 k2:kk=2->1<=f
 k45:kk=4\/kk=5->g<f
 k6:kk=6->1<=g
section
variable {c:ZI} {b:List Qo} (A:yt c b)
include A
end
end Go.Proofs.YtdplaepmjogjjaaGreat.Am
namespace Go.Proofs.YtdplaepmjogjjaaGreat.Am
open Go Sz
structure Loc(ds n M s:Int)(rd:Bool)(f g:Nat)(k1:Int)(i:bu)(last:Bool):Prop where
 c0:g<=f/\(f:Int)<=M/\1<=i.1/\i.1<=8/\0<=i.2/\i.2<M/\(i.1=8↔last=true)/\i≠(0,0)
 c1:i.1=1->0<s/\i.2=f/\k1≠1
 c2:i.1=2->i.2=f/\(0<s->k1=1)
 c3:i.1=3->s<n-1/\i.2=(f:Int)-1/\k1=2
 c4:i.1=4->s<n-1/\i.2=g
 c5:i.1=5->rd=true/\i.2=g/\g<f/\(s<n-1->k1=4)
 c6:i.1=6->i.2=g/\g<f/\(rd=true->k1=5)/\(rd=false->s<n-1->k1=4)
 c7:i.1=7->0<s/\i.2=(g:Int)-1/\k1=6
 c8:i.1=8->(f:Int)=M/\(g:Int)=M/\k1≠0
 c9:k1=1->i.1=2
 c10:k1=2->s<n-1->i.1=3
 c11:k1=4->i.1=5\/i.1=6
 c12:k1=5->i.1=6
 c13:k1=6->0<s->i.1=7
 c14:k1=5->rd=true
 c15:k1=6->1<=g
 c16:k1=2->1<=f
 c17:k1≠8
 c18:k1=4->s<n-1
 c19:k1=1->0<s
 c20:k1=4\/k1=5->g<f
 c21:k1=1->(f:Int)<M
 c22:s<n-1->(rC f k1:Int)<M->tm ds n M s i<=tm ds n M s (3,(rC f k1:Int))
 c23:0<s->(rB f k1:Int)<M->tm ds n M s i<=tm ds n M s (1,(rB f k1:Int))
 c24:s<n-1->(rD n s g k1:Int)<M->tm ds n M s i<=tm ds n M s (4,(rD n s g k1:Int))
 c25:0<s->(Gt g k1:Int)<M->tm ds n M s i<=tm ds n M s (7,(Gt g k1:Int))
 c26:ds=2->(f:Int)-g<=n-s
 c27:ds=2->i.1=2->(f:Int)-g<n-s
section
variable (c:ZI) (b:List Qo)
def nX(s:Nat):Nat:=(yu c b s).length
def F(s k:Nat):Nat:=cf ((yu c b s).take k)
def G(s k:Nat):Nat:=cg ((yu c b s).take k)
def K1(s k:Nat):Int:=QPF (yu c b s) k
def sc(s k:Nat):Nat:=rC (F c b s k) (K1 c b s k)
def rc(s k:Nat):Nat:=rB (F c b s k) (K1 c b s k)
def rg(s k:Nat):Nat:=rD (l6 c:Nat) (s:Int) (G c b s k) (K1 c b s k)
def sg(s k:Nat):Nat:=Gt (G c b s k) (K1 c b s k)
abbrev QsU(s:Nat):Int:=ar 0 (QHX c) s
end
section
variable {c:ZI} {b:List Qo} (A:yt c b)
include A
structure Ok(c:ZI)(b:List Qo)(ks:Nat->Nat):Prop where
 le:∀ s,s<l6 c->ks s<=nX c b s
 qa:∀ s,s+1<l6 c->rc c b (s+1) (ks (s+1))<=sc c b s (ks s)/\(sc c b s (ks s):Int)-rc c b (s+1) (ks (s+1))<=QsU c s
 qb:∀ s,s+1<l6 c->rg c b s (ks s)<=sg c b (s+1) (ks (s+1))/\(sg c b (s+1) (ks (s+1)):Int)-rg c b s (ks s)<=QsU c s
 fl:(∃ s,s<l6 c/\ks s=nX c b s)->∀ s,s<l6 c->nX c b s<=ks s+1
end
end Go.Proofs.YtdplaepmjogjjaaGreat.Am

set_option linter.all false
namespace Go.Proofs.YtdplaepmjogjjaaGreat.Am
open Go Sz
def fU(ks:Nat->Nat)(s:Nat):Nat->Nat:=λj=>if j=s then ks j+1 else ks j
section
variable {c:ZI} {b:List Qo} (A:yt c b)
include A
end
end Go.Proofs.YtdplaepmjogjjaaGreat.Am
namespace Go.Proofs.YtdplaepmjogjjaaGreat.Am
open Go Sz
section
variable {c:ZI} {b:List Qo} (A:yt c b)
include A
def left(c:ZI)(b:List Qo)(ks:Nat->Nat):Nat:=((List.range (l6 c)).map λs=>nX c b s-ks s).sum
end
end Go.Proofs.YtdplaepmjogjjaaGreat.Am
namespace Go.Proofs.YtdplaepmjogjjaaGreat.Am
open Go Sz
section
variable {c:ZI} {b:List Qo} (A:yt c b)
include A
end
end Go.Proofs.YtdplaepmjogjjaaGreat.Am

set_option linter.all false
namespace Go.Proofs.YtdplaepmjogjjaaGreat.Am
open Go Sz
section
variable {m:Zx} {cB:List Int} (hc:ri m cB=true)
include hc
end
end Go.Proofs.YtdplaepmjogjjaaGreat.Am
namespace Go.Proofs.YtdplaepmjogjjaaGreat.Am
open Go Sz
end Go.Proofs.YtdplaepmjogjjaaGreat.Am
namespace Go.Proofs.YtdplaepmjogjjaaGreat.Am
open Go Sz
def QDp(r:List Int):Int:=if 0<r.length then aG (ar 0 r (r.length-1)+1) else 1
def ext(lim:Int)(r:List Int):List (List Int):=(List.range (lim+1-QDp r).toNat).map λj:Nat=>r++[QDp r+(j:Int)]
def fill(now:List Int)(i:Nat):Nat->List Int
 | 0=>now
 | f+1=>fill (now.set i (aG (ar 0 now (i-1)+1))) (i+1) f
end Go.Proofs.YtdplaepmjogjjaaGreat.Am

set_option linter.all false
namespace Go.Proofs.YtdplaepmjogjjaaGreat.Am
open Go Sz
def JM(s:Qc)(_:Int)(_ _:List Int):Prop:=sz s<=2147483648
def pg(s:Qc)(_:Int):Prop:=sz s<=2147483648
def ph(s:Qc)(_:Int)(_:List Int):Prop:=sz s<=2147483648
def pj(p:Qk)(_:Int):Prop:=sz p<=1073741824
def sv(p:Qk)(_:Int):Prop:=sz p<=536870912
theorem ZL(s:Qc):sz s=sz (Qt s)+sz (aE s)+sz (Qj s)+sz (QC s)+sz (sX s)+sz (sY s)+sz (sG s)+sz (sD s)+sz (Qy s):=by
 simp only[QR,QL,QY];((try simp only[bT,Qt,aE,Qn,Qp,Qj,QC,sX,sY,sG,sD,Qy,Qv,bf,QB,QA,Qq,Qr]at *);omega)
theorem uz(p:Qk):sz p=sz (QB p)+sz (QA p)+sz (Qq p)+sz (Qr p):=by
 simp only[QR];((try simp only[bT,Qt,aE,Qn,Qp,Qj,QC,sX,sY,sG,sD,Qy,Qv,bf,QB,QA,Qq,Qr]at *);omega)
theorem uA{α:Type}[Sz α](d:α)(v:α):∀(l:List α)(i:Nat),sz (l.set i v)+sz (ar d l i)<=sz l+sz v+sz d
 | [],i=>by simp[ar]
 | x::l,0=>by simp only[List.set_cons_zero,Jq,Ao];omega
 | x::l,i+1=>by
  have:=uA d v l i;simp only[List.set_cons_succ,Jq,QYs];omega
theorem nY{α:Type}[Sz α](d:α)(l:List α)(i:Nat):sz (ar d l i)<=sz l+sz d:=by
 by_cases h:i<l.length
 ·have:=Ak (Jz h d);omega
 ·have:ar d l i=d:=by simp[ar,List.getD_eq_getElem?_getD,List.getElem?_eq_none (Nat.le_of_not_lt h)]
  rw[this];omega
theorem kQ{v:List Int}(h:QK v=true):v.length<=6:=by
 simp only[QK,Bool.and_eq_true,Za]at h;omega
theorem Y3{v:List Int}{n:Int}(h:QH v n=true):v.length<=6:=by
 simp only[QH,Bool.and_eq_true]at h;exact kQ h.1
theorem Mp(f:Int->Int->Int × Bool):∀(a b:List Int),(vz f a b).1.length<=a.length
 | [],b=>by simp[vz]
 | a::aa,[]=>by simp[vz]
 | a::aa,b::bb=>by simp only[vz,List.length_cons];have:=Mp f aa bb;omega
theorem Qsk(f:Int->Int × Bool):∀(a:List Int),(v1 f a).1.length<=a.length
 | []=>by simp[v1]
 | a::aa=>by simp only[v1,List.length_cons];have:=Qsk f aa;omega
theorem QDL{a b:List Int}(h:ZB a b=true):a.length<=6:=by
 simp only[ZB,Bool.and_eq_true]at h;exact kQ h.1
theorem Mq(a b:List Int):(Zd a b).1.length<=6:=by
 unfold Zd
 split
 ·rename_i h;have:=Mp Q4 a b;have:=QDL h;omega
 ·simp
theorem QEw(c:Int)(a:List Int):(Zz c a).1.length<=6:=by
 unfold Zz
 split
 ·rename_i h;simp only[Bool.and_eq_true]at h;have:=Qsk (Q7 c) a;have:=kQ h.2;omega
 ·simp
theorem QPn(a:List Int):(Z4 a).length<=6:=by
 unfold Z4
 split
 ·rename_i h;simp;exact kQ h
 ·simp
theorem QNp(x d:List Int):(Z5 x d).length<=6:=by
 unfold Z5
 split
 ·rename_i h;have:=QDL h;simp;omega
 ·simp
theorem QKh(m:cc)(x:List Int):(Q6 m x).1.length<=6:=by
 unfold Q6
 split
 ·rename_i h;simp only[Bool.and_eq_true,Zp,Za]at h;simp;omega
 ·simp
theorem QYB(m:cc)(x:List Int):(Zr m x).1.length<=6:=by
 unfold Zr
 split
 ·rename_i h;simp only[Bool.and_eq_true,Zp,Za]at h;simp;omega
 ·simp
theorem yw(o:aH)(x:List Int):(ZY o x).1.length<=6:=by
 unfold ZY
 split
 ·split
  ·exact QKh _ _
  ·split
   ·exact Mq _ _
   ·split
    ·exact QEw _ _
    ·split
     ·exact Mq _ _
     ·exact QPn _
 ·simp
theorem Mr(o:aH)(x d:List Int):(ZU o x d).1.length<=6:=by
 unfold ZU
 split
 ·rename_i h;simp only[Bool.and_eq_true]at h
  split
  ·exact QYB _ _
  ·split
   ·exact Y3 h.2
   ·split
    ·exact QEw _ _
    ·split
     ·exact Mq _ _
     ·exact QNp _ _
 ·simp
theorem QSF:∀(ops:List aH)(rows:List (List Int))(d:List Int),(Q2 ops rows d).2.1.length<=6+d.length
 | [],rows,d=>by simp[Q2]
 | o::os,[],d=>by simp[Q2]
 | o::os,r::rs,d=>by simp only[Q2];have:=Mr o r (Q2 os rs d).2.1;omega
theorem yx:∀(ops:List aH)(x:List Int),sz (QW ops x).1<=1+x.length+7*ops.length
 | [],x=>by simp only[QW,Jq,ZK,List.length_nil];have:sz ([]:List (List Int))=0:=rfl;omega
 | o::r,x=>by
  have h1:=yx r (ZY o x).1;have h2:=yw o x;simp only[QW,Jq,ZK,List.length_cons];omega
theorem QAE:∀(a b:List (List Int)),sz (ZE a b).1<=sz a
 | [],b=>by simp[ZE]
 | a::aa,[]=>by simp only[ZE];exact Nat.zero_le _
 | a::aa,b::bb=>by
  have h1:=QAE aa bb;have h2:=Mp Q4 a b;simp only[ZE,Jq,ZK];omega
theorem YU{s:Qc}(h:QU s=true):Zc (aE s)=true:=by
 simp only[QU,Bool.and_eq_true]at h;exact h.1.1.1.1
theorem Qyq{s:Qc}(h:QU s=true):(aE s).length<=8:=(Yu (YU h)).2
theorem QyD{s:Qc}(h:QU s=true):0<=bT s/\bT s<=(Qt s).length:=by
 simp only[QU,Bool.and_eq_true,Za]at h;exact h.1.1.1.2
theorem Ms{s:Qc}(h:QU s=true):∀ x,x∈Qj s->Yh s x=true:=by
 simp only[QU,Bool.and_eq_true,List.all_eq_true]at h;exact h.1.2
theorem QEt{s:Qc}(h:QU s=true):(Qy s).length=(aE s).length/\YR (aE s) (Qy s)=true:=by
 simp only[QU,Bool.and_eq_true,YP,beq_iff_eq]at h;exact h.1.1.2
theorem Mt{s:Qc}{x:QD}(h:QU s=true)(hx:Yh s x=true):1<=x.2.length/\(x.2.length:Int)=ZH s/\QH (ar [] x.2 0) (ZN (aE s))=true:=by
 simp only[Yh,Bool.and_eq_true,beq_iff_eq]at hx;obtain⟨h1,h2⟩:=hx;have h3:1<=x.2.length:=by unfold ZH at h1;split at h1 <;> omega
 refine⟨h3,h1,?_⟩;unfold ZS at h2;rw[<- h1,Int.toNat_natCast,List.take_length]at h2
 cases hr:x.2 with
 | nil=>rw[hr]at h3;simp at h3
 | cons r rs =>
  rw[hr]at h2;simp only[YE,Bool.and_eq_true]at h2;have hm:=YU h;have hl:=Yu hm;have:YQ (aE s) 0=ZN (aE s):=by
   unfold YQ ZN;rw[if_pos (by omega),if_pos hm]
  rw[Ao,<- this];exact h2.1
theorem QAm:∀(l:List QD)(m k:Int),0<=k->Jh l m k<k+l.length/\-1<=Jh l m k
 | [],m,k,hk=>by simp only[Jh,List.length_nil];omega
 | x::r,m,k,hk=>by
  have:=QAm r m (k+1) (by omega);simp only[Jh,List.length_cons]
  split <;> omega
theorem yy(l:List QD)(m:Int):QJ l m<l.length/\-1<=QJ l m:=by
 have:=QAm l m 0 (Int.le_refl _);unfold QJ;omega
theorem QIs(s:Qc)(m:Int)(x t:List Int):sz (ZV s m x t)<=sz s+100:=by
 unfold ZV
 split
 ·rename_i h;simp only[Jb,Bool.and_eq_true]at h;have h1:=Qyq h.1.1.1;have h2:=Y3 h.1.1.2;have h3:=yx (aE s) x;have h4:=nY [] (QW (aE s) x).1 (aE s).length;have h5:sz (if Qp s=true then List.take 1 (QW (aE s) x).1 else(QW (aE s) x).1)<=sz (QW (aE s) x).1:=by
   split
   ·exact Gd _ _
   ·exact Nat.le_refl _
  have h6:sz (if Qn s=true then sY s else ar [] (QW (aE s) x).1 (aE s).length)<=sz (sY s)+sz (ar [] (QW (aE s) x).1 (aE s).length):=by
   split <;> ((try simp only[bT,Qt,aE,Qn,Qp,Qj,QC,sX,sY,sG,sD,Qy,Qv,bf,QB,QA,Qq,Qr]at *);omega)
  have h7:(ar [] (QW (aE s) x).1 (aE s).length).length<=6:=by
   have:ar [] (QW (aE s) x).1 (aE s).length=nF (aE s) x:=rfl;rw[this];have hv:∀(ops:List aH)(x:List Int),x.length<=6->(nF ops x).length<=6:=by
    intro ops
    induction ops with
    | nil=>intro x hx;rw[QNX];exact hx
    | cons o r ih=>intro x hx;rw[QQn];exact ih _ (yw o x)
   exact hv _ _ h2
  have h8:=ZK (ar [] (QW (aE s) x).1 (aE s).length);have e:sz ([]:List Int)=0:=rfl;rw[ZL,ZL s];have e3:sz ([]:List QD)=0:=rfl;simp only[Qj,sX,Aj,Jq,YM,QL,e,e3];have e2:sz ([]:List QD)=0:=rfl
  ((try simp only[bT,Qt,aE,Qn,Qp,Qj,QC,sX,sY,sG,sD,Qy,Qv,bf,QB,QA,Qq,Qr]at *);omega)
 ·((try simp only[bT,Qt,aE,Qn,Qp,Qj,QC,sX,sY,sG,sD,Qy,Qv,bf,QB,QA,Qq,Qr]at *);omega)
theorem QPr(s:Qc)(m:Int):sz (Yl s m)<=sz s+100:=by
 unfold Yl;simp only
 split
 ·rename_i h;simp only[Bool.and_eq_true,decide_eq_true_eq]at h;have h1:=Qyq h.1;have hf:=yy (Qj s) m;have hk:(QJ (Qj s) m).toNat<(Qj s).length:=by((try simp only[bT,Qt,aE,Qn,Qp,Qj,QC,sX,sY,sG,sD,Qy,Qv,bf,QB,QA,Qq,Qr]at *);omega)
  have h2:=Y3 (Mt h.1 (Ms h.1 _ (Jz hk QS))).2.2;have h3:=yx (aE s) (ar [] (ar QS (Qj s) (QJ (Qj s) m).toNat).2 0);rw[ZL,ZL s]
  ((try simp only[bT,Qt,aE,Qn,Qp,Qj,QC,sX,sY,sG,sD,Qy,Qv,bf,QB,QA,Qq,Qr]at *);omega)
 ·((try simp only[bT,Qt,aE,Qn,Qp,Qj,QC,sX,sY,sG,sD,Qy,Qv,bf,QB,QA,Qq,Qr]at *);omega)
theorem QOm(s:Qc)(m:Int)(t:List Int):sz (ZC s m t)<=sz s+100:=by
 unfold ZC;simp only
 split
 ·rename_i h;simp only[Yz,Bool.and_eq_true]at h;have h1:=Y3 h.2;have h2:=QSF (aE s) (Zq s (QJ (Qj s) m)) (eM s (QJ (Qj s) m) t).1;have h3:=QAE (lT s).1 (Q2 (aE s) (Zq s (QJ (Qj s) m)) (eM s (QJ (Qj s) m) t).1).1;have h4:=Gc (Qj s) (QJ (Qj s) m).toNat
  have h5:sz (List.drop ((QJ (Qj s) m).toNat+1) (Qj s))<=sz (List.drop (QJ (Qj s) m).toNat (Qj s)):=by
   rw[<- List.drop_drop];exact QSM _ _
  have h6:=ZK (Q2 (aE s) (Zq s (QJ (Qj s) m)) (eM s (QJ (Qj s) m) t).1).2.1;have e:sz ([]:List Int)=0:=rfl;have e2:sz ([]:List (List Int))=0:=rfl;rw[ZL,ZL s];simp only[Qj,QC,sG,Qy,Aj,e,e2,Z0]
  ((try simp only[bT,Qt,aE,Qn,Qp,Qj,QC,sX,sY,sG,sD,Qy,Qv,bf,QB,QA,Qq,Qr]at *);omega)
 ·((try simp only[bT,Qt,aE,Qn,Qp,Qj,QC,sX,sY,sG,sD,Qy,Qv,bf,QB,QA,Qq,Qr]at *);omega)
theorem QDN(q:Qd):sz (Zg q).1+sz (Zg q).2.1.2<=sz q:=by
 unfold Zg
 split
 ·rename_i h;simp only[Bool.and_eq_true,decide_eq_true_eq]at h;obtain⟨c,l⟩:=q
  cases l with
  | nil=>simp at h
  | cons x l=>simp only[List.tail_cons,Ao,YM,QL,Jq];rw[QR x,QL];((try simp only[bT,Qt,aE,Qn,Qp,Qj,QC,sX,sY,sG,sD,Qy,Qv,bf,QB,QA,Qq,Qr]at *);omega)
 ·have:sz ([]:List Int)=0:=rfl;simp only;((try simp only[bT,Qt,aE,Qn,Qp,Qj,QC,sX,sY,sG,sD,Qy,Qv,bf,QB,QA,Qq,Qr]at *);omega)
theorem QDO(q:Qd)(x:Qm):sz (Z6 q x).1<=sz q+1+sz x.2:=by
 unfold Z6
 split
 ·have:sz ([]:List Qm)=0:=rfl;simp only[YM,Aj,Jq,QL];rw[QR q,QL,QR x,QL];((try simp only[bT,Qt,aE,Qn,Qp,Qj,QC,sX,sY,sG,sD,Qy,Qv,bf,QB,QA,Qq,Qr]at *);omega)
 ·simp only;((try simp only[bT,Qt,aE,Qn,Qp,Qj,QC,sX,sY,sG,sD,Qy,Qv,bf,QB,QA,Qq,Qr]at *);omega)
theorem QTT(p:Qk)(k:Nat)(x:Qc)(i:bu):sz (ZO p k x i).1+sz (ZO p k x i).2.1+sz (ZO p k x i).2.2<=sz x+sz (Qq p)+sz (Qr p)+100:=by
 have e:sz ([]:List Int)=0:=rfl;have ed:sz Qx=0:=rfl;unfold ZO;simp only
 split
 ·have h1:=QDN (ar Qx (Qq p) (k-1));have h2:=uA Qx (Zg (ar Qx (Qq p) (k-1))).1 (Qq p) (k-1);have h3:sz (kL x (Zg (ar Qx (Qq p) (k-1))).2.1.2)<=sz x+sz (Zg (ar Qx (Qq p) (k-1))).2.1.2:=by
   rw[ZL,ZL x];simp only[kL];((try simp only[bT,Qt,aE,Qn,Qp,Qj,QC,sX,sY,sG,sD,Qy,Qv,bf,QB,QA,Qq,Qr]at *);omega)
  simp only;((try simp only[bT,Qt,aE,Qn,Qp,Qj,QC,sX,sY,sG,sD,Qy,Qv,bf,QB,QA,Qq,Qr]at *);omega)
 split
 ·have h:=QIs x i.2 (if k=0 then(ar QV (QB p) i.2.toNat).1 else sX x) (ar QV (QB p) i.2.toNat).2;simp only;((try simp only[bT,Qt,aE,Qn,Qp,Qj,QC,sX,sY,sG,sD,Qy,Qv,bf,QB,QA,Qq,Qr]at *);omega)
 split
 ·have h1:=QDO (ar Qx (Qq p) k) (i.2,sY x);have h2:=uA Qx (Z6 (ar Qx (Qq p) k) (i.2,sY x)).1 (Qq p) k;have h3:sz (kM x [])+sz (sY x)=sz x:=by rw[ZL,ZL x];simp only[kM,e];((try simp only[bT,Qt,aE,Qn,Qp,Qj,QC,sX,sY,sG,sD,Qy,Qv,bf,QB,QA,Qq,Qr]at *);omega)
  simp only at h1 ⊢;((try simp only[bT,Qt,aE,Qn,Qp,Qj,QC,sX,sY,sG,sD,Qy,Qv,bf,QB,QA,Qq,Qr]at *);omega)
 split
 ·have h1:=QDN (ar Qx (Qr p) k);have h2:=uA Qx (Zg (ar Qx (Qr p) k)).1 (Qr p) k;have h3:sz (kN x (Zg (ar Qx (Qr p) k)).2.1.2)<=sz x+sz (Zg (ar Qx (Qr p) k)).2.1.2:=by
   rw[ZL,ZL x];simp only[kN];((try simp only[bT,Qt,aE,Qn,Qp,Qj,QC,sX,sY,sG,sD,Qy,Qv,bf,QB,QA,Qq,Qr]at *);omega)
  simp only;((try simp only[bT,Qt,aE,Qn,Qp,Qj,QC,sX,sY,sG,sD,Qy,Qv,bf,QB,QA,Qq,Qr]at *);omega)
 split
 ·have h:=QPr x i.2;simp only;((try simp only[bT,Qt,aE,Qn,Qp,Qj,QC,sX,sY,sG,sD,Qy,Qv,bf,QB,QA,Qq,Qr]at *);omega)
 split
 ·have h:=QOm x i.2 (ar QV (QB p) i.2.toNat).2;have h3:∀ y:Qc,sz (gr y [])<=sz y:=by intro y;rw[ZL,ZL y];simp only[gr,e];((try simp only[bT,Qt,aE,Qn,Qp,Qj,QC,sX,sY,sG,sD,Qy,Qv,bf,QB,QA,Qq,Qr]at *);omega)
  have h4:=h3 (ZC x i.2 (ar QV (QB p) i.2.toNat).2);simp only
  split <;> ((try simp only[bT,Qt,aE,Qn,Qp,Qj,QC,sX,sY,sG,sD,Qy,Qv,bf,QB,QA,Qq,Qr]at *);omega)
 split
 ·have h1:=QDO (ar Qx (Qr p) (k-1)) (i.2,sD x);have h2:=uA Qx (Z6 (ar Qx (Qr p) (k-1)) (i.2,sD x)).1 (Qr p) (k-1);have h3:sz (gr x [])+sz (sD x)=sz x:=by rw[ZL,ZL x];simp only[gr,e];((try simp only[bT,Qt,aE,Qn,Qp,Qj,QC,sX,sY,sG,sD,Qy,Qv,bf,QB,QA,Qq,Qr]at *);omega)
  simp only at h1 ⊢;((try simp only[bT,Qt,aE,Qn,Qp,Qj,QC,sX,sY,sG,sD,Qy,Qv,bf,QB,QA,Qq,Qr]at *);omega)
 ·simp only;((try simp only[bT,Qt,aE,Qn,Qp,Qj,QC,sX,sY,sG,sD,Qy,Qv,bf,QB,QA,Qq,Qr]at *);omega)
theorem Mu(p:Qk)(s:Int):sz (ZM p s)<=sz p+100:=by
 unfold ZM
 split
 ·have h1:=QTT p s.toNat (ar Qz (QA p) s.toNat) (Ql p s)
  have h2:=uA Qz (Gr (ZO p s.toNat (ar Qz (QA p) s.toNat) (Ql p s)).1 (bT (ar Qz (QA p) s.toNat)+1)) (QA p) s.toNat
  have h3:∀(y:Qc)(v:Int),sz (Gr y v)=sz y:=by intro y v;rw[ZL,ZL y];rfl
  rw[h3]at h2;have ed:sz Qz=0:=rfl;rw[uz,uz p];simp only
  ((try simp only[bT,Qt,aE,Qn,Qp,Qj,QC,sX,sY,sG,sD,Qy,Qv,bf,QB,QA,Qq,Qr]at *);omega)
 ·((try simp only[bT,Qt,aE,Qn,Qp,Qj,QC,sX,sY,sG,sD,Qy,Qv,bf,QB,QA,Qq,Qr]at *);omega)
theorem QAV:∀(n k:Nat)(p:Qk),sz (nD k n p)<=sz p+100*n
 | 0,k,p=>by simp[nD]
 | n+1,k,p=>by
  have h1:=QAV n (k+1) (ZM p (Int.tmod (k:Int) (QA p).length));have h2:=Mu p (Int.tmod (k:Int) (QA p).length);simp only[nD];((try simp only[bT,Qt,aE,Qn,Qp,Qj,QC,sX,sY,sG,sD,Qy,Qv,bf,QB,QA,Qq,Qr]at *);omega)
theorem QXT(p:Qk)(n:Int):sz (Zy p n)<=sz p+200000:=by
 unfold Zy
 split
 ·have:=QAV (min n.toNat 2000) 0 p
  ((try simp only[bT,Qt,aE,Qn,Qp,Qj,QC,sX,sY,sG,sD,Qy,Qv,bf,QB,QA,Qq,Qr]at *);omega)
 ·((try simp only[bT,Qt,aE,Qn,Qp,Qj,QC,sX,sY,sG,sD,Qy,Qv,bf,QB,QA,Qq,Qr]at *);omega)
end Go.Proofs.YtdplaepmjogjjaaGreat.Am
namespace Go.Proofs.YtdplaepmjogjjaaGreat.Am
open Go Sz
theorem Mv(a b:Int):decide (a>=b) = !decide (a<b):=by
 rw[Bool.eq_iff_iff];simp
theorem Mw{s:Qc}{m:Int}{x t:List Int}(h:¬ Jb s m x t=true):ZV s m x t=s:=by unfold ZV;rw[if_neg h]
theorem QAU{s:Qc}{m:Int}(h:¬ (QU s&&decide (0<=QJ (Qj s) m))=true):Yl s m=s:=by unfold Yl;simp only;rw[if_neg h]
theorem QCQ{s:Qc}{m:Int}{t:List Int}(h:¬ Yz s (QJ (Qj s) m) t=true):ZC s m t=s:=by unfold ZC;simp only;rw[if_neg h]
theorem QIl{m:Zx}(h:Zc m=true):ZN m=(ar b5 m 0).2.1:=by unfold ZN;rw[if_pos h]
theorem QDD{m:Zx}(h:Zc m=true):Zw m=(ar b5 m (m.length-1)).2.2.1:=by unfold Zw;rw[if_pos h]
theorem QwR(s:Qc)(m:Int)(x t:List Int):Jb s m x t=(!(((!(QU s))||(!(QH x (ZN (Zm s)))))||decide (QJ s.2.2.2.2.2.1 m>=0))&&!(s.2.2.2.1&&(!(QH t (Zw (Zm s)))))):=by
 unfold Jb;rw[Mv];show(QU s&&QH x (ZN (Zm s))&&decide (QJ s.2.2.2.2.2.1 m<0)&&(!s.2.2.2.1||QH t (Zw (Zm s))))=_
 cases QU s <;> cases QH x (ZN (Zm s)) <;> cases decide (QJ s.2.2.2.2.2.1 m<0) <;> cases s.2.2.2.1 <;> cases QH t (Zw (Zm s)) <;> rfl
theorem QPI(s:Qc)(m:Int)(x t:List Int)(k:Nat)(hk:QU s=true->k=s.2.2.1.length-1) :
  (((((!(QU s))||(!(QK x)))||((x.length:Int) != ((ar b5 s.2.2.1 0).2.1)))||decide (QJ s.2.2.2.2.2.1 m>=0))||(s.2.2.2.1&&((!(QK t))||((t.length:Int) != ((ar b5 s.2.2.1 k).2.2.1))))) = !Jb s m x t:=by
 rw[QwR,Mv]
 cases hs:QU s
 ·rfl
 ·have hm:=YU hs;rw[hk hs,show Zm s=s.2.2.1 from rfl,QIl hm,QDD hm];unfold QH;simp only[bne]
  cases QK x <;> cases((x.length:Int)==(ar b5 s.2.2.1 0).2.1) <;> cases decide (QJ s.2.2.2.2.2.1 m<0) <;> cases s.2.2.2.1 <;> cases QK t <;> cases((t.length:Int)==(ar b5 s.2.2.1 (s.2.2.1.length-1)).2.2.1) <;> rfl
theorem Cx(s:Qc)(m:Int):((!(QU s))||decide (QJ s.2.2.2.2.2.1 m<0)) = !(QU s&&decide (0<=QJ s.2.2.2.2.2.1 m)):=by
 have:=Mv (QJ s.2.2.2.2.2.1 m) 0;rw[show decide (0<=QJ s.2.2.2.2.2.1 m)=decide (QJ s.2.2.2.2.2.1 m>=0) from rfl,this]
 cases QU s <;> cases decide (QJ s.2.2.2.2.2.1 m<0) <;> rfl
theorem QEI{s:Qc}{m:Int}{x t:List Int}(h:Jb s m x t=true):ZV s m x t =
  (bT s,Qt s,aE s,Qn s,Qp s,Qj s++[(m,if Qp s then(QW (aE s) x).1.take 1 else(QW (aE s) x).1)],QC s,[],(if Qn s then sY s else ar [] (QW (aE s) x).1 (aE s).length),sG s,sD s,Qy s,
   (if Qn s then(Q4 (Qv s) (Z7 (ar [] (QW (aE s) x).1 (aE s).length) t).1).1 else Qv s),
   (bf s||(QW (aE s) x).2||(Qn s&&((Z7 (ar [] (QW (aE s) x).1 (aE s).length) t).2||(Q4 (Qv s) (Z7 (ar [] (QW (aE s) x).1 (aE s).length) t).1).2)))):=by
 unfold ZV;rw[if_pos h]
theorem yz{s:Qc}{m:Int}{t:List Int}{rows:List (List Int)}{d:List Int}{b:Bool}(h:Yz s (QJ (Qj s) m) t=true)(hr:rows=Zq s (QJ (Qj s) m))(hd:(d,b)=eM s (QJ (Qj s) m) t):ZC s m t =
  (bT s,Qt s,aE s,Qn s,Qp s,(Qj s).take (QJ (Qj s) m).toNat++(Qj s).drop ((QJ (Qj s) m).toNat+1),[],sX s,sY s,[],(Q2 (aE s) rows d).2.1,
   (Z0 (lT s) ((Q2 (aE s) rows d).1,0,b||(Q2 (aE s) rows d).2.2)).1,(Z0 (lT s) ((Q2 (aE s) rows d).1,0,b||(Q2 (aE s) rows d).2.2)).2.1,(Z0 (lT s) ((Q2 (aE s) rows d).1,0,b||(Q2 (aE s) rows d).2.2)).2.2):=by
 unfold ZC;simp only;rw[if_pos h,<- hr,<- hd]
theorem JB(s:Qc)(k:Int)(t:List Int):Yz s k t=(QU s&&decide (0<=k)&&((Zq s k).length==(aE s).length+1)&&ZS (aE s) (Zq s k) (aE s).length&&QH (eM s k t).1 (Zw (aE s))):=rfl
theorem yA{α:Type}{l:List α}{k:Nat}(hk:k<l.length):List.take (k+(List.take (l.length-(k+1)) (List.drop (k+1) l)).length) (List.take k l++List.take (l.length-(k+1)) (List.drop (k+1) l))=List.take k l++List.drop (k+1) l:=by
 have e:List.take (l.length-(k+1)) (List.drop (k+1) l)=List.drop (k+1) l:=List.take_of_length_le (by simp);rw[e];exact List.take_of_length_le (by simp;omega)
theorem QCr(f:Int->Int->Int)(x:List Int):∀ d:List Int,(d.flatMap λa=>x.map (f a)).length=d.length*x.length
 | []=>by simp
 | a::d=>by rw[List.flatMap_cons,List.length_append,QCr f x d,List.length_map,List.length_cons,Nat.add_mul];omega
theorem QAg(d x:List Int):(Zn d x).1.2.2.length<=36:=by
 unfold Zn
 split
 ·rename_i h;simp only[Bool.and_eq_true]at h;have h1:=kQ h.1;have h2:=kQ h.2;simp only;rw[QCr (λa b=>(Q7 a b).1) x d];exact Nat.le_trans (Nat.mul_le_mul h1 h2) (by omega)
 ·simp
theorem QN5(o:aH)(x d:List Int):(ZU o x d).2.1.length<=36:=by
 unfold ZU
 split
 ·rename_i h;simp only[Bool.and_eq_true]at h
  split
  ·exact QAg _ _
  ·split
   ·exact Nat.le_trans (Y3 h.2) (by omega)
   ·split
    ·simp
    ·split
     ·exact QAg _ _
     ·simp
 ·simp
theorem uB:∀(ops:List aH)(rows:List (List Int))(d:List Int),sz (Q2 ops rows d).1<=37*ops.length
 | [],rows,d=>by simp[Q2]
 | o::os,[],d=>by simp only[Q2];exact Nat.zero_le _
 | o::os,r::rs,d=>by
  have h1:=QN5 o r (Q2 os rs d).2.1;have h2:=uB os rs d;simp only[Q2,Jq,ZK,List.length_cons];omega
theorem QMT{ops:List aH}{rows:List (List Int)}{k:Nat}(hk:k<ops.length)(hr:k<rows.length) :
  YE ops k ((rows.drop k).take (ops.length-k))=(QH (ar [] rows k) (ar b5 ops k).2.1&&YE ops (k+1) ((rows.drop (k+1)).take (ops.length-(k+1)))):=by
 rw[List.drop_eq_getElem_cons hr,show ops.length-k=(ops.length-(k+1))+1 by omega,List.take_succ_cons,YE];have:ar [] rows k=rows[k]:=An (List.getElem?_eq_getElem hr) _;rw[<- this];unfold YQ;rw[if_pos hk]
end Go.Proofs.YtdplaepmjogjjaaGreat.Am
namespace Go.Proofs.YtdplaepmjogjjaaGreat.Am
open Go Sz
theorem QCs{nb:Int}:∀ {l:List Qc},Y9 nb l=true->∀ x,x∈l->QU x=true/\∀ i,i∈x.2.1->0<=i.2/\i.2<nb
 | [],_,x,hx=>by cases hx
 | s::r,h,x,hx=>by
  simp only[Y9,Bool.and_eq_true,List.all_eq_true,Za]at h
  rcases List.mem_cons.1 hx with rfl | hx
  ·exact⟨h.1.1.1,λi hi=>by have:=h.1.2 i hi;omega⟩
  ·exact QCs h.2 x hx
theorem Qso{p:Qk}{s:Int}(he:ZJ p s=true):∃ k:Nat,s=k/\k<p.2.1.length/\p.2.1.length<=4/\p.2.2.1.length+1=p.2.1.length/\p.2.2.2.length+1=p.2.1.length/\QU (ar Qz p.2.1 k)=true/\
  0<=(Ql p s).2/\(Ql p s).2<p.1.length/\((Ql p s).1=1->0<k)/\((Ql p s).1=3->k+1<p.2.1.length)/\((Ql p s).1=4->k+1<p.2.1.length)/\((Ql p s).1=7->0<k)/\
  ((Ql p s).1=1\/(Ql p s).1=2\/(Ql p s).1=3\/(Ql p s).1=4\/(Ql p s).1=5\/(Ql p s).1=6\/(Ql p s).1=7\/(Ql p s).1=8):=by
 simp only[ZJ,Bool.and_eq_true]at he;obtain⟨⟨h1,h2⟩,h3⟩:=he;simp only[Zk,Bool.and_eq_true,Za,beq_iff_eq]at h1;have kA:=Za.1 h2;obtain⟨k,rfl⟩:=Int.eq_ofNat_of_zero_le kA.1;have hk:k<p.2.1.length:=by omega
 have hg:=QCs h1.2.2 _ (Jz hk Qz);have gT:(Ql p (k:Int)).1=1\/(Ql p (k:Int)).1=2\/(Ql p (k:Int)).1=3\/(Ql p (k:Int)).1=4\/(Ql p (k:Int)).1=5\/(Ql p (k:Int)).1=6\/(Ql p (k:Int)).1=7\/(Ql p (k:Int)).1=8:=by
  generalize(Ql p (k:Int)).1=kd at h3;unfold Ji at h3;simp only at h3
  split at h3
  ·omega
  split at h3
  ·omega
  split at h3
  ·omega
  split at h3
  ·omega
  split at h3
  ·omega
  split at h3
  ·omega
  ·cases h3
 have hM:0<=(Ql p (k:Int)).2/\(Ql p (k:Int)).2<p.1.length:=by
  have hn:Ql p (k:Int)=rj (ar Qz p.2.1 k):=by
   unfold Ql;rw[if_pos h2,Int.toNat_natCast]
  rw[hn]at gT ⊢;unfold rj at gT ⊢
  split
  ·rename_i pk;have pk:=Za.1 pk;exact hg.2 _ (Jz (by omega) eF)
  ·rename_i pk;rw[if_neg pk]at gT;simp at gT
 refine⟨k,rfl,hk,by omega,by omega,by omega,hg.1,hM.1,hM.2,?_,?_,?_,?_,gT⟩
 all_goals
  intro zb;rw[zb]at h3;simp[Ji]at h3;omega
theorem Qyb{p:Qk}{s:Int}(h:ZJ p s=false):ZM p s=p:=by unfold ZM;rw[if_neg (by rw[h];simp)]
theorem QyJ{p:Qk}{k:Nat}{x y:Qc}{a b:List Qd}(h:ZJ p (k:Int)=true)(hx:x=ar Qz p.2.1 k)(hy:ZO p k x (Ql p (k:Int))=(y,a,b))(pk:y.1=x.1) :
  ZM p (k:Int)=(p.1,p.2.1.set k (y.1+1,y.2),a,b):=by
 unfold ZM;rw[if_pos h];simp only[Int.toNat_natCast];rw[show ar Qz (QA p) k=x from hx.symm,hy];simp only;rw[pk];rfl
theorem QEU(p:Qk)(s:Int):(ZM p s).2.1.length=p.2.1.length:=by
 unfold ZM;split
 ·simp
 ·rfl
theorem Mx(s:Qc)(m:Int)(x t:List Int):(ZV s m x t).1=s.1:=by unfold ZV;split <;> rfl
theorem Qw5(s:Qc)(m:Int):(Yl s m).1=s.1:=by unfold Yl;simp only;split <;> rfl
theorem Cy(s:Qc)(m:Int)(t:List Int):(ZC s m t).1=s.1:=by unfold ZC;simp only;split <;> rfl
theorem pi1{p:Qk}{k:Nat}{x:Qc}{i:bu}(h:i.1=1):ZO p k x i=(kL x (Zg (ar Qx (Qq p) (k-1))).2.1.2,(Qq p).set (k-1) (Zg (ar Qx (Qq p) (k-1))).1,Qr p):=by
 unfold ZO;simp only[h];simp
theorem My{p:Qk}{k:Nat}{x:Qc}{i:bu}(h:i.1=2):ZO p k x i=(ZV x i.2 (if k=0 then(ar QV (QB p) i.2.toNat).1 else sX x) (ar QV (QB p) i.2.toNat).2,Qq p,Qr p):=by
 unfold ZO;simp only[h];simp
theorem pi3{p:Qk}{k:Nat}{x:Qc}{i:bu}(h:i.1=3):ZO p k x i=(kM x [],(Qq p).set k (Z6 (ar Qx (Qq p) k) (i.2,sY x)).1,Qr p):=by
 unfold ZO;simp only[h];simp
theorem pi4{p:Qk}{k:Nat}{x:Qc}{i:bu}(h:i.1=4):ZO p k x i=(kN x (Zg (ar Qx (Qr p) k)).2.1.2,Qq p,(Qr p).set k (Zg (ar Qx (Qr p) k)).1):=by
 unfold ZO;simp only[h];simp
theorem pi5{p:Qk}{k:Nat}{x:Qc}{i:bu}(h:i.1=5):ZO p k x i=(Yl x i.2,Qq p,Qr p):=by
 unfold ZO;simp only[h];simp
theorem Cz{p:Qk}{k:Nat}{x:Qc}{i:bu}(h:i.1=6):ZO p k x i=((if k=0 then gr (ZC x i.2 (ar QV (QB p) i.2.toNat).2) [] else ZC x i.2 (ar QV (QB p) i.2.toNat).2),Qq p,Qr p):=by
 unfold ZO;simp only[h];simp
theorem pi7{p:Qk}{k:Nat}{x:Qc}{i:bu}(h:i.1=7):ZO p k x i=(gr x [],Qq p,(Qr p).set (k-1) (Z6 (ar Qx (Qr p) (k-1)) (i.2,sD x)).1):=by
 unfold ZO;simp only[h];simp
theorem pi8{p:Qk}{k:Nat}{x:Qc}{i:bu}(h:i.1=8):ZO p k x i=(x,Qq p,Qr p):=by
 unfold ZO;simp only[h];simp
end Go.Proofs.YtdplaepmjogjjaaGreat.Am

namespace Go.Proofs.YtdplaepmjogjjaaGreat.Am
open Go Go.RowKit Go.Proofs.YtdplaepmjogjjaaGreat
set_option linter.all false
set_option maxHeartbeats 2000000
noncomputable section
variable (K:aB->Prop)
def uC(t:Qc):aB:=⟨(.a [(aL t.1),(.r QP 0 0 ((t.2.1).length)),(.r aM 1 0 ((t.2.2.1).length)),(bE t.2.2.2.1),(bE t.2.2.2.2.1),(.r QE 2 0 ((t.2.2.2.2.2.1).length)),(.r [(.sl [TI])] 3 0 ((t.2.2.2.2.2.2.1).length)),(.r [TI] 4 0 ((t.2.2.2.2.2.2.2.1).length)),(.r [TI] 5 0 ((t.2.2.2.2.2.2.2.2.1).length)),(.r [TI] 6 0 ((t.2.2.2.2.2.2.2.2.2.1).length)),(.r [TI] 7 0 ((t.2.2.2.2.2.2.2.2.2.2.1).length)),(.r [(.sl [TI])] 8 0 ((t.2.2.2.2.2.2.2.2.2.2.2.1).length)),(aL t.2.2.2.2.2.2.2.2.2.2.2.2.1),(bE t.2.2.2.2.2.2.2.2.2.2.2.2.2)]),[(.sl 175 QP (.dp 0 true []) t.2.1),(.sl 134 aM (.dp 0 true []) t.2.2.1),(.sl 108 QE (.dp 0 true []) t.2.2.2.2.2.1),(.sl 106 [(.sl [TI])] (.dp 0 true []) t.2.2.2.2.2.2.1),(.sl 3 [TI] (.dp 0 true []) t.2.2.2.2.2.2.2.1),(.sl 3 [TI] (.dp 0 true []) t.2.2.2.2.2.2.2.2.1),(.sl 3 [TI] (.dp 0 true []) t.2.2.2.2.2.2.2.2.2.1),(.sl 3 [TI] (.dp 0 true []) t.2.2.2.2.2.2.2.2.2.2.1),(.sl 106 [(.sl [TI])] (.dp 0 true []) t.2.2.2.2.2.2.2.2.2.2.2.1)],[],false,[]⟩
def uD:aI:=Qg 70 [(.a Qe)] λx=>(some (Qs (α:=Qc) x.1),uC (id (α:=Qc) x.1))
def Mz:aF:=⟨[Ks,xV,Jy,KC],true⟩
def QEi:af :=
 (ag [(.ae [aw 24 .lss 23 22]),(.cond 24 .skip (.exit 0)),(.block 1 (ag [(.ae [a0 25 21 23 QE,a8 26 25 2,aC 5 (.new 108 (bG QE)),aU 5 26 2]),(.draw [ak 27 3 5,an 28 27 1,ak 29 5 0,an 30 29 1,ak 31 5 1,an 32 31 1,aD 33 103 [32],aC 34 (.build (bG QE) [(0,1,30),(1,1,33)]),aC 35 (.bW 108 QE [34]),aC 36 (.app 28 35 108 QE),ak 37 3 5,aU 37 36 1] [(0,6),(1,6),(2,6),(3,6),(0,8),(1,8)])])),(.ae [aw 38 .add 23 (aq 1),ab 23 38])])
def Qse:List (Nat × Md):=[(1,.b (dG 14)),(2,.b [.d,.f,.f,.d,.d,.f,.f,.f,.f,.f,.f,.f,.d,.d]),(3,.b [.d,.f,.f,.d,.d,.p 108,.f,.f,.f,.f,.f,.f,.d,.d]),(21,.one .d),(22,.one .d),(23,.one .d)]
def QBC:af :=
 (ag [(.ae [ak 39 1 6,an 40 39 1,aD 41 103 [40],ak 42 3 6,aU 42 41 1]),(.draw [ak 43 1 7,an 44 43 1,aD 45 104 [44],ak 46 1 8,an 47 46 1,aD 48 104 [47],ak 49 1 9,an 50 49 1,aD 51 104 [50],ak 52 1 10,an 53 52 1,aD 54 104 [53],ak 55 3 7,aU 55 45 1,ak 56 3 8,aU 56 48 1,ak 57 3 9,aU 57 51 1,ak 58 3 10,aU 58 54 1] [(2,3),(2,4),(2,6),(5,6),(2,7),(5,7),(2,9),(5,9),(8,9),(2,10),(5,10),(8,10),(5,12),(8,12),(11,12)]),(.ae [ak 59 1 11,a8 60 59 3,aD 61 166 [60],ak 62 3 11,aU 62 61 3]),(.ae [a8 63 3 14,aU 2 63 14]),.ret])
def QTW:af :=
 (ag [(.ae [aC 1 (.box 39 0 14),aC 2 (.new 39 (bG Qe))]),(.draw [ak 6 1 0,an 7 6 1,aC 8 (.bW 175 QP []),ak 9 1 1,an 10 9 1,aC 11 (.app 8 10 175 QP),ak 12 1 2,an 13 12 1,aD 14 165 [13],ak 15 1 3,an 16 15 1,ak 17 1 4,an 18 17 1,aC 19 (.build (bG Qe) [(0,1,7),(1,1,11),(2,1,14),(3,1,16),(4,1,18)]),aC 3 (.new 39 (bG Qe)),aU 3 19 14] [(0,2),(1,2),(2,3),(2,4),(0,5),(1,5),(2,6),(5,6),(2,7),(5,7),(0,8),(1,8),(2,9),(5,9),(8,9),(2,10),(5,10),(8,10),(2,11),(5,11),(8,11),(2,12),(5,12),(8,12),(0,14),(1,14),(2,14),(3,14),(4,14),(5,14),(6,14),(7,14),(8,14),(9,14),(10,14),(11,14),(12,14)]),(ag [(.ae [ak 20 1 5,an 21 20 1,ba 22 21,ab 23 (aq 0)]),(.block 0 (.loop Qse QEi))]),QBC])
def Qvi:List (bn × Md):=[(.l 2 14 true,.b [.d,.p 175,.p 134,.d,.d,.p 108,.p 106,.p 3,.p 3,.p 3,.p 3,.p 106,.d,.d])]
def Qtn:Qb:=TQ 0 0 Qvi K
def QJc:Qb:=aY (aO Mz 0 QBC (Qtn K)) (Qtn K)
def QPC:Qb:=a7 0 (QJc K)
def CA(s:Qc)(x:Int)(t1:List bu)(t2:List aH)(t5:List QD):Prop:=Loop Mz 0 Qse QEi (QPC K) ⟨[(1,(.p 0 0 0)),(2,(.p 1 0 0)),(3,(.p 5 0 0)),(21,(bg QE s.2.2.2.2.2.1)),(22,(aL ((s.2.2.2.2.2.1).length:Int))),(23,(aL x))],[(0,(.box (aS.cells Qe s))),(1,(.box [(aL 0),(.n QP),(.n aM),(bE false),(bE false),(.n QE),(.n [(.sl [TI])]),(.n [TI]),(.n [TI]),(.n [TI]),(.n [TI]),(.n [(.sl [TI])]),(aL 0),(bE false)])),(2,(.sl 175 QP (.dp 0 true []) t1)),(3,(.sl 134 aM (.dp 0 true []) t2)),(4,(.sl 108 QE (.dp 0 true []) t5)),(5,(.box [(aL s.1),(.r QP 2 0 t1.length),(.r aM 3 0 t2.length),(bE s.2.2.2.1),(bE s.2.2.2.2.1),(.r QE 4 0 t5.length),(.n [(.sl [TI])]),(.n [TI]),(.n [TI]),(.n [TI]),(.n [TI]),(.n [(.sl [TI])]),(aL 0),(bE false)]))],6⟩
theorem QAY(s:Qc)(x:Int)(t1:List bu)(t2:List aH)(t5:List QD) (h :
 (aJ (decide (x<((s.2.2.2.2.2.1).length:Int))) ((0<=x/\Int.toNat x<(s.2.2.2.2.2.1).length)/\(((Qs (α:=List (List Int)) ((ar QS s.2.2.2.2.2.1 (Int.toNat x)).2))/\((t5.length=t5.length\/t5.length+1<=t5.length)/\t5.length+1<=ca))/\(CA K s (aG (x+1)) (List.take t1.length t1) (List.take t2.length t2) (List.take (t5.length+1) ((List.take t5.length t5)++([((ar QS s.2.2.2.2.2.1 (Int.toNat x)).1,(List.take ((id (α:=List (List Int)) ((ar QS s.2.2.2.2.2.1 (Int.toNat x)).2)).length) (List.drop 0 (id (α:=List (List Int)) ((ar QS s.2.2.2.2.2.1 (Int.toNat x)).2)))))])))))) ((Qs (α:=List (List Int)) s.2.2.2.2.2.2.1)/\(((Qs (α:=List Int) s.2.2.2.2.2.2.2.1)/\((Qs (α:=List Int) s.2.2.2.2.2.2.2.2.1)/\((Qs (α:=List Int) s.2.2.2.2.2.2.2.2.2.1)/\(Qs (α:=List Int) s.2.2.2.2.2.2.2.2.2.2.1))))/\((Qs (α:=QO) s.2.2.2.2.2.2.2.2.2.2.2)/\K (uC (s.1,(List.take t1.length t1),(List.take t2.length t2),s.2.2.2.1,s.2.2.2.2.1,(List.take t5.length t5),(List.take ((id (α:=List (List Int)) s.2.2.2.2.2.2.1).length) (id (α:=List (List Int)) s.2.2.2.2.2.2.1)),(List.take ((id (α:=List Int) s.2.2.2.2.2.2.2.1).length) (id (α:=List Int) s.2.2.2.2.2.2.2.1)),(List.take ((id (α:=List Int) s.2.2.2.2.2.2.2.2.1).length) (id (α:=List Int) s.2.2.2.2.2.2.2.2.1)),(List.take ((id (α:=List Int) s.2.2.2.2.2.2.2.2.2.1).length) (id (α:=List Int) s.2.2.2.2.2.2.2.2.2.1)),(List.take ((id (α:=List Int) s.2.2.2.2.2.2.2.2.2.2.1).length) (id (α:=List Int) s.2.2.2.2.2.2.2.2.2.2.1)),(List.take (((id (α:=QO) s.2.2.2.2.2.2.2.2.2.2.2).1).length) ((id (α:=QO) s.2.2.2.2.2.2.2.2.2.2.2).1)),(id (α:=QO) s.2.2.2.2.2.2.2.2.2.2.2).2.1,(id (α:=QO) s.2.2.2.2.2.2.2.2.2.2.2).2.2))))))):CA K s x t1 t2 t5 :=
 Loop.of h
theorem QRg(s:Qc)(hp:Qs (α:=Qc) s):aK Tryz.prog 70 [(.a (aS.cells Qe s))] (uC (id (α:=Qc) s)):=by
 refine bz Mz QTW Qvi 0 0 64 uD (kc QMz (kc Kx (kc nR (kc QQ7 kn)))) (λK =>
 ((((0=0\/0+(s.2.1).length<=0)/\0+(s.2.1).length<=ca)/\(Qs (α:=List aH) s.2.2.1))/\(CA K s 0 (List.take (0+(s.2.1).length) (s.2.1:List bu)) (List.take ((id (α:=List aH) s.2.2.1).length) (id (α:=List aH) s.2.2.1)) ([]:List QD)))) (λhb=>?_)
 have ij:Sz.sz s<=2147483648:=hp;have hs:=ZL s;have l1:=Yo (Qt s);simp only[id,List.drop_zero,List.take_length,true_or,true_and,Nat.zero_add];refine⟨⟨by rw[Ze];((try simp only[bT,Qt,aE,Qn,Qp,Qj,QC,sX,sY,sG,sD,Qy,Qv,bf,QB,QA,Qq,Qr]at *);omega),by unfold Qs;((try simp only[bT,Qt,aE,Qn,Qp,Qj,QC,sX,sY,sG,sD,Qy,Qv,bf,QB,QA,Qq,Qr]at *);omega)⟩,?_⟩;refine YC (l:=s.2.2.2.2.2.1) (A:=λi v=>CA (λr'=>r'=uC (id (α:=Qc) s)) s i s.2.1 s.2.2.1 v) (Q:=λz=>uC (s.1,s.2.1,s.2.2.1,s.2.2.2.1,s.2.2.2.2.1,z,s.2.2.2.2.2.2)=uC (id (α:=Qc) s)) (by((try simp only[bT,Qt,aE,Qn,Qp,Qj,QC,sX,sY,sG,sD,Qy,Qv,bf,QB,QA,Qq,Qr]at *);omega)) (λk x v hk hl hg hv hx ih=>?_) (λhq=>?_) (au rfl)
 ·refine QAY _ _ _ _ _ _ ⟨λ_=>?_,λh=>by simp at h;omega⟩;simp only[QR,QL]at hx;rw[Int.toNat_natCast,hg,dL (by omega),Q8,rF,List.take_length,List.take_length];exact⟨⟨by omega,hk⟩,⟨by unfold Qs;omega,room (by omega)⟩,ih⟩
 ·refine QAY _ _ _ _ _ _ ⟨λh=>by simp at h,λ_=>?_⟩;simp only[id,List.drop_zero,List.take_length,true_or,true_and,Nat.zero_add];exact⟨by unfold Qs;((try simp only[bT,Qt,aE,Qn,Qp,Qj,QC,sX,sY,sG,sD,Qy,Qv,bf,QB,QA,Qq,Qr]at *);omega),⟨by unfold Qs;((try simp only[bT,Qt,aE,Qn,Qp,Qj,QC,sX,sY,sG,sD,Qy,Qv,bf,QB,QA,Qq,Qr]at *);omega),by unfold Qs;((try simp only[bT,Qt,aE,Qn,Qp,Qj,QC,sX,sY,sG,sD,Qy,Qv,bf,QB,QA,Qq,Qr]at *);omega),by unfold Qs;((try simp only[bT,Qt,aE,Qn,Qp,Qj,QC,sX,sY,sG,sD,Qy,Qv,bf,QB,QA,Qq,Qr]at *);omega),by unfold Qs;((try simp only[bT,Qt,aE,Qn,Qp,Qj,QC,sX,sY,sG,sD,Qy,Qv,bf,QB,QA,Qq,Qr]at *);omega)⟩,by unfold Qs;simp only[QR,QL,QY];((try simp only[bT,Qt,aE,Qn,Qp,Qj,QC,sX,sY,sG,sD,Qy,Qv,bf,QB,QA,Qq,Qr]at *);omega),by first | exact hq | trivial⟩
theorem CB:Qf Tryz.prog uD:=Qi λx h=>QRg x.1 h
def uE(t:Qc):aB:=⟨(.a [(aL t.1),(bg QP t.2.1),(bg aM t.2.2.1),(bE t.2.2.2.1),(bE t.2.2.2.2.1),(.r QE 0 0 ((t.2.2.2.2.2.1).length)),(bg [(.sl [TI])] t.2.2.2.2.2.2.1),(bg [TI] t.2.2.2.2.2.2.2.1),(bg [TI] t.2.2.2.2.2.2.2.2.1),(bg [TI] t.2.2.2.2.2.2.2.2.2.1),(bg [TI] t.2.2.2.2.2.2.2.2.2.2.1),(bg [(.sl [TI])] t.2.2.2.2.2.2.2.2.2.2.2.1),(aL t.2.2.2.2.2.2.2.2.2.2.2.2.1),(bE t.2.2.2.2.2.2.2.2.2.2.2.2.2)]),[(.sl 108 QE .ow t.2.2.2.2.2.1)],[],true,[]⟩
def uF:aI:=Qg 61 [(.a Qe)] λx=>(some (Qs (α:=Qc) x.1),uE (id (α:=Qc) x.1))
def MA:aF:=⟨[KD,KG],false⟩
def QwD:af :=
 (ag [(ag [(.ae [ab 17 4,ak 18 1 5,an 19 18 1,ba 20 19,aw 21 .lss 17 20]),(.cond 21 .skip (.exit 0))]),(.block 1 (.draw [ak 24 3 5,an 25 24 1,ak 26 1 5,an 27 26 1,ab 28 4,a0 29 27 28 QE,ak 30 29 0,an 31 30 1,ak 32 1 5,an 33 32 1,ab 34 4,a0 35 33 34 QE,ak 36 35 1,an 37 36 1,aD 38 156 [37],aC 39 (.build (bG QE) [(0,1,31),(1,1,38)]),aC 40 (.bW 108 QE [39]),aC 41 (.app 25 40 108 QE),ak 42 3 5,aU 42 41 1] [(0,14),(1,14),(2,14),(3,14),(5,14),(6,14),(7,14),(0,16),(1,16)])),(.ae [ab 22 4,aw 23 .add 22 (aq 1),ab 4 23])])
def Qvo:List (Nat × Md):=[(1,.b (dG 14)),(2,.b (dG 14)),(3,.b [.d,.d,.d,.d,.d,.f,.d,.d,.d,.d,.d,.d,.d,.d]),(4,.one .d)]
def QyT:af :=
 (ag [(.ae [ak 43 1 6,an 44 43 1,aD 45 156 [44],ak 46 3 6,aU 46 45 1]),(.ae [aC 47 (.bW 3 [TI] []),ak 48 1 7,an 49 48 1,aC 50 (.app 47 49 3 [TI]),ak 51 3 7,aU 51 50 1]),(.ae [aC 52 (.bW 3 [TI] []),ak 53 1 8,an 54 53 1,aC 55 (.app 52 54 3 [TI]),ak 56 3 8,aU 56 55 1]),(.ae [aC 57 (.bW 3 [TI] []),ak 58 1 9,an 59 58 1,aC 60 (.app 57 59 3 [TI]),ak 61 3 9,aU 61 60 1]),(.ae [aC 62 (.bW 3 [TI] []),ak 63 1 10,an 64 63 1,aC 65 (.app 62 64 3 [TI]),ak 66 3 10,aU 66 65 1]),(.ae [ak 67 1 11,ak 68 67 0,an 69 68 1,aD 70 156 [69],ak 71 3 11,ak 72 71 0,aU 72 70 1]),(.ae [a8 73 3 14,aU 2 73 14]),.ret])
def QMo:af :=
 (ag [(.ae [aC 1 (.box 39 0 14),aC 2 (.new 39 (bG Qe))]),(.ae [a8 5 1 14,aC 3 (.new 39 (bG Qe)),aU 3 5 14]),(.ae [ak 6 1 2,an 7 6 1,aD 8 155 [7],ak 9 3 2,aU 9 8 1]),(.ae [aC 10 (.bW 175 QP []),ak 11 1 1,an 12 11 1,aC 13 (.app 10 12 175 QP),ak 14 3 1,aU 14 13 1]),(.ae [aC 15 (.bW 108 QE []),ak 16 3 5,aU 16 15 1]),(ag [(.ae [ab 4 (aq 0)]),(.block 0 (.loop Qvo QwD))]),QyT])
def QrD:List (bn × Md):=[(.l 2 14 true,.b [.d,.d,.d,.d,.d,.o 108,.d,.d,.d,.d,.d,.d,.d,.d])]
def QDe:Qb:=TQ 0 0 QrD K
def QYn:Qb:=aY (aO MA 0 QyT (QDe K)) (QDe K)
def QNm:Qb:=a7 0 (QYn K)
def CC(s:Qc)(i:Int)(x5:List QD):Prop:=Loop MA 0 Qvo QwD (QNm K) ⟨[(1,(.p 0 0 0)),(2,(.p 1 0 0)),(3,(.p 3 0 0)),(4,(aL i))],[(0,(.box (aS.cells Qe s))),(1,(.box (aS.cells Qe ((0:Int),[],[],false,false,[],[],[],[],[],[],[],(0:Int),false)))),(2,(.sl 108 QE .ow x5)),(3,(.box [(aL s.1),(bg QP (List.take (0+(s.2.1).length) (List.drop 0 (s.2.1:List bu)))),(bg aM (id (α:=List aH) s.2.2.1)),(bE s.2.2.2.1),(bE s.2.2.2.2.1),(.r QE 2 0 x5.length),(bg [(.sl [TI])] s.2.2.2.2.2.2.1),(bg [TI] s.2.2.2.2.2.2.2.1),(bg [TI] s.2.2.2.2.2.2.2.2.1),(bg [TI] s.2.2.2.2.2.2.2.2.2.1),(bg [TI] s.2.2.2.2.2.2.2.2.2.2.1),(bg [(.sl [TI])] s.2.2.2.2.2.2.2.2.2.2.2.1),(aL s.2.2.2.2.2.2.2.2.2.2.2.2.1),(bE s.2.2.2.2.2.2.2.2.2.2.2.2.2)]))],4⟩
theorem QyW(s:Qc)(i:Int)(x5:List QD) (h :
 (aJ (decide (i<((s.2.2.2.2.2.1).length:Int))) (((0<=i/\Int.toNat i<(s.2.2.2.2.2.1).length)/\((0<=i/\Int.toNat i<(s.2.2.2.2.2.1).length)/\((Qs (α:=List (List Int)) ((ar QS s.2.2.2.2.2.1 (Int.toNat i)).2))/\((x5.length=x5.length\/x5.length+1<=x5.length)/\x5.length+1<=ca))))/\(CC K s (aG (i+1)) (List.take (x5.length+1) ((List.take x5.length x5)++([((ar QS s.2.2.2.2.2.1 (Int.toNat i)).1,(id (α:=List (List Int)) ((ar QS s.2.2.2.2.2.1 (Int.toNat i)).2)))]))))) ((Qs (α:=List (List Int)) s.2.2.2.2.2.2.1)/\(((0=0\/0+(s.2.2.2.2.2.2.2.1).length<=0)/\0+(s.2.2.2.2.2.2.2.1).length<=ca)/\(((0=0\/0+(s.2.2.2.2.2.2.2.2.1).length<=0)/\0+(s.2.2.2.2.2.2.2.2.1).length<=ca)/\(((0=0\/0+(s.2.2.2.2.2.2.2.2.2.1).length<=0)/\0+(s.2.2.2.2.2.2.2.2.2.1).length<=ca)/\(((0=0\/0+(s.2.2.2.2.2.2.2.2.2.2.1).length<=0)/\0+(s.2.2.2.2.2.2.2.2.2.2.1).length<=ca)/\((Qs (α:=List (List Int)) s.2.2.2.2.2.2.2.2.2.2.2.1)/\K (uE (s.1,(List.take (0+(s.2.1).length) (List.drop 0 (s.2.1:List bu))),(id (α:=List aH) s.2.2.1),s.2.2.2.1,s.2.2.2.2.1,(List.take x5.length x5),(id (α:=List (List Int)) s.2.2.2.2.2.2.1),(List.take (0+(s.2.2.2.2.2.2.2.1).length) (List.drop 0 (s.2.2.2.2.2.2.2.1:List Int))),(List.take (0+(s.2.2.2.2.2.2.2.2.1).length) (List.drop 0 (s.2.2.2.2.2.2.2.2.1:List Int))),(List.take (0+(s.2.2.2.2.2.2.2.2.2.1).length) (List.drop 0 (s.2.2.2.2.2.2.2.2.2.1:List Int))),(List.take (0+(s.2.2.2.2.2.2.2.2.2.2.1).length) (List.drop 0 (s.2.2.2.2.2.2.2.2.2.2.1:List Int))),(id (α:=List (List Int)) s.2.2.2.2.2.2.2.2.2.2.2.1),s.2.2.2.2.2.2.2.2.2.2.2.2.1,s.2.2.2.2.2.2.2.2.2.2.2.2.2)))))))))):CC K s i x5 :=
 Loop.of h
theorem QX4(s:Qc)(hp:Qs (α:=Qc) s):aK Tryz.prog 61 [(.a (aS.cells Qe s))] (uE (id (α:=Qc) s)):=by
 refine bz MA QMo QrD 0 0 74 uF (kc QPA (kc QTh kn)) (λK =>
 ((Qs (α:=List aH) s.2.2.1)/\(((0=0\/0+(s.2.1).length<=0)/\0+(s.2.1).length<=ca)/\(CC K s 0 ([]:List QD))))) (λhb=>?_)
 have ij:Sz.sz s<=2147483648:=hp;have hs:=ZL s;have l1:=Yo (Qt s);have l2:=ZK (sX s);have l3:=ZK (sY s);have l4:=ZK (sG s);have l5:=ZK (sD s);simp only[id,List.drop_zero,List.take_length,true_or,true_and,Nat.zero_add];refine⟨by unfold Qs;((try simp only[bT,Qt,aE,Qn,Qp,Qj,QC,sX,sY,sG,sD,Qy,Qv,bf,QB,QA,Qq,Qr]at *);omega),by rw[Ze];((try simp only[bT,Qt,aE,Qn,Qp,Qj,QC,sX,sY,sG,sD,Qy,Qv,bf,QB,QA,Qq,Qr]at *);omega),?_⟩;refine YC (l:=s.2.2.2.2.2.1) (A:=λi v=>CC (λr'=>r'=uE (id (α:=Qc) s)) s i v) (Q:=λz=>uE (s.1,s.2.1,s.2.2.1,s.2.2.2.1,s.2.2.2.2.1,z,s.2.2.2.2.2.2)=uE (id (α:=Qc) s)) (by((try simp only[bT,Qt,aE,Qn,Qp,Qj,QC,sX,sY,sG,sD,Qy,Qv,bf,QB,QA,Qq,Qr]at *);omega)) (λk x v hk hl hg hv hx ih=>?_) (λhq=>?_) (au rfl)
 ·refine QyW _ _ _ _ ⟨λ_=>?_,λh=>by simp at h;omega⟩;simp only[QR,QL]at hx;rw[Int.toNat_natCast,hg,dL (by omega),Q8];exact⟨⟨⟨by omega,hk⟩,⟨by omega,hk⟩,by unfold Qs;omega,room (by omega)⟩,ih⟩
 ·refine QyW _ _ _ _ ⟨λh=>by simp at h,λ_=>?_⟩;simp only[id,List.drop_zero,List.take_length,true_or,true_and,Nat.zero_add];exact⟨by unfold Qs;((try simp only[bT,Qt,aE,Qn,Qp,Qj,QC,sX,sY,sG,sD,Qy,Qv,bf,QB,QA,Qq,Qr]at *);omega),by rw[Ze];((try simp only[bT,Qt,aE,Qn,Qp,Qj,QC,sX,sY,sG,sD,Qy,Qv,bf,QB,QA,Qq,Qr]at *);omega),by rw[Ze];((try simp only[bT,Qt,aE,Qn,Qp,Qj,QC,sX,sY,sG,sD,Qy,Qv,bf,QB,QA,Qq,Qr]at *);omega),by rw[Ze];((try simp only[bT,Qt,aE,Qn,Qp,Qj,QC,sX,sY,sG,sD,Qy,Qv,bf,QB,QA,Qq,Qr]at *);omega),by rw[Ze];((try simp only[bT,Qt,aE,Qn,Qp,Qj,QC,sX,sY,sG,sD,Qy,Qv,bf,QB,QA,Qq,Qr]at *);omega),by unfold Qs;((try simp only[bT,Qt,aE,Qn,Qp,Qj,QC,sX,sY,sG,sD,Qy,Qv,bf,QB,QA,Qq,Qr]at *);omega),by first | exact hq | trivial⟩
theorem CD:Qf Tryz.prog uF:=Qi λx h=>QX4 x.1 h
def po(t:Qc):aB:=⟨(.a [(aL t.1),(.r QP 0 0 ((t.2.1).length)),(.r aM 1 0 ((t.2.2.1).length)),(bE t.2.2.2.1),(bE t.2.2.2.2.1),(.r QE 2 0 ((t.2.2.2.2.2.1).length)),(.r [(.sl [TI])] 3 0 ((t.2.2.2.2.2.2.1).length)),(.r [TI] 4 0 ((t.2.2.2.2.2.2.2.1).length)),(.r [TI] 5 0 ((t.2.2.2.2.2.2.2.2.1).length)),(.r [TI] 6 0 ((t.2.2.2.2.2.2.2.2.2.1).length)),(.r [TI] 7 0 ((t.2.2.2.2.2.2.2.2.2.2.1).length)),(.r [(.sl [TI])] 8 0 ((t.2.2.2.2.2.2.2.2.2.2.2.1).length)),(aL t.2.2.2.2.2.2.2.2.2.2.2.2.1),(bE t.2.2.2.2.2.2.2.2.2.2.2.2.2)]),[(.sl 175 QP (.dp 0 true []) t.2.1),(.sl 134 aM (.dp 0 true []) t.2.2.1),(.sl 108 QE (.dp 0 true []) t.2.2.2.2.2.1),(.sl 106 [(.sl [TI])] (.dp 0 true []) t.2.2.2.2.2.2.1),(.sl 3 [TI] (.dp 0 true []) t.2.2.2.2.2.2.2.1),(.sl 3 [TI] (.dp 0 true []) t.2.2.2.2.2.2.2.2.1),(.sl 3 [TI] (.dp 0 true []) t.2.2.2.2.2.2.2.2.2.1),(.sl 3 [TI] (.dp 0 true []) t.2.2.2.2.2.2.2.2.2.2.1),(.sl 106 [(.sl [TI])] (.dp 0 true []) t.2.2.2.2.2.2.2.2.2.2.2.1)],[],false,[]⟩
def MB:aI:=Qg 30 [(.a Qe),(.c TI),(.c (.sl [TI])),(.c (.sl [TI]))] λx=>(some (JM x.1 x.2.1 x.2.2.1 x.2.2.2.1),po (ZV x.1 x.2.1 x.2.2.1 x.2.2.2.1))
def QHH:aF:=⟨[uD,ud,uh,xL,Jk,yc,xM,Ck,xV,Jy,L3,uc],true⟩
def QQG:af :=
 (ag [(.ae [aC 4 (.box 39 0 14),aC 8 (.new 39 (bG Qe))]),(.ae [a8 19 4 14,aD 20 70 [19],aC 9 (.new 39 (bG Qe)),aU 9 20 14]),(.ae [a8 21 4 14,aD 22 74 [21],aC 10 (.new 77 [(.n aM)]),aU 10 22 1]),(ag [(.ae [a8 23 4 14,aD 24 72 [23],bL 25 24,ab 26 25,.bt 26 false [ab 27 2,a8 28 10 1,aD 29 101 [28],aD 30 100 [27,29],bL 31 30] 32 31,ab 33 32,.bt 33 false [ak 34 4 5,an 35 34 1,ab 36 1,aD 37 71 [35,36],aw 38 .geq 37 (aq 0)] 39 38]),(.cond 39 (ag [(.ae [a8 40 9 14,aU 8 40 14]),.ret]) .skip)]),(ag [(.ae [ak 41 4 3,an 42 41 1,ab 43 42,.bt 43 true [ab 44 3,a8 45 10 1,aD 46 102 [45],aD 47 100 [44,46],bL 48 47] 49 48]),(.cond 49 (ag [(.ae [a8 50 9 14,aU 8 50 14]),.ret]) .skip)]),(.ae [a8 52 10 1,ab 53 2,aD 54 73 [52,53],ab 51 54,bF 55 51 0,bF 56 51 1,ab 11 55,ab 12 56]),(.ae [ab 57 11,ak 58 4 2,an 59 58 1,ba 60 59,a0 61 57 60 [(.sl [TI])],ak 62 61 0,an 63 62 1,ab 13 63]),(.ae [ab 64 11,ab 14 64]),(ag [(.ae [ak 65 4 4,an 66 65 1]),(.cond 66 (.ae [ab 67 11,aC 68 (.fB 67 none (some (aq 1)) [(.sl [TI])]),ab 14 68]) .skip)]),(.draw [ak 69 9 5,an 70 69 1,ab 71 1,ab 72 14,aD 73 103 [72],aC 74 (.build (bG QE) [(0,1,71),(1,1,73)]),aC 75 (.bW 108 QE [74]),aC 76 (.app 70 75 108 QE),ak 77 9 5,aU 77 76 1] [(0,4),(1,4),(0,6),(1,6)]),(.ae [ak 78 9 7,aU 78 (.k (.n [TI])) 1]),(.ae [ak 79 9 11,ak 80 79 2,an 81 80 1,ab 82 81,.bt 82 false [ab 83 12] 84 83,ak 85 9 11,ak 86 85 2,aU 86 84 1]),(ag [(.ae [ak 87 4 3,an 88 87 1,bL 89 88]),(.cond 89 (ag [(.ae [ab 90 13,aD 91 104 [90],ak 92 9 8,aU 92 91 1]),(.ae [a8 93 9 14,aU 8 93 14]),.ret]) .skip)]),(.ae [ab 95 13,ab 96 3,aD 97 105 [95,96],ab 94 97,bF 98 94 0,bF 99 94 1,ab 15 98,ab 16 99]),(.ae [ak 101 9 11,ak 102 101 1,an 103 102 1,ab 104 15,aD 105 106 [103,104],ab 100 105,bF 106 100 0,bF 107 100 1,ab 17 106,ab 18 107]),(.ae [ab 108 17,ak 109 9 11,ak 110 109 1,aU 110 108 1]),(.ae [ak 111 9 11,ak 112 111 2,an 113 112 1,ab 114 113,.bt 114 false [ab 115 16] 116 115,ab 117 116,.bt 117 false [ab 118 18] 119 118,ak 120 9 11,ak 121 120 2,aU 121 119 1]),(.ae [a8 122 9 14,aU 8 122 14]),.ret])
def QPh:List (bn × Md):=[(.l 8 14 true,.b [.d,.p 175,.p 134,.d,.d,.p 108,.p 106,.p 3,.p 3,.p 3,.p 3,.p 106,.d,.d])]
theorem QV3(s:Qc)(m:Int)(x:List Int)(t:List Int)(hp:JM s m x t):aK Tryz.prog 30 [(.a (aS.cells Qe s)),(.c TI m),(.c (.sl [TI]) x),(.c (.sl [TI]) t)] (po (ZV s m x t)):=by
 refine bz QHH QQG QPh 0 0 123 MB (kc CB (kc Bg (kc Bn (kc I6 (kc JP (kc K7 (kc I7 (kc QvG (kc Kx (kc nR (kc QUN (kc A8 kn)))))))))))) (λK =>
 let z1:=id (α:=Qc) s
 let z3:=JY (Zm s) x
 let z2:=ar ([]:List Int) (z3.1) (0+(Int.toNat ((s.2.2.1).length:Int)))
 let z4:=List.take ((z1.2.2.2.2.2.2.2.2.2.2.2.1).length) (z1.2.2.2.2.2.2.2.2.2.2.2.1)
 let z5:=List.take ((z1.2.2.2.2.2.2.2.2.2.2.1).length) (z1.2.2.2.2.2.2.2.2.2.2.1)
 let z6:=List.take ((z1.2.2.2.2.2.2.2.2.2.1).length) (z1.2.2.2.2.2.2.2.2.2.1)
 let z8:=List.take ((z1.2.2.2.2.2.2.1).length) (z1.2.2.2.2.2.2.1)
 let z9:=List.take ((z1.2.2.2.2.2.1).length) (z1.2.2.2.2.2.1)
 let eW:=List.take ((z1.2.2.1).length) (z1.2.2.1)
 let dQ:=List.take ((z1.2.2.2.2.2.2.2.2.1).length) (z1.2.2.2.2.2.2.2.2.1)
 let gx:=List.take ((z1.2.1).length) (z1.2.1)
 let gy:=Q4 (z1.2.2.2.2.2.2.2.2.2.2.2.2.1) ((Z7 z2 t).1)
 let gU:=List.take (Int.toNat 1-Int.toNat 0) (List.drop 0 (z3.1))
 let z7:=id (α:=List (List Int)) gU
 let gV:=List.take ((id (α:=List Int) z2).length) (id (α:=List Int) z2)
 let mw:=List.take ((z1.2.2.2.2.2.2.2.1).length) (z1.2.2.2.2.2.2.2.1)
 let my:=List.take ((z3.1).length) (List.drop 0 (z3.1))
 let eX:=id (α:=List (List Int)) my
 ((Qs (α:=Qc) s)/\(aJ (((!(QU s))||(!(QH x (ZN (Zm s)))))||(decide ((QJ s.2.2.2.2.2.1 m)>=0))) (K (po (z1.1,gx,eW,z1.2.2.2.1,z1.2.2.2.2.1,z9,z8,mw,dQ,z6,z5,z4,z1.2.2.2.2.2.2.2.2.2.2.2.2.1,z1.2.2.2.2.2.2.2.2.2.2.2.2.2))) (aJ (s.2.2.2.1&&(!(QH t (Zw (Zm s))))) (K (po (z1.1,gx,eW,z1.2.2.2.1,z1.2.2.2.2.1,z9,z8,mw,dQ,z6,z5,z4,z1.2.2.2.2.2.2.2.2.2.2.2.2.1,z1.2.2.2.2.2.2.2.2.2.2.2.2.2))) (((0<=((s.2.2.1).length:Int)/\Int.toNat ((s.2.2.1).length:Int)<(z3.1).length)/\((0+(Int.toNat ((s.2.2.1).length:Int)))<(z3.1).length))/\(aJ s.2.2.2.2.1 (((0:Int)<=0/\(0:Int)<=1/\1<=(((z3.1).length:Nat):Int))/\(((Qs (α:=List (List Int)) gU)/\(((z1.2.2.2.2.2.1).length=(z1.2.2.2.2.2.1).length\/(z1.2.2.2.2.2.1).length+1<=(z1.2.2.2.2.2.1).length)/\(z1.2.2.2.2.2.1).length+1<=ca))/\(aJ (!s.2.2.2.1) ((Qs (α:=List Int) z2)/\K (po (z1.1,gx,eW,z1.2.2.2.1,z1.2.2.2.2.1,(List.take ((z1.2.2.2.2.2.1).length+1) (z9++([(m,(List.take (z7.length) (List.drop 0 z7)))]))),z8,([]:List Int),gV,z6,z5,z4,z1.2.2.2.2.2.2.2.2.2.2.2.2.1,((z1.2.2.2.2.2.2.2.2.2.2.2.2.2)||(z3.2))))) (K (po (z1.1,gx,eW,z1.2.2.2.1,z1.2.2.2.2.1,(List.take ((z1.2.2.2.2.2.1).length+1) (z9++([(m,(List.take (z7.length) (List.drop 0 z7)))]))),z8,([]:List Int),dQ,z6,z5,z4,gy.1,((((z1.2.2.2.2.2.2.2.2.2.2.2.2.2)||(z3.2))||((Z7 z2 t).2))||(gy.2)))))))) (((Qs (α:=List (List Int)) my)/\(((z1.2.2.2.2.2.1).length=(z1.2.2.2.2.2.1).length\/(z1.2.2.2.2.2.1).length+1<=(z1.2.2.2.2.2.1).length)/\(z1.2.2.2.2.2.1).length+1<=ca))/\(aJ (!s.2.2.2.1) ((Qs (α:=List Int) z2)/\K (po (z1.1,gx,eW,z1.2.2.2.1,z1.2.2.2.2.1,(List.take ((z1.2.2.2.2.2.1).length+1) (z9++([(m,(List.take (eX.length) (List.drop 0 eX)))]))),z8,([]:List Int),gV,z6,z5,z4,z1.2.2.2.2.2.2.2.2.2.2.2.2.1,((z1.2.2.2.2.2.2.2.2.2.2.2.2.2)||(z3.2))))) (K (po (z1.1,gx,eW,z1.2.2.2.1,z1.2.2.2.2.1,(List.take ((z1.2.2.2.2.2.1).length+1) (z9++([(m,(List.take (eX.length) (List.drop 0 eX)))]))),z8,([]:List Int),dQ,z6,z5,z4,gy.1,((((z1.2.2.2.2.2.2.2.2.2.2.2.2.2)||(z3.2))||((Z7 z2 t).2))||(gy.2))))))))))))) (λhb=>?_)
 conv=>zeta
 have ij:Sz.sz s<=2147483648:=hp;have hs:=ZL s;have l1:=Yo (Qj s);have e:=QwR s m x t;simp only[id,List.drop_zero,List.take_length,true_or,true_and,Nat.zero_add,Int.toNat_natCast];refine⟨hp,λh=>au ?_,λh=>⟨λh2=>au ?_,λh2=>?_⟩⟩
 ·rw[h]at e;rw[Mw (by rw[e];simp)]
 ·rw[h2]at e;rw[Mw (by rw[e];simp)]
 rw[h,h2]at e;have e:Jb s m x t=true:=by simpa using e
 have e2:=e;simp only[Jb,Bool.and_eq_true]at e2;have hm:=YU e2.1.1.1;have cW:=Yu hm;have ei:JY (Zm s) x=QW (aE s) x:=GF hm e2.1.1.2;have tC:=Gu (aE s) x;have hx6:=Y3 e2.1.1.2;have bV:=yx (aE s) x;have da:=QEI e;have oB:=nY [] (QW (aE s) x).1 (aE s).length;have e0:Sz.sz ([]:List Int)=0:=rfl;have t10:Int.toNat 1-Int.toNat 0=1:=rfl;rw[ei];simp only[t10,Q8,List.drop_zero,List.take_length];refine⟨⟨by((try simp only[bT,Qt,aE,Qn,Qp,Qj,QC,sX,sY,sG,sD,Qy,Qv,bf,QB,QA,Qq,Qr]at *);omega),by((try simp only[bT,Qt,aE,Qn,Qp,Qj,QC,sX,sY,sG,sD,Qy,Qv,bf,QB,QA,Qq,Qr]at *);omega)⟩,λhr=>⟨by((try simp only[bT,Qt,aE,Qn,Qp,Qj,QC,sX,sY,sG,sD,Qy,Qv,bf,QB,QA,Qq,Qr]at *);omega),?_⟩,λhr=>?_⟩
 ·have zy:Sz.sz ((QW (aE s) x).1.take 1)<=Sz.sz (QW (aE s) x).1:=by
   first
    | exact Gd _ _
    | exact Nat.le_refl _
  rw[if_pos (show Qp s=true from hr)]at da;refine⟨⟨by unfold Qs;((try simp only[bT,Qt,aE,Qn,Qp,Qj,QC,sX,sY,sG,sD,Qy,Qv,bf,QB,QA,Qq,Qr]at *);omega),by rw[Ze];((try simp only[bT,Qt,aE,Qn,Qp,Qj,QC,sX,sY,sG,sD,Qy,Qv,bf,QB,QA,Qq,Qr]at *);omega)⟩,λhl=>⟨by unfold Qs;((try simp only[bT,Qt,aE,Qn,Qp,Qj,QC,sX,sY,sG,sD,Qy,Qv,bf,QB,QA,Qq,Qr]at *);omega),au ?_⟩,λhl=>au ?_⟩
  ·have hl:s.2.2.2.1=false:=by simpa using hl
   rw[da];simp only[Qn,hl];simp[List.take_of_length_le]
  ·have hl:s.2.2.2.1=true:=by simpa using hl
   rw[da];simp only[Qn,hl];simp[Bool.or_assoc,List.take_of_length_le]
 ·have zy:Sz.sz ((QW (aE s) x).1)<=Sz.sz (QW (aE s) x).1:=by
   first
    | exact Gd _ _
    | exact Nat.le_refl _
  rw[if_neg (by rw[show Qp s=false from hr];simp)]at da;refine⟨⟨by unfold Qs;((try simp only[bT,Qt,aE,Qn,Qp,Qj,QC,sX,sY,sG,sD,Qy,Qv,bf,QB,QA,Qq,Qr]at *);omega),by rw[Ze];((try simp only[bT,Qt,aE,Qn,Qp,Qj,QC,sX,sY,sG,sD,Qy,Qv,bf,QB,QA,Qq,Qr]at *);omega)⟩,λhl=>⟨by unfold Qs;((try simp only[bT,Qt,aE,Qn,Qp,Qj,QC,sX,sY,sG,sD,Qy,Qv,bf,QB,QA,Qq,Qr]at *);omega),au ?_⟩,λhl=>au ?_⟩
  ·have hl:s.2.2.2.1=false:=by simpa using hl
   rw[da];simp only[Qn,hl];simp[List.take_of_length_le]
  ·have hl:s.2.2.2.1=true:=by simpa using hl
   rw[da];simp only[Qn,hl];simp[Bool.or_assoc,List.take_of_length_le]
theorem QHp:Qf Tryz.prog MB:=Qi λx h=>QV3 x.1 x.2.1 x.2.2.1 x.2.2.2.1 h
def uG(t:Qc):aB:=fZ (.a (aS.cells Qe t))
def MC:aI:=Qg 28 [(.a Qe),(.c TI),(.c (.sl [TI])),(.c (.sl [TI]))] λx=>(some (JM x.1 x.2.1 x.2.2.1 x.2.2.2.1),uG (ZV x.1 x.2.1 x.2.2.1 x.2.2.2.1))
def MD:aF:=⟨[uF,ui,Yv,x9,Cn,L5,se],false⟩
def QB6:af :=
 (ag [(.ae [ak 130 9 5,an 131 130 1,ab 132 1,ab 133 10,aC 134 (.build (bG QE) [(0,1,132),(1,1,133)]),aC 135 (.bW 108 QE [134]),aC 136 (.app 131 135 108 QE),ak 137 9 5,aU 137 136 1]),(.ae [a8 138 9 14,aU 8 138 14]),.ret])
def QJA:List (Nat × Md):=[(1,.one .d),(8,.b (dG 14)),(9,.b [.d,.d,.d,.d,.d,.f,.d,.d,.d,.d,.d,.d,.d,.d]),(10,.one .d)]
def QW8:af:=.wk QJA QB6
def Qu6:af :=
 (ag [(ag [(.ae [ak 126 4 4,an 127 126 1]),(.cond 127 (.ae [ab 128 10,aC 129 (.fB 128 none (some (aq 1)) [(.sl [TI])]),ab 10 129]) .skip)]),QW8])
def QTF:List (Nat × Md):=[(1,.one .d),(4,.b (dG 14)),(8,.b (dG 14)),(9,.b [.d,.d,.d,.d,.d,.f,.d,.d,.d,.d,.d,.d,.d,.d]),(10,.one .d)]
def QL8:af:=.wk QTF Qu6
def QFH:af :=
 (ag [(.ae [aC 4 (.box 39 0 14),aC 8 (.new 39 (bG Qe))]),(.ae [a8 17 4 14,aD 18 61 [17],aC 9 (.new 39 (bG Qe)),aU 9 18 14]),(ag [(.ae [a8 19 4 14,aD 20 63 [19],bL 21 20,ab 22 21,.bt 22 false [ab 23 2,aD 24 97 [23],bL 25 24] 26 25,ab 27 26,.bt 27 false [ab 28 2,ba 29 28,ak 30 4 2,an 31 30 1,a0 32 31 (aq 0) aM,ak 33 32 1,an 34 33 1,aw 35 .neq 29 34] 36 35,ab 37 36,.bt 37 false [ak 38 4 5,an 39 38 1,ab 40 1,aD 41 62 [39,40],aw 42 .geq 41 (aq 0)] 43 42,ab 44 43,.bt 44 false [ak 45 4 3,an 46 45 1,ab 47 46,.bt 47 true [ab 48 3,aD 49 97 [48],bL 50 49,ab 51 50,.bt 51 false [ab 52 3,ba 53 52,ak 54 4 2,an 55 54 1,ak 56 4 2,an 57 56 1,ba 58 57,aw 59 .sub 58 (aq 1),a0 60 55 59 aM,ak 61 60 2,an 62 61 1,aw 63 .neq 53 62] 64 63] 65 64] 66 65]),(.cond 66 (ag [(.ae [a8 67 9 14,aU 8 67 14]),.ret]) .skip)]),(.ae [ak 69 4 2,an 70 69 1,ab 71 2,aD 72 64 [70,71],ab 68 72,bF 73 68 0,bF 74 68 1,ab 10 73,ab 11 74]),(.ae [ab 75 10,ab 76 10,ba 77 76,aw 78 .sub 77 (aq 1),a0 79 75 78 [(.sl [TI])],ak 80 79 0,an 81 80 1,ab 12 81]),(.ae [aC 82 (.bW 3 [TI] []),ak 83 9 7,aU 83 82 1]),(.ae [ak 84 4 11,ak 85 84 2,an 86 85 1,ab 87 86,.bt 87 false [ab 88 11] 89 88,ak 90 9 11,ak 91 90 2,aU 91 89 1]),(ag [(.ae [ak 92 4 3,an 93 92 1]),(.cond 93 (ag [(.ae [ab 95 12,ab 96 3,aD 97 98 [95,96],ab 94 97,bF 98 94 0,bF 99 94 1,ab 13 98,ab 14 99]),(.ae [ak 101 4 11,ak 102 101 1,an 103 102 1,ab 104 13,aD 105 99 [103,104],ab 100 105,bF 106 100 0,bF 107 100 1,ab 15 106,ab 16 107]),(.ae [ab 108 15,ak 109 9 11,ak 110 109 1,aU 110 108 1]),(.ae [ak 111 9 11,ak 112 111 2,an 113 112 1,ab 114 113,.bt 114 false [ab 115 14] 116 115,ab 117 116,.bt 117 false [ab 118 16] 119 118,ak 120 9 11,ak 121 120 2,aU 121 119 1])]) (.ae [aC 122 (.bW 3 [TI] []),ab 123 12,aC 124 (.app 122 123 3 [TI]),ak 125 9 8,aU 125 124 1]))]),QL8])
def QD1:List (bn × Md):=[(.l 8 14 true,.b (dG 14))]
def Qsi:Qb:=TQ 0 0 QD1 K
@[irreducible] def CE(s:Qc)(m:Int)(y8:List Int)(jQ:Int)(jR:Bool)(r:List (List Int)):Prop:=let z1:=id (α:=Qc) s
 let z2:=List.take ((z1.2.2.2.2.2.1).length) (z1.2.2.2.2.2.1)
 aO MD 0 QB6 (Qsi K) ⟨[(1,(aL m)),(8,(.p 0 0 0)),(9,(.p 2 0 0)),(10,(bg [(.sl [TI])] r))],[(0,(.box (aS.cells Qe ((0:Int),[],[],false,false,[],[],[],[],[],[],[],(0:Int),false)))),(1,(.sl 108 QE .ow (List.take (z2.length) z2))),(2,(.box [(aL (z1.1)),(bg QP (z1.2.1)),(bg aM (z1.2.2.1)),(bE (z1.2.2.2.1)),(bE (z1.2.2.2.2.1)),(.r QE 1 0 ((List.take (z2.length) z2).length)),(bg [(.sl [TI])] (z1.2.2.2.2.2.2.1)),(bg [TI] ([]:List Int)),(bg [TI] y8),(bg [TI] (z1.2.2.2.2.2.2.2.2.2.1)),(bg [TI] (z1.2.2.2.2.2.2.2.2.2.2.1)),(bg [(.sl [TI])] (z1.2.2.2.2.2.2.2.2.2.2.2.1)),(aL jQ),(bE jR)]))],3⟩
@[irreducible] def CF(s:Qc)(m:Int)(x:List Int)(y8:List Int)(jQ:Int)(jR:Bool):Prop:=let z1:=id (α:=Qc) s
 let z2:=List.take ((z1.2.2.2.2.2.1).length) (z1.2.2.2.2.2.1)
 aO MD 0 Qu6 (Qsi K) ⟨[(1,(aL m)),(4,(.p 0 0 0)),(8,(.p 1 0 0)),(9,(.p 3 0 0)),(10,(bg [(.sl [TI])] ((QW s.2.2.1 x).1)))],[(0,(.box (aS.cells Qe s))),(1,(.box (aS.cells Qe ((0:Int),[],[],false,false,[],[],[],[],[],[],[],(0:Int),false)))),(2,(.sl 108 QE .ow z2)),(3,(.box [(aL (z1.1)),(bg QP (z1.2.1)),(bg aM (z1.2.2.1)),(bE (z1.2.2.2.1)),(bE (z1.2.2.2.2.1)),(.r QE 2 0 (z2.length)),(bg [(.sl [TI])] (z1.2.2.2.2.2.2.1)),(bg [TI] ([]:List Int)),(bg [TI] y8),(bg [TI] (z1.2.2.2.2.2.2.2.2.2.1)),(bg [TI] (z1.2.2.2.2.2.2.2.2.2.2.1)),(bg [(.sl [TI])] (z1.2.2.2.2.2.2.2.2.2.2.2.1)),(aL jQ),(bE jR)]))],4⟩
theorem QTf(s:Qc)(m:Int)(y8:List Int)(jQ:Int)(jR:Bool)(r:List (List Int)) (h :
 let z2:=id (α:=Qc) s
 let z3:=List.take ((z2.2.2.2.2.2.1).length) (z2.2.2.2.2.2.1)
 let z1:=List.take (z3.length) z3
 (((z1.length=z1.length\/z1.length+1<=z1.length)/\z1.length+1<=ca)/\K (uG (z2.1,z2.2.1,z2.2.2.1,z2.2.2.2.1,z2.2.2.2.2.1,(List.take (z1.length+1) (List.drop 0 ((List.take (z1.length) z1)++([(m,r)])))),z2.2.2.2.2.2.2.1,([]:List Int),y8,z2.2.2.2.2.2.2.2.2.2.1,z2.2.2.2.2.2.2.2.2.2.2.1,z2.2.2.2.2.2.2.2.2.2.2.2.1,jQ,jR)))):dt (CE K s m y8 jQ jR r) :=
 dt.of h
theorem QF0(s:Qc)(m:Int)(x:List Int)(y8:List Int)(jQ:Int)(jR:Bool) (h :
 (aJ s.2.2.2.2.1 (((0:Int)<=0/\(0:Int)<=1/\1<=(((QW s.2.2.1 x).1).length:Int))/\(CE K s m y8 jQ jR (List.take (Int.toNat 1-Int.toNat 0) (List.drop (Int.toNat 0) ((QW s.2.2.1 x).1))))) (CE K s m y8 jQ jR ((QW s.2.2.1 x).1)))):dt (CF K s m x y8 jQ jR) :=
 dt.of h
theorem QK9(s:Qc)(m:Int)(x:List Int)(t:List Int)(hp:JM s m x t):aK Tryz.prog 28 [(.a (aS.cells Qe s)),(.c TI m),(.c (.sl [TI]) x),(.c (.sl [TI]) t)] (uG (ZV s m x t)):=by
 refine bz MD QFH QD1 0 0 139 MC (kc CD (kc Bs (kc YK (kc K5 (kc QqH (kc QL1 (kc xQ kn))))))) (λK =>
 let z2:=id (α:=Qc) s
 let z3:=QW s.2.2.1 x
 let z1:=ar ([]:List Int) (z3.1) (Int.toNat (aG (((z3.1).length:Int)-1)))
 let z4:=Q4 s.2.2.2.2.2.2.2.2.2.2.2.2.1 ((Z7 z1 t).1)
 let z5:=aG (((s.2.2.1).length:Int)-1)
 ((Qs (α:=Qc) s)/\((((!((!(QU s))||(!(QK x))))=true->((0:Int)<=0/\Int.toNat 0<(s.2.2.1).length))/\((!((((!(QU s))||(!(QK x)))||((x.length:Int) != ((ar b5 s.2.2.1 (Int.toNat 0)).2.1)))||(decide ((QJ s.2.2.2.2.2.1 m)>=0))))=true->(s.2.2.2.1=true->((!(!(QK t)))=true->(0<=aG (((s.2.2.1).length:Int)-1)/\Int.toNat z5<(s.2.2.1).length)))))/\(aJ (((((!(QU s))||(!(QK x)))||((x.length:Int) != ((ar b5 s.2.2.1 (Int.toNat 0)).2.1)))||(decide ((QJ s.2.2.2.2.2.1 m)>=0)))||(s.2.2.2.1&&((!(QK t))||((t.length:Int) != ((ar b5 s.2.2.1 (Int.toNat z5)).2.2.1))))) (K (uG (z2.1,z2.2.1,z2.2.2.1,z2.2.2.2.1,z2.2.2.2.2.1,(List.take ((z2.2.2.2.2.2.1).length) (List.drop 0 (z2.2.2.2.2.2.1))),z2.2.2.2.2.2.2.1,z2.2.2.2.2.2.2.2.1,z2.2.2.2.2.2.2.2.2.1,z2.2.2.2.2.2.2.2.2.2.1,z2.2.2.2.2.2.2.2.2.2.2.1,z2.2.2.2.2.2.2.2.2.2.2.2.1,z2.2.2.2.2.2.2.2.2.2.2.2.2.1,z2.2.2.2.2.2.2.2.2.2.2.2.2.2))) ((Av s.2.2.1 x)/\((0<=aG (((z3.1).length:Int)-1)/\Int.toNat (aG (((z3.1).length:Int)-1))<(z3.1).length)/\(aJ s.2.2.2.1 (CF K s m x (z2.2.2.2.2.2.2.2.2.1) (z4.1) (((s.2.2.2.2.2.2.2.2.2.2.2.2.2||(z3.2))||((Z7 z1 t).2))||(z4.2))) (((0=0\/0+z1.length<=0)/\0+z1.length<=ca)/\(CF K s m x (List.take (0+z1.length) (List.drop 0 z1)) (z2.2.2.2.2.2.2.2.2.2.2.2.2.1) (s.2.2.2.2.2.2.2.2.2.2.2.2.2||(z3.2))))))))))) (λhb=>?_)
 conv=>zeta
 have ij:Sz.sz s<=2147483648:=hp;have hs:=ZL s;have l1:=Yo (Qj s);simp only[id,List.drop_zero,List.take_length,true_or,true_and,Nat.zero_add];have om:QU s=true->Int.toNat (aG ((s.2.2.1.length:Int)-1))=s.2.2.1.length-1/\0<=aG ((s.2.2.1.length:Int)-1)/\1<=s.2.2.1.length:=by
  intro h;have:=Yu (YU h);rw[QG (by((try simp only[bT,Qt,aE,Qn,Qp,Qj,QC,sX,sY,sG,sD,Qy,Qv,bf,QB,QA,Qq,Qr]at *);omega)) (by((try simp only[bT,Qt,aE,Qn,Qp,Qj,QC,sX,sY,sG,sD,Qy,Qv,bf,QB,QA,Qq,Qr]at *);omega))];((try simp only[bT,Qt,aE,Qn,Qp,Qj,QC,sX,sY,sG,sD,Qy,Qv,bf,QB,QA,Qq,Qr]at *);omega)
 have e:=QPI s m x t (Int.toNat (aG ((s.2.2.1.length:Int)-1))) (λh=>(om h).1);have hb:∀ {b x:Bool},(!((!b)||x))=true->b=true:=by intro b x h;cases b <;> simp_all
 refine⟨hp,⟨λh=>⟨by omega,?_⟩,λh _ _=>?_⟩,λh=>au ?_,λh=>?_⟩
 ·have:=om (hb h);simp;((try simp only[bT,Qt,aE,Qn,Qp,Qj,QC,sX,sY,sG,sD,Qy,Qv,bf,QB,QA,Qq,Qr]at *);omega)
 ·have h:QU s=true:=by
   cases hh:QU s
   ·rw[hh]at h;simp at h
   ·rfl
  have:=om h;exact⟨this.2.1,by((try simp only[bT,Qt,aE,Qn,Qp,Qj,QC,sX,sY,sG,sD,Qy,Qv,bf,QB,QA,Qq,Qr]at *);omega)⟩
 ·have e:(!Jb s m x t)=true:=e ▸ h;simp only[Bool.not_eq_true']at e;rw[Mw (by rw[e];simp)]
 have e:(!Jb s m x t)=false:=e ▸ h;have e:Jb s m x t=true:=by simpa using e
 have e2:=e;simp only[Jb,Bool.and_eq_true]at e2;have hm:=YU e2.1.1.1;have cW:=Yu hm;have tC:=Gu (aE s) x;have hx6:=Y3 e2.1.1.2;have bV:=yx (aE s) x;have da:=QEI e;have hw:aG (((QW (aE s) x).1.length:Int)-1)=((aE s).length:Nat):=by rw[tC,QG (by((try simp only[bT,Qt,aE,Qn,Qp,Qj,QC,sX,sY,sG,sD,Qy,Qv,bf,QB,QA,Qq,Qr]at *);omega)) (by((try simp only[bT,Qt,aE,Qn,Qp,Qj,QC,sX,sY,sG,sD,Qy,Qv,bf,QB,QA,Qq,Qr]at *);omega))];((try simp only[bT,Qt,aE,Qn,Qp,Qj,QC,sX,sY,sG,sD,Qy,Qv,bf,QB,QA,Qq,Qr]at *);omega)
 have oB:=nY [] (QW (aE s) x).1 (aE s).length;have hgi:=ZK (ar [] (QW (aE s) x).1 (aE s).length);have e0:Sz.sz ([]:List Int)=0:=rfl;have k1:∀ y8 jQ jR,y8=(if Qn s then sY s else ar [] (QW (aE s) x).1 (aE s).length)->
   jQ=(if Qn s then(Q4 (Qv s) (Z7 (ar [] (QW (aE s) x).1 (aE s).length) t).1).1 else Qv s)->
   jR=(bf s||(QW (aE s) x).2||(Qn s&&((Z7 (ar [] (QW (aE s) x).1 (aE s).length) t).2||(Q4 (Qv s) (Z7 (ar [] (QW (aE s) x).1 (aE s).length) t).1).2)))->CF (λr'=>r'=uG (ZV s m x t)) s m x y8 jQ jR:=by
  intro y8 jQ jR h1 h2 h3;have k2:∀ r,r=(if Qp s then(QW (aE s) x).1.take 1 else(QW (aE s) x).1)->CE (λr'=>r'=uG (ZV s m x t)) s m y8 jQ jR r:=by
   intro r hr;refine(QTf _ _ _ _ _ _ _ ?_).h
   conv=>zeta
   simp only[id,List.drop_zero,List.take_length,true_or,true_and,Nat.zero_add,Q8];refine⟨by rw[Ze];((try simp only[bT,Qt,aE,Qn,Qp,Qj,QC,sX,sY,sG,sD,Qy,Qv,bf,QB,QA,Qq,Qr]at *);omega),au ?_⟩;rw[da,<- hr,<- h1,<- h2,<- h3];simp[List.take_of_length_le]
  refine(QF0 _ _ _ _ _ _ _ ⟨λhr=>⟨by((try simp only[bT,Qt,aE,Qn,Qp,Qj,QC,sX,sY,sG,sD,Qy,Qv,bf,QB,QA,Qq,Qr]at *);omega),k2 _ ?_⟩,λhr=>k2 _ ?_⟩).h
  ·rw[if_pos hr];rfl
  ·rw[if_neg (by rw[show Qp s=false from hr];simp)]
 rw[hw];refine⟨⟨by((try simp only[bT,Qt,aE,Qn,Qp,Qj,QC,sX,sY,sG,sD,Qy,Qv,bf,QB,QA,Qq,Qr]at *);omega),by omega⟩,⟨by omega,by rw[Int.toNat_natCast];((try simp only[bT,Qt,aE,Qn,Qp,Qj,QC,sX,sY,sG,sD,Qy,Qv,bf,QB,QA,Qq,Qr]at *);omega)⟩,λhl=>k1 _ _ _ ?_ ?_ ?_,λhl=>⟨?_,k1 _ _ _ ?_ ?_ ?_⟩⟩
 ·rw[if_pos hl]
 ·rw[if_pos hl,Int.toNat_natCast]
 ·rw[show Qn s=true from hl,Int.toNat_natCast];simp[Bool.or_assoc]
 ·rw[Int.toNat_natCast,Ze];((try simp only[bT,Qt,aE,Qn,Qp,Qj,QC,sX,sY,sG,sD,Qy,Qv,bf,QB,QA,Qq,Qr]at *);omega)
 ·rw[if_neg (by rw[show Qn s=false from hl];simp),Int.toNat_natCast]
 ·rw[if_neg (by rw[show Qn s=false from hl];simp)]
 ·rw[show Qn s=false from hl];simp
theorem QIV:Qf Tryz.prog MC:=Qi λx h=>QK9 x.1 x.2.1 x.2.2.1 x.2.2.2.1 h
def CG(t:Qc):aB:=⟨(.a [(aL t.1),(.r QP 0 0 ((t.2.1).length)),(.r aM 1 0 ((t.2.2.1).length)),(bE t.2.2.2.1),(bE t.2.2.2.2.1),(.r QE 2 0 ((t.2.2.2.2.2.1).length)),(.r [(.sl [TI])] 3 0 ((t.2.2.2.2.2.2.1).length)),(.r [TI] 4 0 ((t.2.2.2.2.2.2.2.1).length)),(.r [TI] 5 0 ((t.2.2.2.2.2.2.2.2.1).length)),(.r [TI] 6 0 ((t.2.2.2.2.2.2.2.2.2.1).length)),(.r [TI] 7 0 ((t.2.2.2.2.2.2.2.2.2.2.1).length)),(.r [(.sl [TI])] 8 0 ((t.2.2.2.2.2.2.2.2.2.2.2.1).length)),(aL t.2.2.2.2.2.2.2.2.2.2.2.2.1),(bE t.2.2.2.2.2.2.2.2.2.2.2.2.2)]),[(.sl 175 QP (.dp 0 true []) t.2.1),(.sl 134 aM (.dp 0 true []) t.2.2.1),(.sl 108 QE (.dp 0 true []) t.2.2.2.2.2.1),(.sl 106 [(.sl [TI])] (.dp 0 true []) t.2.2.2.2.2.2.1),(.sl 3 [TI] (.dp 0 true []) t.2.2.2.2.2.2.2.1),(.sl 3 [TI] (.dp 0 true []) t.2.2.2.2.2.2.2.2.1),(.sl 3 [TI] (.dp 0 true []) t.2.2.2.2.2.2.2.2.2.1),(.sl 3 [TI] (.dp 0 true []) t.2.2.2.2.2.2.2.2.2.2.1),(.sl 106 [(.sl [TI])] (.dp 0 true []) t.2.2.2.2.2.2.2.2.2.2.2.1)],[],false,[]⟩
def ME:aI:=Qg 15 [(.a Qe),(.c TI)] λx=>(some (pg x.1 x.2.1),CG (Yl x.1 x.2.1))
def QOo:aF:=⟨[uD,yc,uh,ud,Ck],true⟩
def QVg:af :=
 (ag [(.ae [aC 2 (.box 39 0 14),aC 4 (.new 39 (bG Qe))]),(.ae [a8 7 2 14,aD 8 70 [7],aC 5 (.new 39 (bG Qe)),aU 5 8 14]),(.ae [ak 9 2 5,an 10 9 1,ab 11 1,aD 12 71 [10,11],ab 6 12]),(ag [(.ae [a8 13 2 14,aD 14 72 [13],bL 15 14,ab 16 15,.bt 16 false [ab 17 6,aw 18 .lss 17 (aq 0)] 19 18]),(.cond 19 (ag [(.ae [a8 20 5 14,aU 4 20 14]),.ret]) .skip)]),(.draw [a8 22 2 14,aD 23 74 [22],ak 24 2 5,an 25 24 1,ab 26 6,a0 27 25 26 QE,ak 28 27 1,an 29 28 1,a0 30 29 (aq 0) [(.sl [TI])],ak 31 30 0,an 32 31 1,aD 33 73 [23,32],ab 21 33,bF 34 21 0,bF 35 21 1,ak 36 5 6,aU 36 34 1] [(1,2),(1,3),(1,5),(1,6),(1,7),(1,8),(1,9),(1,10)]),(.ae [a8 37 5 14,aU 4 37 14]),.ret])
def QT1:List (bn × Md):=[(.l 4 14 true,.b [.d,.p 175,.p 134,.d,.d,.p 108,.p 106,.p 3,.p 3,.p 3,.p 3,.p 106,.d,.d])]
theorem QPx(s:Qc)(m:Int)(hp:pg s m):aK Tryz.prog 15 [(.a (aS.cells Qe s)),(.c TI m)] (CG (Yl s m)):=by
 refine bz QOo QVg QT1 0 0 38 ME (kc CB (kc K7 (kc Bn (kc Bg (kc QvG kn))))) (λK =>
 let z1:=id (α:=Qc) s
 let z3:=QJ s.2.2.2.2.2.1 m
 let z2:=JY (Zm s) (ar ([]:List Int) ((ar QS s.2.2.2.2.2.1 (Int.toNat z3)).2) (Int.toNat 0))
 let z4:=List.take ((z1.2.2.2.2.2.2.2.2.2.2.2.1).length) (z1.2.2.2.2.2.2.2.2.2.2.2.1)
 let z5:=List.take ((z1.2.2.2.2.2.2.2.2.2.2.1).length) (z1.2.2.2.2.2.2.2.2.2.2.1)
 let z6:=List.take ((z1.2.2.2.2.2.2.2.2.2.1).length) (z1.2.2.2.2.2.2.2.2.2.1)
 let z7:=List.take ((z1.2.2.2.2.2.2.2.2.1).length) (z1.2.2.2.2.2.2.2.2.1)
 let z8:=List.take ((z1.2.2.2.2.2.2.2.1).length) (z1.2.2.2.2.2.2.2.1)
 let z9:=List.take ((z1.2.2.2.2.2.1).length) (z1.2.2.2.2.2.1)
 ((Qs (α:=Qc) s)/\(aJ ((!(QU s))||(decide (z3<0))) (K (CG (z1.1,(List.take ((z1.2.1).length) (z1.2.1)),(List.take ((z1.2.2.1).length) (z1.2.2.1)),z1.2.2.2.1,z1.2.2.2.2.1,z9,(List.take ((z1.2.2.2.2.2.2.1).length) (z1.2.2.2.2.2.2.1)),z8,z7,z6,z5,z4,z1.2.2.2.2.2.2.2.2.2.2.2.2.1,z1.2.2.2.2.2.2.2.2.2.2.2.2.2))) (((0<=z3/\Int.toNat z3<(s.2.2.2.2.2.1).length)/\((0:Int)<=0/\Int.toNat 0<((ar QS s.2.2.2.2.2.1 (Int.toNat z3)).2).length))/\K (CG (z1.1,(List.take ((z1.2.1).length) (z1.2.1)),(List.take ((z1.2.2.1).length) (z1.2.2.1)),z1.2.2.2.1,z1.2.2.2.2.1,z9,(List.take ((z2.1).length) (z2.1)),z8,z7,z6,z5,z4,z1.2.2.2.2.2.2.2.2.2.2.2.2.1,z1.2.2.2.2.2.2.2.2.2.2.2.2.2)))))) (λhb=>?_)
 conv=>zeta
 have ij:Sz.sz s<=2147483648:=hp;simp only[id,List.drop_zero,List.take_length];rw[Cx];refine⟨hp,λh=>au ?_,λh=>?_⟩
 ·simp only[Bool.not_eq_true']at h;rw[QAU (by rw[h];simp)]
 have h:(QU s&&decide (0<=QJ (Qj s) m))=true:=by simpa using h
 have h':=h;simp only[Bool.and_eq_true,decide_eq_true_eq]at h';have hf:=yy (Qj s) m;have hk:(QJ (Qj s) m).toNat<(Qj s).length:=by omega
 have hr:=Mt h'.1 (Ms h'.1 _ (Jz hk QS));have ei:JY (Zm s) (ar [] (ar QS s.2.2.2.2.2.1 (QJ s.2.2.2.2.2.1 m).toNat).2 0)=QW (aE s) (ar [] (ar QS s.2.2.2.2.2.1 (QJ s.2.2.2.2.2.1 m).toNat).2 0):=GF (YU h'.1) hr.2.2;refine⟨⟨⟨h'.2,hk⟩,⟨by omega,hr.1⟩⟩,au ?_⟩;rw[show Int.toNat 0=0 from rfl,ei];unfold Yl;simp only;rw[if_pos h]
theorem QRS:Qf Tryz.prog ME:=Qi λx h=>QPx x.1 x.2.1 h
def CH(t:Qc):aB:=fZ (.a (aS.cells Qe t))
def MF:aI:=Qg 13 [(.a Qe),(.c TI)] λx=>(some (pg x.1 x.2.1),CH (Yl x.1 x.2.1))
def QQ6:aF:=⟨[uF,x9,ui,Cn],false⟩
def QFV:af :=
 (ag [(.ae [aC 2 (.box 39 0 14),aC 4 (.new 39 (bG Qe))]),(.ae [a8 9 2 14,aD 10 61 [9],aC 5 (.new 39 (bG Qe)),aU 5 10 14]),(.ae [ak 11 2 5,an 12 11 1,ab 13 1,aD 14 62 [12,13],ab 6 14]),(ag [(.ae [a8 15 2 14,aD 16 63 [15],bL 17 16,ab 18 17,.bt 18 false [ab 19 6,aw 20 .lss 19 (aq 0)] 21 20]),(.cond 21 (ag [(.ae [a8 22 5 14,aU 4 22 14]),.ret]) .skip)]),(.draw [ak 24 2 2,an 25 24 1,ak 26 2 5,an 27 26 1,ab 28 6,a0 29 27 28 QE,ak 30 29 1,an 31 30 1,a0 32 31 (aq 0) [(.sl [TI])],ak 33 32 0,an 34 33 1,aD 35 64 [25,34],ab 23 35,bF 36 23 0,bF 37 23 1,ab 7 36,ab 8 37] []),(.ae [ab 38 7,ak 39 5 6,aU 39 38 1]),(.ae [a8 40 5 14,aU 4 40 14]),.ret])
def QMZ:List (bn × Md):=[(.l 4 14 true,.b (dG 14))]
theorem QYL(s:Qc)(m:Int)(hp:pg s m):aK Tryz.prog 13 [(.a (aS.cells Qe s)),(.c TI m)] (CH (Yl s m)):=by
 refine bz QQ6 QFV QMZ 0 0 41 MF (kc CD (kc K5 (kc Bs (kc QqH kn)))) (λK =>
 let z1:=id (α:=Qc) s
 let z2:=QJ s.2.2.2.2.2.1 m
 let z3:=ar ([]:List Int) ((ar QS s.2.2.2.2.2.1 (Int.toNat z2)).2) (Int.toNat 0)
 let z4:=List.take ((z1.2.2.2.2.2.1).length) (List.drop 0 (z1.2.2.2.2.2.1))
 ((Qs (α:=Qc) s)/\(aJ ((!(QU s))||(decide (z2<0))) (K (CH (z1.1,z1.2.1,z1.2.2.1,z1.2.2.2.1,z1.2.2.2.2.1,z4,z1.2.2.2.2.2.2.1,z1.2.2.2.2.2.2.2.1,z1.2.2.2.2.2.2.2.2.1,z1.2.2.2.2.2.2.2.2.2.1,z1.2.2.2.2.2.2.2.2.2.2.1,z1.2.2.2.2.2.2.2.2.2.2.2.1,z1.2.2.2.2.2.2.2.2.2.2.2.2.1,z1.2.2.2.2.2.2.2.2.2.2.2.2.2))) (((0<=z2/\Int.toNat z2<(s.2.2.2.2.2.1).length)/\(((0:Int)<=0/\Int.toNat 0<((ar QS s.2.2.2.2.2.1 (Int.toNat z2)).2).length)/\(Av s.2.2.1 z3)))/\K (CH (z1.1,z1.2.1,z1.2.2.1,z1.2.2.2.1,z1.2.2.2.2.1,z4,(QW s.2.2.1 z3).1,z1.2.2.2.2.2.2.2.1,z1.2.2.2.2.2.2.2.2.1,z1.2.2.2.2.2.2.2.2.2.1,z1.2.2.2.2.2.2.2.2.2.2.1,z1.2.2.2.2.2.2.2.2.2.2.2.1,z1.2.2.2.2.2.2.2.2.2.2.2.2.1,z1.2.2.2.2.2.2.2.2.2.2.2.2.2)))))) (λhb=>?_)
 conv=>zeta
 have ij:Sz.sz s<=2147483648:=hp;simp only[id,List.drop_zero,List.take_length];rw[Cx];refine⟨hp,λh=>au ?_,λh=>?_⟩
 ·simp only[Bool.not_eq_true']at h;rw[QAU (by rw[h];simp)]
 have h:(QU s&&decide (0<=QJ (Qj s) m))=true:=by simpa using h
 have h':=h;simp only[Bool.and_eq_true,decide_eq_true_eq]at h';have hf:=yy (Qj s) m;have hk:(QJ (Qj s) m).toNat<(Qj s).length:=by omega
 have hr:=Mt h'.1 (Ms h'.1 _ (Jz hk QS));have hv:=Y3 hr.2.2;have cW:=Yu (YU h'.1);refine⟨⟨⟨h'.2,hk⟩,⟨by omega,hr.1⟩,⟨by((try simp only[bT,Qt,aE,Qn,Qp,Qj,QC,sX,sY,sG,sD,Qy,Qv,bf,QB,QA,Qq,Qr]at *);omega),Nat.le_trans hv (by omega)⟩⟩,au ?_⟩;rw[show Int.toNat 0=0 from rfl];unfold Yl;simp only;rw[if_pos h]
theorem QR4:Qf Tryz.prog MF:=Qi λx h=>QYL x.1 x.2.1 h
def Jd(t:Qc):aB:=⟨(.a [(aL t.1),(.r QP 0 0 ((t.2.1).length)),(.r aM 1 0 ((t.2.2.1).length)),(bE t.2.2.2.1),(bE t.2.2.2.2.1),(.r QE 2 0 ((t.2.2.2.2.2.1).length)),(.r [(.sl [TI])] 3 0 ((t.2.2.2.2.2.2.1).length)),(.r [TI] 4 0 ((t.2.2.2.2.2.2.2.1).length)),(.r [TI] 5 0 ((t.2.2.2.2.2.2.2.2.1).length)),(.r [TI] 6 0 ((t.2.2.2.2.2.2.2.2.2.1).length)),(.r [TI] 7 0 ((t.2.2.2.2.2.2.2.2.2.2.1).length)),(.r [(.sl [TI])] 8 0 ((t.2.2.2.2.2.2.2.2.2.2.2.1).length)),(aL t.2.2.2.2.2.2.2.2.2.2.2.2.1),(bE t.2.2.2.2.2.2.2.2.2.2.2.2.2)]),[(.sl 175 QP (.dp 0 true []) t.2.1),(.sl 134 aM (.dp 0 true []) t.2.2.1),(.sl 108 QE (.dp 0 true []) t.2.2.2.2.2.1),(.sl 106 [(.sl [TI])] (.dp 0 true []) t.2.2.2.2.2.2.1),(.sl 3 [TI] (.dp 0 true []) t.2.2.2.2.2.2.2.1),(.sl 3 [TI] (.dp 0 true []) t.2.2.2.2.2.2.2.2.1),(.sl 3 [TI] (.dp 0 true []) t.2.2.2.2.2.2.2.2.2.1),(.sl 3 [TI] (.dp 0 true []) t.2.2.2.2.2.2.2.2.2.2.1),(.sl 106 [(.sl [TI])] (.dp 0 true []) t.2.2.2.2.2.2.2.2.2.2.2.1)],[],false,[]⟩
def MG:aI:=Qg 32 [(.a Qe),(.c TI),(.c (.sl [TI]))] λx=>(some (ph x.1 x.2.1 x.2.2.1),Jd (ZC x.1 x.2.1 x.2.2.1))
def QXs:aF:=⟨[uD,yc,uh,Bi,BD,ud,xM,Jk,L8,KM],true⟩
def QXR:af :=
 (ag [(.ae [aC 3 (.box 39 0 14),aC 6 (.new 39 (bG Qe))]),(.ae [a8 15 3 14,aD 16 70 [15],aC 7 (.new 39 (bG Qe)),aU 7 16 14]),(.ae [ak 17 3 5,an 18 17 1,ab 19 1,aD 20 71 [18,19],ab 8 20]),(ag [(.ae [a8 21 3 14,aD 22 72 [21],bL 23 22,ab 24 23,.bt 24 false [ab 25 8,aw 26 .lss 25 (aq 0)] 27 26]),(.cond 27 (ag [(.ae [a8 28 7 14,aU 6 28 14]),.ret]) .skip)]),(.ae [ak 29 7 5,an 30 29 1,ab 31 8,a0 32 30 31 QE,ak 33 32 1,an 34 33 1,ab 9 34]),(ag [(.ae [ak 35 3 4,an 36 35 1]),(.cond 36 (.ae [ak 37 7 6,an 38 37 1,ab 9 38]) .skip)]),(.ae [ak 39 3 2,an 40 39 1,ba 41 40,ab 10 41]),(ag [(.ae [ab 42 9,ba 43 42,ab 44 10,aw 45 .add 44 (aq 1),aw 46 .neq 43 45,ab 47 46,.bt 47 false [ak 48 3 2,an 49 48 1,ab 50 9,ab 51 10,aD 52 110 [49,50,51],bL 53 52] 54 53]),(.cond 54 (ag [(.ae [a8 55 7 14,aU 6 55 14]),.ret]) .skip)]),(.ae [ak 56 7 9,an 57 56 1,ab 11 57,ab 12 (a6 false)]),(ag [(.ae [ak 58 3 3,an 59 58 1]),(.cond 59 (.ae [ab 61 9,ab 62 10,a0 63 61 62 [(.sl [TI])],ak 64 63 0,an 65 64 1,ab 66 2,aD 67 111 [65,66],ab 60 67,bF 68 60 0,bF 69 60 1,ab 11 68,ab 12 69]) .skip)]),(ag [(.ae [ab 70 11,a8 71 3 14,aD 72 74 [71],aD 73 102 [72],aD 74 100 [70,73],bL 75 74]),(.cond 75 (ag [(.ae [a8 76 7 14,aU 6 76 14]),.ret]) .skip)]),(.ae [ak 78 3 2,an 79 78 1,ab 80 9,ab 81 11,aD 82 112 [79,80,81],ab 77 82,bF 83 77 0,bF 84 77 1,bF 85 77 2,ab 13 83,ab 11 84,ab 14 85]),(.ae [ak 86 7 11,a8 87 86 3,ab 88 13,ab 89 12,ab 90 89,.bt 90 false [ab 91 14] 92 91,aC 93 (.build (bG Zj) [(0,1,88),(2,1,92)]),aD 94 113 [87,93],ak 95 7 11,aU 95 94 3]),(.ae [ab 96 11,ak 97 7 10,aU 97 96 1]),(.ae [ak 98 7 9,aU 98 (.k (.n [TI])) 1]),(.ae [ak 99 7 6,aU 99 (.k (.n [(.sl [TI])])) 1]),(.draw [ak 100 7 5,an 101 100 1,ab 102 8,aC 103 (.fB 101 none (some 102) QE),ak 104 7 5,an 105 104 1,ab 106 8,aw 107 .add 106 (aq 1),aC 108 (.fB 105 (some 107) none QE),aC 109 (.app 103 108 108 QE),ak 110 7 5,aU 110 109 1] []),(.ae [a8 111 7 14,aU 6 111 14]),.ret])
def QHJ:List (bn × Md):=[(.l 6 14 true,.b [.d,.p 175,.p 134,.d,.d,.p 108,.p 106,.p 3,.p 3,.p 3,.p 3,.p 106,.d,.d])]
theorem QK1(s:Qc)(m:Int)(t:List Int)(hp:ph s m t):aK Tryz.prog 32 [(.a (aS.cells Qe s)),(.c TI m),(.c (.sl [TI]) t)] (Jd (ZC s m t)):=by
 refine bz QXs QXR QHJ 0 0 112 MG (kc CB (kc K7 (kc Bn (kc Xz (kc Qsl (kc Bg (kc I7 (kc JP (kc QLo (kc QJT kn)))))))))) (λK =>
 let z1:=id (α:=Qc) s
 let z5:=List.take ((z1.2.2.2.2.2.2.2.2.2.1).length) (List.drop 0 (z1.2.2.2.2.2.2.2.2.2.1))
 let z7:=List.take ((z1.2.2.2.2.2.2.2.2.2.2.2.1).length) (List.drop 0 (z1.2.2.2.2.2.2.2.2.2.2.2.1))
 let z8:=List.take ((z1.2.2.2.2.2.2.1).length) (List.drop 0 (z1.2.2.2.2.2.2.1))
 let dQ:=QJ s.2.2.2.2.2.1 m
 let z6:=ar QS (z1.2.2.2.2.2.1) (0+(Int.toNat dQ))
 let z9:=Int.toNat dQ-Int.toNat 0
 let gU:=List.take ((z1.2.2.2.2.2.2.2.2.1).length) (z1.2.2.2.2.2.2.2.2.1)
 let gV:=List.take ((z1.2.2.2.2.2.2.2.1).length) (z1.2.2.2.2.2.2.2.1)
 let mz:=List.take ((z1.2.2.2.2.2.2.2.2.2.2.2.1).length) (z1.2.2.2.2.2.2.2.2.2.2.2.1)
 let mA:=List.take ((z1.2.2.2.2.2.2.2.2.2.2.1).length) (z1.2.2.2.2.2.2.2.2.2.2.1)
 let kR:=List.take ((z1.2.2.2.2.2.2.2.2.2.1).length) (z1.2.2.2.2.2.2.2.2.2.1)
 let ka:=List.take ((z1.2.2.1).length) (z1.2.2.1)
 let kb:=List.take ((z1.2.1).length) (z1.2.1)
 let mB:=List.take ((z1.2.2.2.2.2.2.1).length) (z1.2.2.2.2.2.2.1)
 let mC:=List.take ((z1.2.2.2.2.2.1).length) (z1.2.2.2.2.2.1)
 let uH:=Q2 s.2.2.1 (z6.2) z5
 let uI:=Q2 s.2.2.1 z8 z5
 let CI:=aG (((s.2.2.1).length:Int)+1)
 let uJ:=aG (dQ+1)
 let z4:=List.take (Int.toNat (((z1.2.2.2.2.2.1).length:Nat):Int)-Int.toNat uJ) (List.drop (0+Int.toNat uJ) (z1.2.2.2.2.2.1))
 let sw:=List.take (z9+z4.length) ((List.take z9 (z1.2.2.2.2.2.1))++z4)
 let MH:=Int.toNat ((s.2.2.1).length:Int)
 let eX:=QZ (ar ([]:List Int) (z1.2.2.2.2.2.2.1) (0+MH)) t
 let eW:=QZ (ar ([]:List Int) (z6.2) MH) t
 let MI:=List.take ((eX.1).length) (List.drop 0 (eX.1))
 let z3:=Q2 s.2.2.1 z8 MI
 let MJ:=List.take ((eW.1).length) (List.drop 0 (eW.1))
 let z2:=Q2 s.2.2.1 (z6.2) MJ
 let CJ:=Zw (Zm s)
 let z35:=List.take ((uI.1).length) (List.drop 0 (uI.1))
 let gy:=Z0 (z7,z1.2.2.2.2.2.2.2.2.2.2.2.2.1,z1.2.2.2.2.2.2.2.2.2.2.2.2.2) (z35,(0:Int),(false||(uI.2.2)))
 let z36:=List.take ((uH.1).length) (List.drop 0 (uH.1))
 let gx:=Z0 (z7,z1.2.2.2.2.2.2.2.2.2.2.2.2.1,z1.2.2.2.2.2.2.2.2.2.2.2.2.2) (z36,(0:Int),(false||(uH.2.2)))
 let z37:=List.take ((z3.1).length) (List.drop 0 (z3.1))
 let mw:=Z0 (z7,z1.2.2.2.2.2.2.2.2.2.2.2.2.1,z1.2.2.2.2.2.2.2.2.2.2.2.2.2) (z37,(0:Int),((eX.2)||(z3.2.2)))
 let z38:=List.take ((z2.1).length) (List.drop 0 (z2.1))
 let my:=Z0 (z7,z1.2.2.2.2.2.2.2.2.2.2.2.2.1,z1.2.2.2.2.2.2.2.2.2.2.2.2.2) (z38,(0:Int),((eW.2)||(z2.2.2)))
 ((Qs (α:=Qc) s)/\(aJ ((!(QU s))||(decide (dQ<0))) (K (Jd (z1.1,kb,ka,z1.2.2.2.1,z1.2.2.2.2.1,mC,mB,gV,gU,kR,mA,mz,z1.2.2.2.2.2.2.2.2.2.2.2.2.1,z1.2.2.2.2.2.2.2.2.2.2.2.2.2))) (((0<=dQ/\Int.toNat dQ<(z1.2.2.2.2.2.1).length)/\((0+(Int.toNat dQ))<(z1.2.2.2.2.2.1).length))/\(aJ s.2.2.2.2.1 (((!((((z1.2.2.2.2.2.2.1).length:Nat):Int) != CI))=true->(xk s.2.2.1 z8 ((s.2.2.1).length:Int)))/\(aJ (((((z1.2.2.2.2.2.2.1).length:Nat):Int) != CI)||(!(ZS s.2.2.1 z8 ((s.2.2.1).length:Int)))) (K (Jd (z1.1,kb,ka,z1.2.2.2.1,z1.2.2.2.2.1,mC,mB,gV,gU,kR,mA,mz,z1.2.2.2.2.2.2.2.2.2.2.2.2.1,z1.2.2.2.2.2.2.2.2.2.2.2.2.2))) (aJ s.2.2.2.1 (((0<=((s.2.2.1).length:Int)/\Int.toNat ((s.2.2.1).length:Int)<(z1.2.2.2.2.2.2.1).length)/\((0+MH)<(z1.2.2.2.2.2.2.1).length))/\(aJ (!(QH MI CJ)) (K (Jd (z1.1,kb,ka,z1.2.2.2.1,z1.2.2.2.2.1,mC,mB,gV,gU,kR,mA,mz,z1.2.2.2.2.2.2.2.2.2.2.2.2.1,z1.2.2.2.2.2.2.2.2.2.2.2.2.2))) ((tL s.2.2.1 z8 MI)/\((Zo (α:=QO) (β:=QO) (z7,z1.2.2.2.2.2.2.2.2.2.2.2.2.1,z1.2.2.2.2.2.2.2.2.2.2.2.2.2) (z37,(0:Int),((eX.2)||(z3.2.2))))/\((((0:Int)<=0/\0<=dQ/\dQ<=(((z1.2.2.2.2.2.1).length:Nat):Int))/\((0<=aG (dQ+1)/\aG (dQ+1)<=(((z1.2.2.2.2.2.1).length:Nat):Int)/\(((z1.2.2.2.2.2.1).length:Nat):Int)<=(((z1.2.2.2.2.2.1).length:Nat):Int))/\(((z9=(z1.2.2.2.2.2.1).length\/z9+z4.length<=(z1.2.2.2.2.2.1).length)/\z9+z4.length<=ca)/\(z9<=(0+Int.toNat uJ)))))/\K (Jd (z1.1,kb,ka,z1.2.2.2.1,z1.2.2.2.2.1,sw,([]:List (List Int)),gV,gU,([]:List Int),(List.take ((z3.2.1).length) (z3.2.1)),(List.take ((mw.1).length) (mw.1)),mw.2.1,mw.2.2))))))) (aJ (!(QH z5 CJ)) (K (Jd (z1.1,kb,ka,z1.2.2.2.1,z1.2.2.2.2.1,mC,mB,gV,gU,kR,mA,mz,z1.2.2.2.2.2.2.2.2.2.2.2.2.1,z1.2.2.2.2.2.2.2.2.2.2.2.2.2))) ((tL s.2.2.1 z8 z5)/\((Zo (α:=QO) (β:=QO) (z7,z1.2.2.2.2.2.2.2.2.2.2.2.2.1,z1.2.2.2.2.2.2.2.2.2.2.2.2.2) (z35,(0:Int),(false||(uI.2.2))))/\((((0:Int)<=0/\0<=dQ/\dQ<=(((z1.2.2.2.2.2.1).length:Nat):Int))/\((0<=aG (dQ+1)/\aG (dQ+1)<=(((z1.2.2.2.2.2.1).length:Nat):Int)/\(((z1.2.2.2.2.2.1).length:Nat):Int)<=(((z1.2.2.2.2.2.1).length:Nat):Int))/\(((z9=(z1.2.2.2.2.2.1).length\/z9+z4.length<=(z1.2.2.2.2.2.1).length)/\z9+z4.length<=ca)/\(z9<=(0+Int.toNat uJ)))))/\K (Jd (z1.1,kb,ka,z1.2.2.2.1,z1.2.2.2.2.1,sw,([]:List (List Int)),gV,gU,([]:List Int),(List.take ((uI.2.1).length) (uI.2.1)),(List.take ((gy.1).length) (gy.1)),gy.2.1,gy.2.2))))))))) (((!(((z6.2).length:Int) != CI))=true->(xk s.2.2.1 (z6.2) ((s.2.2.1).length:Int)))/\(aJ ((((z6.2).length:Int) != CI)||(!(ZS s.2.2.1 (z6.2) ((s.2.2.1).length:Int)))) (K (Jd (z1.1,kb,ka,z1.2.2.2.1,z1.2.2.2.2.1,mC,mB,gV,gU,kR,mA,mz,z1.2.2.2.2.2.2.2.2.2.2.2.2.1,z1.2.2.2.2.2.2.2.2.2.2.2.2.2))) (aJ s.2.2.2.1 ((0<=((s.2.2.1).length:Int)/\Int.toNat ((s.2.2.1).length:Int)<(z6.2).length)/\(aJ (!(QH MJ CJ)) (K (Jd (z1.1,kb,ka,z1.2.2.2.1,z1.2.2.2.2.1,mC,mB,gV,gU,kR,mA,mz,z1.2.2.2.2.2.2.2.2.2.2.2.2.1,z1.2.2.2.2.2.2.2.2.2.2.2.2.2))) ((tL s.2.2.1 (z6.2) MJ)/\((Zo (α:=QO) (β:=QO) (z7,z1.2.2.2.2.2.2.2.2.2.2.2.2.1,z1.2.2.2.2.2.2.2.2.2.2.2.2.2) (z38,(0:Int),((eW.2)||(z2.2.2))))/\((((0:Int)<=0/\0<=dQ/\dQ<=(((z1.2.2.2.2.2.1).length:Nat):Int))/\((0<=aG (dQ+1)/\aG (dQ+1)<=(((z1.2.2.2.2.2.1).length:Nat):Int)/\(((z1.2.2.2.2.2.1).length:Nat):Int)<=(((z1.2.2.2.2.2.1).length:Nat):Int))/\(((z9=(z1.2.2.2.2.2.1).length\/z9+z4.length<=(z1.2.2.2.2.2.1).length)/\z9+z4.length<=ca)/\(z9<=(0+Int.toNat uJ)))))/\K (Jd (z1.1,kb,ka,z1.2.2.2.1,z1.2.2.2.2.1,sw,([]:List (List Int)),gV,gU,([]:List Int),(List.take ((z2.2.1).length) (z2.2.1)),(List.take ((my.1).length) (my.1)),my.2.1,my.2.2))))))) (aJ (!(QH z5 CJ)) (K (Jd (z1.1,kb,ka,z1.2.2.2.1,z1.2.2.2.2.1,mC,mB,gV,gU,kR,mA,mz,z1.2.2.2.2.2.2.2.2.2.2.2.2.1,z1.2.2.2.2.2.2.2.2.2.2.2.2.2))) ((tL s.2.2.1 (z6.2) z5)/\((Zo (α:=QO) (β:=QO) (z7,z1.2.2.2.2.2.2.2.2.2.2.2.2.1,z1.2.2.2.2.2.2.2.2.2.2.2.2.2) (z36,(0:Int),(false||(uH.2.2))))/\((((0:Int)<=0/\0<=dQ/\dQ<=(((z1.2.2.2.2.2.1).length:Nat):Int))/\((0<=aG (dQ+1)/\aG (dQ+1)<=(((z1.2.2.2.2.2.1).length:Nat):Int)/\(((z1.2.2.2.2.2.1).length:Nat):Int)<=(((z1.2.2.2.2.2.1).length:Nat):Int))/\(((z9=(z1.2.2.2.2.2.1).length\/z9+z4.length<=(z1.2.2.2.2.2.1).length)/\z9+z4.length<=ca)/\(z9<=(0+Int.toNat uJ)))))/\K (Jd (z1.1,kb,ka,z1.2.2.2.1,z1.2.2.2.2.1,sw,([]:List (List Int)),gV,gU,([]:List Int),(List.take ((uH.2.1).length) (uH.2.1)),(List.take ((gx.1).length) (gx.1)),gx.2.1,gx.2.2)))))))))))))) (λhb=>?_)
 conv=>zeta
 have ij:Sz.sz s<=2147483648:=hp;have hs:=ZL s;have l1:=Yo (Qj s);obtain⟨kf,fR⟩:∃ kf,QJ s.2.2.2.2.2.1 m=kf:=⟨_,rfl⟩
 have hf:=yy (Qj s) m;rw[show QJ (Qj s) m=kf from fR]at hf;have fk:Yz s kf t=false->(ZC s m t)=s:=λh=>QCQ (by rw[show QJ (Qj s) m=kf from fR,h];simp);simp only[id,List.drop_zero,List.take_length,true_or,true_and,Nat.zero_add,Int.toNat_natCast];rw[Cx,show QJ (Qj s) m=kf from fR];refine⟨hp,λh=>au ?_,λh=>?_⟩
 ·rw[fk];simp only[Bool.not_eq_true']at h;rw[JB,h];rfl
 simp only[Bool.not_eq_false',Bool.and_eq_true,decide_eq_true_eq]at h;obtain⟨h1,h2⟩:=h;obtain⟨kn,rfl⟩:∃ kn:Nat,kf=kn:=⟨kf.toNat,by omega⟩
 have cW:1<=s.2.2.1.length/\s.2.2.1.length<=8:=Yu (YU h1);have fF:=QEt h1;have yB:Sz.sz (α:=QO) s.2.2.2.2.2.2.2.2.2.2.2<=296:=Tx (YU h1) ⟨fF.1,fF.2⟩;have adE:Sz.sz s.2.2.2.2.2.2.2.2.2.2.2.1<=296:=by have h:=yB;simp only[QR,QL,QY]at h;omega
 have hk:kn<s.2.2.2.2.2.1.length:=by((try simp only[bT,Qt,aE,Qn,Qp,Qj,QC,sX,sY,sG,sD,Qy,Qv,bf,QB,QA,Qq,Qr]at *);omega)
 have oV:(List.take (s.2.2.2.2.2.1.length-(kn+1)) (List.drop (kn+1) s.2.2.2.2.2.1)).length=s.2.2.2.2.2.1.length-(kn+1):=by simp
 rw[dL (k:=s.2.2.1.length) (by omega),dL (k:=kn) (by((try simp only[bT,Qt,aE,Qn,Qp,Qj,QC,sX,sY,sG,sD,Qy,Qv,bf,QB,QA,Qq,Qr]at *);omega))];simp only[Int.toNat_natCast,show Int.toNat 0=0 from rfl,Nat.sub_zero];refine⟨⟨⟨h2,by((try simp only[bT,Qt,aE,Qn,Qp,Qj,QC,sX,sY,sG,sD,Qy,Qv,bf,QB,QA,Qq,Qr]at *);omega)⟩,by((try simp only[bT,Qt,aE,Qn,Qp,Qj,QC,sX,sY,sG,sD,Qy,Qv,bf,QB,QA,Qq,Qr]at *);omega)⟩,λjS=>?_,λjS=>?_⟩
 ·have sx:(s.2.2.2.2.2.2.1)=Zq s (kn:Int):=by unfold Zq;rw[if_pos (show Qp s=true from jS)];try rfl
  refine⟨λh=>?_,λh=>au ?_,λh=>?_⟩
  ·simp at h;exact⟨by omega,by omega,by omega⟩
  ·rw[fk];rw[JB,<- sx];simp only[Bool.or_eq_true,bne_iff_ne,Bool.not_eq_true']at h
   rcases h with h | h
   ·have:((s.2.2.2.2.2.2.1).length==s.2.2.1.length+1)=false:=by rw[beq_eq_false_iff_ne];omega
    simp[this]
   ·have h':ZS (aE s) (s.2.2.2.2.2.2.1) (aE s).length=false:=h;simp[h']
  ·simp only[Bool.or_eq_false_iff,bne_eq_false_iff_eq,Bool.not_eq_false']at h;have h3:((Zq s (kn:Int)).length==(aE s).length+1)=true:=by rw[<- sx,beq_iff_eq];have:=h.1;((try simp only[bT,Qt,aE,Qn,Qp,Qj,QC,sX,sY,sG,sD,Qy,Qv,bf,QB,QA,Qq,Qr]at *);omega)
   have h4:ZS (aE s) (Zq s (kn:Int)) (aE s).length=true:=by rw[<- sx];exact h.2
   refine⟨λhl=>⟨⟨⟨by omega,by have:=h.1;omega⟩,by have:=h.1;omega⟩,?_⟩,λhl=>?_⟩
   ·have hr:(s.2.2.2.2.2.2.1)=Zq s (kn:Int):=by unfold Zq;rw[if_pos (show Qp s=true from jS)];try rfl
    have hd:(((QZ (ar [] (s.2.2.2.2.2.2.1) s.2.2.1.length) t).1),((QZ (ar [] (s.2.2.2.2.2.2.1) s.2.2.1.length) t).2))=eM s (kn:Int) t:=by unfold eM;rw[if_pos (show Qn s=true from hl),<- hr];try rfl
    have hb:Yz s (kn:Int) t=QH ((QZ (ar [] (s.2.2.2.2.2.2.1) s.2.2.1.length) t).1) (Zw (Zm s)):=by
     rw[JB,<- hd,h1,h3,h4,decide_eq_true h2];rfl
    refine⟨λh=>au ?_,λh=>?_⟩
    ·rw[fk (by rw[hb];simpa using h)]
    ·have hv:QH ((QZ (ar [] (s.2.2.2.2.2.2.1) s.2.2.1.length) t).1) (Zw (Zm s))=true:=by simpa using h
     have cH:Yz s (kn:Int) t=true:=by rw[hb,hv]
     have CK:=Y3 hv;have da:=yz (t:=t) (rows:=s.2.2.2.2.2.2.1) (d:=(QZ (ar [] (s.2.2.2.2.2.2.1) s.2.2.1.length) t).1) (b:=(QZ (ar [] (s.2.2.2.2.2.2.1) s.2.2.1.length) t).2) (by rw[show QJ (Qj s) m=(kn:Int) from fR];exact cH) (by rw[show QJ (Qj s) m=(kn:Int) from fR] ;exact hr) (by rw[show QJ (Qj s) m=(kn:Int) from fR] ;exact hd);have ju:(s.2.2.2.2.2.2.1).length=s.2.2.1.length+1:=by rw[hr];rw[beq_iff_eq]at h3;exact h3
     have kX:=uB s.2.2.1 (s.2.2.2.2.2.2.1) ((QZ (ar [] (s.2.2.2.2.2.2.1) s.2.2.1.length) t).1);refine⟨⟨⟨by omega,by rw[Ze];((try simp only[bT,Qt,aE,Qn,Qp,Qj,QC,sX,sY,sG,sD,Qy,Qv,bf,QB,QA,Qq,Qr]at *);omega)⟩,by omega⟩,?_,⟨⟨by omega,by omega,by omega⟩,⟨by omega,by omega,by omega⟩,?_,by omega⟩,au ?_⟩
     ·unfold Zo;simp only[YM,QL,QY]
      ((try simp only[bT,Qt,aE,Qn,Qp,Qj,QC,sX,sY,sG,sD,Qy,Qv,bf,QB,QA,Qq,Qr]at *);omega)
     ·rw[oV,Ze];((try simp only[bT,Qt,aE,Qn,Qp,Qj,QC,sX,sY,sG,sD,Qy,Qv,bf,QB,QA,Qq,Qr]at *);omega)
     ·rw[yA hk,da,show QJ (Qj s) m=(kn:Int) from fR,Int.toNat_natCast]
   ·have hr:(s.2.2.2.2.2.2.1)=Zq s (kn:Int):=by unfold Zq;rw[if_pos (show Qp s=true from jS)];try rfl
    have hd:((s.2.2.2.2.2.2.2.2.2.1),(false))=eM s (kn:Int) t:=by unfold eM;rw[if_neg (by rw[show Qn s=false from hl];simp)];try rfl
    have hb:Yz s (kn:Int) t=QH (s.2.2.2.2.2.2.2.2.2.1) (Zw (Zm s)):=by
     rw[JB,<- hd,h1,h3,h4,decide_eq_true h2];rfl
    refine⟨λh=>au ?_,λh=>?_⟩
    ·rw[fk (by rw[hb];simpa using h)]
    ·have hv:QH (s.2.2.2.2.2.2.2.2.2.1) (Zw (Zm s))=true:=by simpa using h
     have cH:Yz s (kn:Int) t=true:=by rw[hb,hv]
     have CK:=Y3 hv;have da:=yz (t:=t) (rows:=s.2.2.2.2.2.2.1) (d:=s.2.2.2.2.2.2.2.2.2.1) (b:=false) (by rw[show QJ (Qj s) m=(kn:Int) from fR];exact cH) (by rw[show QJ (Qj s) m=(kn:Int) from fR] ;exact hr) (by rw[show QJ (Qj s) m=(kn:Int) from fR] ;exact hd);have ju:(s.2.2.2.2.2.2.1).length=s.2.2.1.length+1:=by rw[hr];rw[beq_iff_eq]at h3;exact h3
     have kX:=uB s.2.2.1 (s.2.2.2.2.2.2.1) (s.2.2.2.2.2.2.2.2.2.1);refine⟨⟨⟨by omega,by rw[Ze];((try simp only[bT,Qt,aE,Qn,Qp,Qj,QC,sX,sY,sG,sD,Qy,Qv,bf,QB,QA,Qq,Qr]at *);omega)⟩,by omega⟩,?_,⟨⟨by omega,by omega,by omega⟩,⟨by omega,by omega,by omega⟩,?_,by omega⟩,au ?_⟩
     ·unfold Zo;simp only[YM,QL,QY]
      ((try simp only[bT,Qt,aE,Qn,Qp,Qj,QC,sX,sY,sG,sD,Qy,Qv,bf,QB,QA,Qq,Qr]at *);omega)
     ·rw[oV,Ze];((try simp only[bT,Qt,aE,Qn,Qp,Qj,QC,sX,sY,sG,sD,Qy,Qv,bf,QB,QA,Qq,Qr]at *);omega)
     ·rw[yA hk,da,show QJ (Qj s) m=(kn:Int) from fR,Int.toNat_natCast]
 ·have sx:((ar QS s.2.2.2.2.2.1 kn).2)=Zq s (kn:Int):=by unfold Zq;rw[if_neg (by rw[show Qp s=false from jS];simp)];try rfl
  refine⟨λh=>?_,λh=>au ?_,λh=>?_⟩
  ·simp at h;exact⟨by omega,by omega,by omega⟩
  ·rw[fk];rw[JB,<- sx];simp only[Bool.or_eq_true,bne_iff_ne,Bool.not_eq_true']at h
   rcases h with h | h
   ·have:(((ar QS s.2.2.2.2.2.1 kn).2).length==s.2.2.1.length+1)=false:=by rw[beq_eq_false_iff_ne];omega
    simp[this]
   ·have h':ZS (aE s) ((ar QS s.2.2.2.2.2.1 kn).2) (aE s).length=false:=h;simp[h']
  ·simp only[Bool.or_eq_false_iff,bne_eq_false_iff_eq,Bool.not_eq_false']at h;have h3:((Zq s (kn:Int)).length==(aE s).length+1)=true:=by rw[<- sx,beq_iff_eq];have:=h.1;((try simp only[bT,Qt,aE,Qn,Qp,Qj,QC,sX,sY,sG,sD,Qy,Qv,bf,QB,QA,Qq,Qr]at *);omega)
   have h4:ZS (aE s) (Zq s (kn:Int)) (aE s).length=true:=by rw[<- sx];exact h.2
   refine⟨λhl=>⟨⟨by omega,by have:=h.1;omega⟩,?_⟩,λhl=>?_⟩
   ·have hr:((ar QS s.2.2.2.2.2.1 kn).2)=Zq s (kn:Int):=by unfold Zq;rw[if_neg (by rw[show Qp s=false from jS];simp)];try rfl
    have hd:(((QZ (ar [] ((ar QS s.2.2.2.2.2.1 kn).2) s.2.2.1.length) t).1),((QZ (ar [] ((ar QS s.2.2.2.2.2.1 kn).2) s.2.2.1.length) t).2))=eM s (kn:Int) t:=by unfold eM;rw[if_pos (show Qn s=true from hl),<- hr];try rfl
    have hb:Yz s (kn:Int) t=QH ((QZ (ar [] ((ar QS s.2.2.2.2.2.1 kn).2) s.2.2.1.length) t).1) (Zw (Zm s)):=by
     rw[JB,<- hd,h1,h3,h4,decide_eq_true h2];rfl
    refine⟨λh=>au ?_,λh=>?_⟩
    ·rw[fk (by rw[hb];simpa using h)]
    ·have hv:QH ((QZ (ar [] ((ar QS s.2.2.2.2.2.1 kn).2) s.2.2.1.length) t).1) (Zw (Zm s))=true:=by simpa using h
     have cH:Yz s (kn:Int) t=true:=by rw[hb,hv]
     have CK:=Y3 hv;have da:=yz (t:=t) (rows:=(ar QS s.2.2.2.2.2.1 kn).2) (d:=(QZ (ar [] ((ar QS s.2.2.2.2.2.1 kn).2) s.2.2.1.length) t).1) (b:=(QZ (ar [] ((ar QS s.2.2.2.2.2.1 kn).2) s.2.2.1.length) t).2) (by rw[show QJ (Qj s) m=(kn:Int) from fR];exact cH) (by rw[show QJ (Qj s) m=(kn:Int) from fR] ;exact hr) (by rw[show QJ (Qj s) m=(kn:Int) from fR] ;exact hd);have ju:((ar QS s.2.2.2.2.2.1 kn).2).length=s.2.2.1.length+1:=by rw[hr];rw[beq_iff_eq]at h3;exact h3
     have kX:=uB s.2.2.1 ((ar QS s.2.2.2.2.2.1 kn).2) ((QZ (ar [] ((ar QS s.2.2.2.2.2.1 kn).2) s.2.2.1.length) t).1);refine⟨⟨⟨by omega,by rw[Ze];((try simp only[bT,Qt,aE,Qn,Qp,Qj,QC,sX,sY,sG,sD,Qy,Qv,bf,QB,QA,Qq,Qr]at *);omega)⟩,by omega⟩,?_,⟨⟨by omega,by omega,by omega⟩,⟨by omega,by omega,by omega⟩,?_,by omega⟩,au ?_⟩
     ·unfold Zo;simp only[YM,QL,QY]
      ((try simp only[bT,Qt,aE,Qn,Qp,Qj,QC,sX,sY,sG,sD,Qy,Qv,bf,QB,QA,Qq,Qr]at *);omega)
     ·rw[oV,Ze];((try simp only[bT,Qt,aE,Qn,Qp,Qj,QC,sX,sY,sG,sD,Qy,Qv,bf,QB,QA,Qq,Qr]at *);omega)
     ·rw[yA hk,da,show QJ (Qj s) m=(kn:Int) from fR,Int.toNat_natCast]
   ·have hr:((ar QS s.2.2.2.2.2.1 kn).2)=Zq s (kn:Int):=by unfold Zq;rw[if_neg (by rw[show Qp s=false from jS];simp)];try rfl
    have hd:((s.2.2.2.2.2.2.2.2.2.1),(false))=eM s (kn:Int) t:=by unfold eM;rw[if_neg (by rw[show Qn s=false from hl];simp)];try rfl
    have hb:Yz s (kn:Int) t=QH (s.2.2.2.2.2.2.2.2.2.1) (Zw (Zm s)):=by
     rw[JB,<- hd,h1,h3,h4,decide_eq_true h2];rfl
    refine⟨λh=>au ?_,λh=>?_⟩
    ·rw[fk (by rw[hb];simpa using h)]
    ·have hv:QH (s.2.2.2.2.2.2.2.2.2.1) (Zw (Zm s))=true:=by simpa using h
     have cH:Yz s (kn:Int) t=true:=by rw[hb,hv]
     have CK:=Y3 hv;have da:=yz (t:=t) (rows:=(ar QS s.2.2.2.2.2.1 kn).2) (d:=s.2.2.2.2.2.2.2.2.2.1) (b:=false) (by rw[show QJ (Qj s) m=(kn:Int) from fR];exact cH) (by rw[show QJ (Qj s) m=(kn:Int) from fR] ;exact hr) (by rw[show QJ (Qj s) m=(kn:Int) from fR] ;exact hd);have ju:((ar QS s.2.2.2.2.2.1 kn).2).length=s.2.2.1.length+1:=by rw[hr];rw[beq_iff_eq]at h3;exact h3
     have kX:=uB s.2.2.1 ((ar QS s.2.2.2.2.2.1 kn).2) (s.2.2.2.2.2.2.2.2.2.1);refine⟨⟨⟨by omega,by rw[Ze];((try simp only[bT,Qt,aE,Qn,Qp,Qj,QC,sX,sY,sG,sD,Qy,Qv,bf,QB,QA,Qq,Qr]at *);omega)⟩,by omega⟩,?_,⟨⟨by omega,by omega,by omega⟩,⟨by omega,by omega,by omega⟩,?_,by omega⟩,au ?_⟩
     ·unfold Zo;simp only[YM,QL,QY]
      ((try simp only[bT,Qt,aE,Qn,Qp,Qj,QC,sX,sY,sG,sD,Qy,Qv,bf,QB,QA,Qq,Qr]at *);omega)
     ·rw[oV,Ze];((try simp only[bT,Qt,aE,Qn,Qp,Qj,QC,sX,sY,sG,sD,Qy,Qv,bf,QB,QA,Qq,Qr]at *);omega)
     ·rw[yA hk,da,show QJ (Qj s) m=(kn:Int) from fR,Int.toNat_natCast]
theorem QUY:Qf Tryz.prog MG:=Qi λx h=>QK1 x.1 x.2.1 x.2.2.1 h
def JF(t:Qc):aB:=fZ (.a (aS.cells Qe t))
def MK:aI:=Qg 31 [(.a Qe),(.c TI),(.c (.sl [TI]))] λx=>(some (ph x.1 x.2.1 x.2.2.1),JF (ZC x.1 x.2.1 x.2.2.1))
def yC:aF:=⟨[uF,x9,ui,Yv,BG,Mb,KQ],false⟩
def QwZ:af :=
 (ag [(ag [(.ae [ab 53 12,ak 54 3 2,an 55 54 1,ba 56 55,aw 57 .lss 53 56]),(.cond 57 .skip (.exit 0))]),(.block 1 (ag [(.draw [ab 60 9,ab 61 12,a0 62 60 61 [(.sl [TI])],ak 63 62 0,an 64 63 1,aD 65 97 [64],bL 66 65,ab 67 66,.bt 67 false [ab 68 9,ab 69 12,a0 70 68 69 [(.sl [TI])],ak 71 70 0,an 72 71 1,ba 73 72,ak 74 3 2,an 75 74 1,ab 76 12,a0 77 75 76 aM,ak 78 77 1,an 79 78 1,aw 80 .neq 73 79] 81 80] []),(.cond 81 (ag [(.ae [a8 82 7 14,aU 6 82 14]),.ret]) .skip)])),(.ae [ab 58 12,aw 59 .add 58 (aq 1),ab 12 59])])
def Que:List (Nat × Md):=[(2,.one .d),(3,.b (dG 14)),(6,.b (dG 14)),(7,.b [.d,.d,.d,.d,.d,.f,.d,.d,.d,.d,.d,.d,.d,.d]),(8,.one .d),(9,.one .d),(10,.one .d),(11,.one .d),(12,.one .d)]
def QEx:af :=
 (ag [(ag [(.ae [ab 99 10,ba 100 99,ak 101 3 2,an 102 101 1,ak 103 3 2,an 104 103 1,ba 105 104,aw 106 .sub 105 (aq 1),a0 107 102 106 aM,ak 108 107 2,an 109 108 1,aw 110 .neq 100 109,ab 111 110,.bt 111 false [ab 112 10,aD 113 97 [112],bL 114 113] 115 114]),(.cond 115 (ag [(.ae [a8 116 7 14,aU 6 116 14]),.ret]) .skip)]),(.ae [ak 118 3 2,an 119 118 1,ab 120 9,ab 121 10,aD 122 108 [119,120,121],ab 117 122,bF 123 117 0,bF 124 117 1,bF 125 117 2,ab 15 123,ab 16 124,ab 17 125]),(.ae [ak 126 3 11,a8 127 126 3,ab 128 15,ab 129 11,ab 130 129,.bt 130 false [ab 131 17] 132 131,aC 133 (.build (bG Zj) [(0,1,128),(2,1,132)]),aD 134 109 [127,133],aC 18 (.new 37 (bG Zj)),aU 18 134 3]),(.ae [a8 135 18 3,ak 136 7 11,aU 136 135 3]),(.ae [ab 137 16,ak 138 7 10,aU 138 137 1]),(.ae [aC 139 (.bW 3 [TI] []),ak 140 7 9,aU 140 139 1]),(.ae [aC 141 (.bW 106 [(.sl [TI])] []),ak 142 7 6,aU 142 141 1]),(.draw [ak 143 7 5,an 144 143 1,ab 145 8,aC 146 (.fB 144 none (some 145) QE),ak 147 7 5,an 148 147 1,ab 149 8,aw 150 .add 149 (aq 1),aC 151 (.fB 148 (some 150) none QE),aC 152 (.app 146 151 108 QE),ak 153 7 5,aU 153 152 1] []),(.ae [a8 154 7 14,aU 6 154 14]),.ret])
def QQb:List (Nat × Md):=[(3,.b (dG 14)),(6,.b (dG 14)),(7,.b [.d,.d,.d,.d,.d,.f,.d,.d,.d,.d,.d,.d,.d,.d]),(8,.one .d),(9,.one .d),(10,.one .d),(11,.one .d)]
def QTy:af:=.wk QQb QEx
def QD4:af :=
 (ag [(ag [(.ae [ak 83 3 3,an 84 83 1]),(.cond 84 (ag [(.ae [ab 86 9,ak 87 3 2,an 88 87 1,ba 89 88,a0 90 86 89 [(.sl [TI])],ak 91 90 0,an 92 91 1,ab 93 2,aD 94 107 [92,93],ab 85 94,bF 95 85 0,bF 96 85 1,ab 13 95,ab 14 96]),(.ae [ab 97 13,ab 10 97]),(.ae [ab 98 14,ab 11 98])]) .skip)]),QTy])
def QuP:af :=
 (ag [(.ae [ak 43 3 9,an 44 43 1,ab 10 44]),(.ae [ab 11 (a6 false)]),(ag [(.ae [ab 45 9,ba 46 45,ak 47 3 2,an 48 47 1,ba 49 48,aw 50 .add 49 (aq 1),aw 51 .neq 46 50]),(.cond 51 (ag [(.ae [a8 52 7 14,aU 6 52 14]),.ret]) .skip)]),(ag [(.ae [ab 12 (aq 0)]),(.block 0 (.loop Que QwZ))]),QD4])
def QOP:List (Nat × Md):=[(2,.one .d),(3,.b (dG 14)),(6,.b (dG 14)),(7,.b [.d,.d,.d,.d,.d,.f,.d,.d,.d,.d,.d,.d,.d,.d]),(8,.one .d),(9,.one .d)]
def QLg:af:=.wk QOP QuP
def QLf:af :=
 (ag [(.ae [aC 3 (.box 39 0 14),aC 6 (.new 39 (bG Qe))]),(.ae [a8 19 3 14,aD 20 61 [19],aC 7 (.new 39 (bG Qe)),aU 7 20 14]),(.ae [ak 21 3 5,an 22 21 1,ab 23 1,aD 24 62 [22,23],ab 8 24]),(ag [(.ae [a8 25 3 14,aD 26 63 [25],bL 27 26,ab 28 27,.bt 28 false [ab 29 8,aw 30 .lss 29 (aq 0)] 31 30]),(.cond 31 (ag [(.ae [a8 32 7 14,aU 6 32 14]),.ret]) .skip)]),(.ae [ak 33 3 5,an 34 33 1,ab 35 8,a0 36 34 35 QE,ak 37 36 1,an 38 37 1,ab 9 38]),(ag [(.ae [ak 39 3 4,an 40 39 1]),(.cond 40 (.ae [ak 41 3 6,an 42 41 1,ab 9 42]) .skip)]),QLg])
def QCx:List (bn × Md):=[(.l 6 14 true,.b (dG 14))]
def CL:Qb:=TQ 0 0 QCx K
@[irreducible] def CM(s:Qc)(m:Int)(dm:List (List Int))(y5:List QD)(d:List Int)(sat:Bool):Prop:=let z1:=id (α:=Qc) s
 aO yC 0 QEx (CL K) ⟨[(3,(.p 0 0 0)),(6,(.p 1 0 0)),(7,(.p 3 0 0)),(8,(aL (QJ s.2.2.2.2.2.1 m))),(9,(bg [(.sl [TI])] dm)),(10,(bg [TI] d)),(11,(bE sat))],[(0,(.box (aS.cells Qe s))),(1,(.box (aS.cells Qe ((0:Int),[],[],false,false,[],[],[],[],[],[],[],(0:Int),false)))),(2,(.sl 108 QE .ow (List.take y5.length y5))),(3,(.box [(aL (z1.1)),(bg QP (z1.2.1)),(bg aM (z1.2.2.1)),(bE (z1.2.2.2.1)),(bE (z1.2.2.2.2.1)),(.r QE 2 0 ((List.take y5.length y5).length)),(bg [(.sl [TI])] (z1.2.2.2.2.2.2.1)),(bg [TI] (z1.2.2.2.2.2.2.2.1)),(bg [TI] (z1.2.2.2.2.2.2.2.2.1)),(bg [TI] (z1.2.2.2.2.2.2.2.2.2.1)),(bg [TI] (z1.2.2.2.2.2.2.2.2.2.2.1)),(bg [(.sl [TI])] (z1.2.2.2.2.2.2.2.2.2.2.2.1)),(aL (z1.2.2.2.2.2.2.2.2.2.2.2.2.1)),(bE (z1.2.2.2.2.2.2.2.2.2.2.2.2.2))]))],4⟩
def QNb:Qb:=aY (aO yC 0 QD4 (CL K)) (CL K)
def QSg:Qb:=a7 0 (QNb K)
def yD(s:Qc)(m:Int)(t:List Int)(dm:List (List Int))(i:Int)(y5:List QD):Prop:=let z1:=id (α:=Qc) s
 Loop yC 0 Que QwZ (QSg K) ⟨[(2,(bg [TI] t)),(3,(.p 0 0 0)),(6,(.p 1 0 0)),(7,(.p 3 0 0)),(8,(aL (QJ s.2.2.2.2.2.1 m))),(9,(bg [(.sl [TI])] dm)),(10,(bg [TI] s.2.2.2.2.2.2.2.2.2.1)),(11,(bE false)),(12,(aL i))],[(0,(.box (aS.cells Qe s))),(1,(.box (aS.cells Qe ((0:Int),[],[],false,false,[],[],[],[],[],[],[],(0:Int),false)))),(2,(.sl 108 QE .ow y5)),(3,(.box [(aL (z1.1)),(bg QP (z1.2.1)),(bg aM (z1.2.2.1)),(bE (z1.2.2.2.1)),(bE (z1.2.2.2.2.1)),(.r QE 2 0 y5.length),(bg [(.sl [TI])] (z1.2.2.2.2.2.2.1)),(bg [TI] (z1.2.2.2.2.2.2.2.1)),(bg [TI] (z1.2.2.2.2.2.2.2.2.1)),(bg [TI] (z1.2.2.2.2.2.2.2.2.2.1)),(bg [TI] (z1.2.2.2.2.2.2.2.2.2.2.1)),(bg [(.sl [TI])] (z1.2.2.2.2.2.2.2.2.2.2.2.1)),(aL (z1.2.2.2.2.2.2.2.2.2.2.2.2.1)),(bE (z1.2.2.2.2.2.2.2.2.2.2.2.2.2))]))],4⟩
@[irreducible] def CN(s:Qc)(m:Int)(t:List Int)(dm:List (List Int)):Prop:=let z1:=id (α:=Qc) s
 let z2:=List.take ((z1.2.2.2.2.2.1).length) (z1.2.2.2.2.2.1)
 aO yC 0 QuP (CL K) ⟨[(2,(bg [TI] t)),(3,(.p 0 0 0)),(6,(.p 1 0 0)),(7,(.p 3 0 0)),(8,(aL (QJ s.2.2.2.2.2.1 m))),(9,(bg [(.sl [TI])] dm))],[(0,(.box (aS.cells Qe s))),(1,(.box (aS.cells Qe ((0:Int),[],[],false,false,[],[],[],[],[],[],[],(0:Int),false)))),(2,(.sl 108 QE .ow z2)),(3,(.box [(aL (z1.1)),(bg QP (z1.2.1)),(bg aM (z1.2.2.1)),(bE (z1.2.2.2.1)),(bE (z1.2.2.2.2.1)),(.r QE 2 0 (z2.length)),(bg [(.sl [TI])] (z1.2.2.2.2.2.2.1)),(bg [TI] (z1.2.2.2.2.2.2.2.1)),(bg [TI] (z1.2.2.2.2.2.2.2.2.1)),(bg [TI] (z1.2.2.2.2.2.2.2.2.2.1)),(bg [TI] (z1.2.2.2.2.2.2.2.2.2.2.1)),(bg [(.sl [TI])] (z1.2.2.2.2.2.2.2.2.2.2.2.1)),(aL (z1.2.2.2.2.2.2.2.2.2.2.2.2.1)),(bE (z1.2.2.2.2.2.2.2.2.2.2.2.2.2))]))],4⟩
theorem QRc(s:Qc)(m:Int)(dm:List (List Int))(y5:List QD)(d:List Int)(sat:Bool) (h :
 let z2:=id (α:=Qc) s
 let z3:=QJ s.2.2.2.2.2.1 m
 let z5:=List.take y5.length y5
 let z1:=List.take (Int.toNat ((z5.length:Nat):Int)-Int.toNat (aG (z3+1))) (List.drop (0+Int.toNat (aG (z3+1))) z5)
 let z6:=Int.toNat z3-Int.toNat 0
 let z7:=Q2 s.2.2.1 dm d
 let z4:=Z0 s.2.2.2.2.2.2.2.2.2.2.2 (z7.1,(0:Int),(sat||(z7.2.2)))
 let z8:=aG (((s.2.2.1).length:Int)-1)
 ((0<=aG (((s.2.2.1).length:Int)-1)/\Int.toNat z8<(s.2.2.1).length)/\(aJ (((d.length:Int) != ((ar b5 s.2.2.1 (Int.toNat z8)).2.2.1))||(!(QK d))) (K (JF (z2.1,z2.2.1,z2.2.2.1,z2.2.2.2.1,z2.2.2.2.2.1,(List.take (z5.length) (List.drop 0 z5)),z2.2.2.2.2.2.2.1,z2.2.2.2.2.2.2.2.1,z2.2.2.2.2.2.2.2.2.1,z2.2.2.2.2.2.2.2.2.2.1,z2.2.2.2.2.2.2.2.2.2.2.1,z2.2.2.2.2.2.2.2.2.2.2.2.1,z2.2.2.2.2.2.2.2.2.2.2.2.2.1,z2.2.2.2.2.2.2.2.2.2.2.2.2.2))) ((Gq s.2.2.1 dm d)/\((Zo (α:=QO) (β:=QO) s.2.2.2.2.2.2.2.2.2.2.2 (z7.1,(0:Int),(sat||(z7.2.2))))/\((((0:Int)<=0/\0<=z3/\z3<=((z5.length:Nat):Int))/\((0<=aG (z3+1)/\aG (z3+1)<=((z5.length:Nat):Int)/\((z5.length:Nat):Int)<=((z5.length:Nat):Int))/\((z6=z5.length\/z6+z1.length<=z5.length)/\z6+z1.length<=ca)))/\K (JF (z2.1,z2.2.1,z2.2.2.1,z2.2.2.2.1,z2.2.2.2.2.1,(List.take (z6+z1.length) (List.drop 0 ((List.take z6 z5)++z1))),([]:List (List Int)),z2.2.2.2.2.2.2.2.1,z2.2.2.2.2.2.2.2.2.1,([]:List Int),z7.2.1,z4.1,z4.2.1,z4.2.2)))))))):dt (CM K s m dm y5 d sat) :=
 dt.of h
theorem Qtg(s:Qc)(m:Int)(t:List Int)(dm:List (List Int))(i:Int)(y5:List QD) (h :
 (aJ (decide (i<((s.2.2.1).length:Int))) (((0<=i/\Int.toNat i<dm.length)/\((!(!(QK (ar ([]:List Int) dm (Int.toNat i)))))=true->((0<=i/\Int.toNat i<dm.length)/\(0<=i/\Int.toNat i<(s.2.2.1).length))))/\(aJ ((!(QK (ar ([]:List Int) dm (Int.toNat i))))||(((ar ([]:List Int) dm (Int.toNat i)).length:Int) != ((ar b5 s.2.2.1 (Int.toNat i)).2.1))) (K (JF ((id (α:=Qc) s).1,(id (α:=Qc) s).2.1,(id (α:=Qc) s).2.2.1,(id (α:=Qc) s).2.2.2.1,(id (α:=Qc) s).2.2.2.2.1,(List.take y5.length (List.drop 0 y5)),(id (α:=Qc) s).2.2.2.2.2.2.1,(id (α:=Qc) s).2.2.2.2.2.2.2.1,(id (α:=Qc) s).2.2.2.2.2.2.2.2.1,(id (α:=Qc) s).2.2.2.2.2.2.2.2.2.1,(id (α:=Qc) s).2.2.2.2.2.2.2.2.2.2.1,(id (α:=Qc) s).2.2.2.2.2.2.2.2.2.2.2.1,(id (α:=Qc) s).2.2.2.2.2.2.2.2.2.2.2.2.1,(id (α:=Qc) s).2.2.2.2.2.2.2.2.2.2.2.2.2))) (yD K s m t dm (aG (i+1)) (List.take y5.length y5)))) (aJ s.2.2.2.1 ((0<=((s.2.2.1).length:Int)/\Int.toNat ((s.2.2.1).length:Int)<dm.length)/\(CM K s m dm y5 ((QZ (ar ([]:List Int) dm (Int.toNat ((s.2.2.1).length:Int))) t).1) ((QZ (ar ([]:List Int) dm (Int.toNat ((s.2.2.1).length:Int))) t).2))) (CM K s m dm y5 s.2.2.2.2.2.2.2.2.2.1 false)))):yD K s m t dm i y5 :=
 Loop.of h
theorem QN0(s:Qc)(m:Int)(t:List Int)(dm:List (List Int)) (h :
 let z1:=id (α:=Qc) s
 let z2:=List.take ((z1.2.2.2.2.2.1).length) (z1.2.2.2.2.2.1)
 (aJ ((dm.length:Int) != (aG (((s.2.2.1).length:Int)+1))) (K (JF (z1.1,z1.2.1,z1.2.2.1,z1.2.2.2.1,z1.2.2.2.2.1,(List.take (z2.length) (List.drop 0 z2)),z1.2.2.2.2.2.2.1,z1.2.2.2.2.2.2.2.1,z1.2.2.2.2.2.2.2.2.1,z1.2.2.2.2.2.2.2.2.2.1,z1.2.2.2.2.2.2.2.2.2.2.1,z1.2.2.2.2.2.2.2.2.2.2.2.1,z1.2.2.2.2.2.2.2.2.2.2.2.2.1,z1.2.2.2.2.2.2.2.2.2.2.2.2.2))) (yD K s m t dm 0 (List.take (z2.length) z2)))):dt (CN K s m t dm) :=
 dt.of h
theorem QVY(s:Qc)(m:Int)(t:List Int)(hp:ph s m t):aK Tryz.prog 31 [(.a (aS.cells Qe s)),(.c TI m),(.c (.sl [TI]) t)] (JF (ZC s m t)):=by
 refine bz yC QLf QCx 0 0 155 MK (kc CD (kc K5 (kc Bs (kc YK (kc Qwz (kc QV8 (kc QX8 kn))))))) (λK =>
 ((Qs (α:=Qc) s)/\(aJ ((!(QU s))||(decide ((QJ s.2.2.2.2.2.1 m)<0))) (K (JF ((id (α:=Qc) s).1,(id (α:=Qc) s).2.1,(id (α:=Qc) s).2.2.1,(id (α:=Qc) s).2.2.2.1,(id (α:=Qc) s).2.2.2.2.1,(List.take (((id (α:=Qc) s).2.2.2.2.2.1).length) (List.drop 0 ((id (α:=Qc) s).2.2.2.2.2.1))),(id (α:=Qc) s).2.2.2.2.2.2.1,(id (α:=Qc) s).2.2.2.2.2.2.2.1,(id (α:=Qc) s).2.2.2.2.2.2.2.2.1,(id (α:=Qc) s).2.2.2.2.2.2.2.2.2.1,(id (α:=Qc) s).2.2.2.2.2.2.2.2.2.2.1,(id (α:=Qc) s).2.2.2.2.2.2.2.2.2.2.2.1,(id (α:=Qc) s).2.2.2.2.2.2.2.2.2.2.2.2.1,(id (α:=Qc) s).2.2.2.2.2.2.2.2.2.2.2.2.2))) (((0:Int)<=(QJ s.2.2.2.2.2.1 m)/\Int.toNat (QJ s.2.2.2.2.2.1 m)<(s.2.2.2.2.2.1).length)/\(aJ s.2.2.2.2.1 (CN K s m t s.2.2.2.2.2.2.1) (CN K s m t ((ar QS s.2.2.2.2.2.1 (Int.toNat (QJ s.2.2.2.2.2.1 m))).2))))))) (λhb=>?_)
 have ij:Sz.sz s<=2147483648:=hp;have hs:=ZL s;have l1:=Yo (Qj s);obtain⟨kf,fR⟩:∃ kf,QJ s.2.2.2.2.2.1 m=kf:=⟨_,rfl⟩
 have hf:=yy (Qj s) m;rw[show QJ (Qj s) m=kf from fR]at hf;have fk:Yz s kf t=false->(ZC s m t)=s:=λh=>QCQ (by rw[show QJ (Qj s) m=kf from fR,h];simp);have k4:QU s=true->0<=kf->∀ rows d sat,rows=Zq s kf->(d,sat)=eM s kf t->((Zq s kf).length==(aE s).length+1)=true->ZS (aE s) (Zq s kf) (aE s).length=true->CM (λr'=>r'=JF (ZC s m t)) s m rows s.2.2.2.2.2.1 d sat:=by
  intro h1 h2 rows d sat hr hd h3 h4;have hm:=YU h1;have cW:1<=s.2.2.1.length/\s.2.2.1.length<=8:=Yu hm;have hb:Yz s kf t=QH d (Zw (Zm s)):=by
   rw[JB,<- hd,h1,h3,h4,decide_eq_true h2];rfl
  obtain⟨kn,jw⟩:∃ kn:Nat,kf=kn:=⟨kf.toNat,by omega⟩
  have hw:aG ((s.2.2.1.length:Int)-1)=((s.2.2.1.length-1:Nat):Int):=by rw[QG (by omega) (by omega)];omega
  have hg:(((d.length:Int) != (ar b5 s.2.2.1 (s.2.2.1.length-1)).2.2.1)||(!(QK d))) = !QH d (Zw (Zm s)):=by
   rw[show Zw (Zm s)=_ from QDD hm];show _ = !(QK d&&((d.length:Int)==(ar b5 s.2.2.1 (s.2.2.1.length-1)).2.2.1));simp only[bne]
   cases QK d <;> cases((d.length:Int)==(ar b5 s.2.2.1 (s.2.2.1.length-1)).2.2.1) <;> rfl
  refine(QRc _ _ _ _ _ _ _ ?_).h
  conv=>zeta
  simp only[id,List.drop_zero,List.take_length,true_or,true_and,Nat.zero_add];rw[fR,jw,hw,Int.toNat_natCast,hg];refine⟨⟨by omega,by omega⟩,λh=>au ?_,λh=>?_⟩
  ·rw[fk (by rw[hb];simpa using h)]
  ·have hv:QH d (Zw (Zm s))=true:=by simpa using h
   have cH:Yz s kf t=true:=by rw[hb,hv]
   have CK:=Y3 hv;rw[beq_iff_eq]at h3;have fF:=QEt h1;have yB:Sz.sz (α:=QO) s.2.2.2.2.2.2.2.2.2.2.2<=296:=Tx (YU h1) ⟨fF.1,fF.2⟩;have da:=yz (t:=t) (rows:=rows) (d:=d) (b:=sat) (by rw[show QJ (Qj s) m=kf from fR];exact cH) (by rw[show QJ (Qj s) m=kf from fR] ;exact hr) (by rw[show QJ (Qj s) m=kf from fR] ;exact hd);have hk:kn<s.2.2.2.2.2.1.length:=by((try simp only[bT,Qt,aE,Qn,Qp,Qj,QC,sX,sY,sG,sD,Qy,Qv,bf,QB,QA,Qq,Qr]at *);omega)
   have ju:rows.length=s.2.2.1.length+1:=by rw[hr];exact h3
   have kX:=uB s.2.2.1 rows d;have oV:(List.take (s.2.2.2.2.2.1.length-(kn+1)) (List.drop (kn+1) s.2.2.2.2.2.1)).length=s.2.2.2.2.2.1.length-(kn+1):=by simp
   rw[dL (by((try simp only[bT,Qt,aE,Qn,Qp,Qj,QC,sX,sY,sG,sD,Qy,Qv,bf,QB,QA,Qq,Qr]at *);omega))];simp only[Int.toNat_natCast,show Int.toNat 0=0 from rfl,Nat.sub_zero];refine⟨⟨by omega,by rw[Ze];((try simp only[bT,Qt,aE,Qn,Qp,Qj,QC,sX,sY,sG,sD,Qy,Qv,bf,QB,QA,Qq,Qr]at *);omega)⟩,?_,⟨⟨by omega,by omega,by omega⟩,⟨by omega,by omega,by omega⟩,?_⟩,au ?_⟩
   ·unfold Zo;simp only[YM,QL,QY]
    ((try simp only[bT,Qt,aE,Qn,Qp,Qj,QC,sX,sY,sG,sD,Qy,Qv,bf,QB,QA,Qq,Qr]at *);omega)
   ·rw[oV,Ze];((try simp only[bT,Qt,aE,Qn,Qp,Qj,QC,sX,sY,sG,sD,Qy,Qv,bf,QB,QA,Qq,Qr]at *);omega)
   ·rw[yA hk,da,show QJ (Qj s) m=kf from fR,jw,Int.toNat_natCast]
 have k3:QU s=true->0<=kf->∀ rows,rows=Zq s kf->((Zq s kf).length==(aE s).length+1)=true->yD (λr'=>r'=JF (ZC s m t)) s m t rows ((0:Nat):Int) s.2.2.2.2.2.1:=by
  intro h1 h2 rows hr h3;have hm:=YU h1;have cW:1<=s.2.2.1.length/\s.2.2.1.length<=8:=Yu hm;have ju:rows.length=s.2.2.1.length+1:=by rw[hr];exact beq_iff_eq.1 h3
  refine rh s.2.2.1.length (λk=>YE s.2.2.1 k ((rows.drop k).take (s.2.2.1.length-k))=ZS s.2.2.1 rows s.2.2.1.length->yD (λr'=>r'=JF (ZC s m t)) s m t rows (k:Int) s.2.2.2.2.2.1) ?_ ?_ ?_
  ·intro hg;rw[Nat.sub_self,List.take_zero,YE]at hg;have h4:ZS (aE s) (Zq s kf) (aE s).length=true:=by rw[<- hr];exact hg.symm
   refine Qtg _ _ _ _ _ _ _ ⟨λh=>by simp at h,λ_=>⟨λhl=>⟨⟨by omega,by rw[Int.toNat_natCast];omega⟩,?_⟩,λhl=>k4 h1 h2 _ _ _ hr ?_ h3 h4⟩⟩
   ·rw[Int.toNat_natCast];refine k4 h1 h2 _ _ _ hr ?_ h3 h4;unfold eM;rw[if_pos hl,<- hr]
   ·unfold eM;rw[if_neg (by rw[show Qn s=false from hl];simp)]
  ·intro k hk ih hg;rw[QMT hk (by omega)]at hg;have hv:((!(QK (ar [] rows k)))||(((ar [] rows k).length:Int) != (ar b5 s.2.2.1 k).2.1)) = !QH (ar [] rows k) (ar b5 s.2.2.1 k).2.1:=by
    unfold QH;simp only[bne]
    cases QK (ar [] rows k) <;> cases(((ar [] rows k).length:Int)==(ar b5 s.2.2.1 k).2.1) <;> rfl
   refine Qtg _ _ _ _ _ _ _ ⟨λ_=>?_,λh=>by simp at h;omega⟩;simp only[id,List.drop_zero,List.take_length,Int.toNat_natCast];rw[hv,dL (by omega)];refine⟨⟨⟨by omega,by omega⟩,λ_=>⟨⟨by omega,by omega⟩,by omega,by omega⟩⟩,λh=>au ?_,λh=>ih ?_⟩
   ·rw[fk];have h5:QH (ar [] rows k) (ar b5 s.2.2.1 k).2.1=false:=by simpa using h
    rw[h5,Bool.false_and]at hg;rw[JB,<- hr,show ZS (aE s) rows (aE s).length=false from hg.symm];simp
   ·have h5:QH (ar [] rows k) (ar b5 s.2.2.1 k).2.1=true:=by simpa using h
    rw[h5,Bool.true_and]at hg;exact hg
  ·rw[List.drop_zero,Nat.sub_zero];unfold ZS;rw[Int.toNat_natCast]
 have k1:QU s=true->0<=kf->∀ rows,rows=Zq s kf->CN (λr'=>r'=JF (ZC s m t)) s m t rows:=by
  intro h1 h2 rows hr;have cW:1<=s.2.2.1.length/\s.2.2.1.length<=8:=Yu (YU h1);refine(QN0 _ _ _ _ _ ?_).h
  conv=>zeta
  simp only[id,List.drop_zero,List.take_length,true_or,true_and,Nat.zero_add,Int.toNat_natCast];rw[dL (k:=s.2.2.1.length) (by omega)];refine⟨λh=>au ?_,λh=>k3 h1 h2 _ hr ?_⟩
  ·rw[fk];have:(rows.length==s.2.2.1.length+1)=false:=by
    rw[beq_eq_false_iff_ne];simp only[bne_iff_ne]at h;omega
   rw[JB,<- hr];simp[this]
  ·rw[<- hr,beq_iff_eq];simp only[bne_eq_false_iff_eq]at h
   ((try simp only[bT,Qt,aE,Qn,Qp,Qj,QC,sX,sY,sG,sD,Qy,Qv,bf,QB,QA,Qq,Qr]at *);omega)
 simp only[id,List.drop_zero,List.take_length,true_or,true_and,Nat.zero_add];rw[Cx,show QJ (Qj s) m=kf from fR];refine⟨hp,λh=>au ?_,λh=>?_⟩
 ·rw[fk];simp only[Bool.not_eq_true']at h;rw[JB,h];rfl
 ·simp only[Bool.not_eq_false',Bool.and_eq_true,decide_eq_true_eq]at h;refine⟨⟨h.2,by((try simp only[bT,Qt,aE,Qn,Qp,Qj,QC,sX,sY,sG,sD,Qy,Qv,bf,QB,QA,Qq,Qr]at *);omega)⟩,λhr=>k1 h.1 h.2 _ ?_,λhr=>k1 h.1 h.2 _ ?_⟩
  ·unfold Zq;rw[if_pos hr]
  ·unfold Zq;rw[if_neg (by rw[show Qp s=false from hr];simp)]
theorem QJ2:Qf Tryz.prog MK:=Qi λx h=>QVY x.1 x.2.1 x.2.2.1 h
end
end Go.Proofs.YtdplaepmjogjjaaGreat.Am

namespace Go.Proofs.YtdplaepmjogjjaaGreat.Am
open Go Go.RowKit Go.Proofs.YtdplaepmjogjjaaGreat
set_option linter.all false
noncomputable section
variable (K:aB->Prop)
def ML(t:Bool):aB:=b6 (bE t)
def CO:aI:=Qg 221 [(.a Qu)] λx=>(none,ML (Yq x.1))
def QTl:aF:=⟨[nP],false⟩
def QHw:af :=
 (ag [(.ae [aC 1 (.box 178 0 2),ab 2 (a6 false)]),(.ae [ak 3 1 1,an 4 3 1,aD 5 187 [4],ab 6 5,.bt 6 true [ak 7 1 0,an 8 7 1,aw 9 .geq 8 (aq 0)] 10 9,ab 11 10,.bt 11 true [ak 12 1 0,an 13 12 1,aw 14 .lss 13 (aq 5)] 15 14,ab 2 15]),.ret])
def QPa:List (bn × Md):=[(.t 2,.one .d)]
theorem QHa(x:Qm):aK Tryz.prog 221 [(.a [(.c TI x.1),(.c (.sl [TI]) x.2)])] (ML (Yq x)):=by
 refine bz QTl QHw QPa 0 0 16 CO (kc sa kn) (λK =>
 K (ML (((QK x.2)&&(decide (x.1>=0)))&&(decide (x.1<5))))) (λhb=>?_)
 exact au (by grind[Yq])
theorem Qsm:Qf Tryz.prog CO:=Qi λx _=>QHa x.1
def CP(t:Bool):aB:=b6 (bE t)
def yE:aI:=Qg 218 [(.a Qh)] λx=>(none,CP (Q0 x.1))
def MM:aF:=⟨[Yv,YV],false⟩
def Qs9:af :=
 (ag [(ag [(.ae [ab 4 3,ak 5 1 1,an 6 5 1,ba 7 6,aw 8 .lss 4 7]),(.cond 8 .skip (.exit 0))]),(.block 1 (ag [(.ae [ak 11 1 1,an 12 11 1,ab 13 3,a0 14 12 13 Qu,ak 15 14 1,an 16 15 1,aD 17 97 [16],bL 18 17,ab 19 18,.bt 19 false [ak 20 1 1,an 21 20 1,ab 22 3,a0 23 21 22 Qu,ak 24 23 0,an 25 24 1,aD 26 158 [25,(aq 0),(aq 4)],bL 27 26] 28 27]),(.cond 28 (ag [(.ae [ab 2 (a6 false)]),.ret]) .skip)])),(.ae [ab 9 3,aw 10 .add 9 (aq 1),ab 3 10])])
def QBn:List (Nat × Md):=[(1,.b [.d,.d]),(3,.one .d)]
def QDZ:af :=
 (ag [(.ae [ak 29 1 0,an 30 29 1,aD 31 158 [30,(aq 1),(aq 5)],ab 32 31,.bt 32 true [ak 33 1 1,an 34 33 1,ba 35 34,ak 36 1 0,an 37 36 1,aw 38 .leq 35 37] 39 38,ab 2 39]),.ret])
def QM3:af :=
 (ag [(.ae [aC 1 (.box 161 0 2),ab 2 (a6 false)]),(ag [(.ae [ab 3 (aq 0)]),(.block 0 (.loop QBn Qs9))]),QDZ])
def QEE:List (bn × Md):=[(.t 2,.one .d)]
def QDx:Qb:=TQ 0 0 QEE K
def QUb:Qb:=aY (aO MM 0 QDZ (QDx K)) (QDx K)
def QUr:Qb:=a7 0 (QUb K)
def CQ(q:Qd)(i:Int):Prop:=Loop MM 0 QBn Qs9 (QUr K) ⟨[(1,(.p 0 0 0)),(3,(aL i))],[(0,(.box [(aL q.1),(bg Qu q.2)]))],1⟩
theorem Qzb(q:Qd)(i:Int) (h :
 (aJ (decide (i<((q.2).length:Int))) (((0<=i/\Int.toNat i<(q.2).length)/\((!(!(QK ((ar ((0,[]):Qm) q.2 (Int.toNat i)).2))))=true->(0<=i/\Int.toNat i<(q.2).length)))/\(aJ ((!(QK ((ar ((0,[]):Qm) q.2 (Int.toNat i)).2)))||(!(bj ((ar ((0,[]):Qm) q.2 (Int.toNat i)).1) (0:Int) (4:Int)))) (K (CP false)) (CQ K q (aG (i+1))))) (K (CP ((bj q.1 (1:Int) (5:Int))&&(decide (((q.2).length:Int)<=q.1))))))):CQ K q i :=
 Loop.of h
theorem QUZ(q:Qd):aK Tryz.prog 218 [(.a [(.c TI q.1),(.c (.sl Qu) q.2)])] (CP (Q0 q)):=by
 refine bz MM QM3 QEE 0 0 40 yE (kc YK (kc Js kn)) (λK =>
 (CQ K q 0)) (λhb=>?_)
 have l7:(q.2).length<=9223372036854775807:=hb.1.2.1.1;refine Zf q.2 (λr k=>r.all Yq=q.2.all Yq->CQ _ q k) ?_ ?_ rfl
 ·intro he;refine Qzb _ q _ ⟨λh=>by simp at h,λ_=>?_⟩;grind[Q0,bj]
 ·intro k x r hk aW hg ih he;refine Qzb _ q _ ⟨λ_=>?_,λh=>by simp at h;omega⟩;rw[Int.toNat_natCast,hg,QG (by omega) (by omega)];grind[Q0,Yq,bj]
theorem MN:Qf Tryz.prog yE:=Qi λx _=>QUZ x.1
def sy(t:Bool):aB:=b6 (bE t)
def yF:aI:=Qg 220 [(.a Qh)] λx=>(none,sy (Q0 x.1))
def MO:aF:=⟨[CO],false⟩
def QvK:af :=
 (ag [(.ae [aw 25 .lss 24 23]),(.cond 25 .skip (.exit 0)),(.block 1 (ag [(.ae [a0 26 22 24 Qu,a8 27 26 2,aC 4 (.new 178 (bG Qu)),aU 4 27 2]),(.ae [a8 28 4 2,aD 29 221 [28],bL 30 29]),(.cond 30 (ag [(.ae [ab 2 (a6 false)]),.ret]) .skip)])),(.ae [aw 31 .add 24 (aq 1),ab 24 31])])
def Qq8:List (Nat × Md):=eV [22,23,24]
def Qxn:af :=
 (ag [(.ae [ab 2 (a6 true)]),.ret])
def QTK:af :=
 (ag [(.ae [aC 1 (.box 161 0 2),ab 2 (a6 false)]),(ag [(.ae [ak 5 1 0,an 6 5 1,aw 7 .lss 6 (aq 1),ab 8 7,.bt 8 false [ak 9 1 0,an 10 9 1,aw 11 .gtr 10 (aq 5)] 12 11,ab 13 12,.bt 13 false [ak 14 1 1,an 15 14 1,ba 16 15,ak 17 1 0,an 18 17 1,aw 19 .gtr 16 18] 20 19]),(.cond 20 (ag [(.ae [ab 2 (a6 false)]),.ret]) .skip)]),(ag [(.ae [ak 21 1 1,an 22 21 1,ba 23 22,ab 24 (aq 0)]),(.block 0 (.loop Qq8 QvK))]),Qxn])
def Qvn:List (bn × Md):=[(.t 2,.one .d)]
def QCu:Qb:=TQ 0 0 Qvn K
def QLR:Qb:=aY (aO MO 0 Qxn (QCu K)) (QCu K)
def QQg:Qb:=a7 0 (QLR K)
def MP(q:Qd)(x:Int):Prop:=Loop MO 0 Qq8 QvK (QQg K) ⟨[(22,(bg Qu q.2)),(23,(aL ((q.2).length:Int))),(24,(aL x))],[],0⟩
theorem QXA(q:Qd)(x:Int) (h :
 (aJ (decide (x<((q.2).length:Int))) ((0<=x/\Int.toNat x<(q.2).length)/\(aJ (!(Yq (ar ((0,[]):Qm) q.2 (Int.toNat x)))) (K (sy false)) (MP K q (aG (x+1))))) (K (sy true)))):MP K q x :=
 Loop.of h
theorem QRJ(q:Qd):aK Tryz.prog 220 [(.a [(.c TI q.1),(.c (.sl Qu) q.2)])] (sy (Q0 q)):=by
 refine bz MO QTK Qvn 0 0 32 yF (kc Qsm kn) (λK =>
 (aJ (((decide (q.1<1))||(decide (q.1>5)))||(decide (((q.2).length:Int)>q.1))) (K (sy false)) (MP K q 0))) (λhb=>?_)
 have l7:(q.2).length<=9223372036854775807:=hb.1.2.1.1;refine⟨λh=>au ?_,λh=>oW (Q:=λx=>sy x=sy (Q0 q)) (p:=Yq) (c:=λx=>!(Yq x)) (0,[]) l7 (λ_=>rfl) (λi h=>QXA _ q i h) (au ?_)⟩
 ·grind[Q0]
 ·grind[Q0]
theorem MQ:Qf Tryz.prog yF:=Qi λx _=>QRJ x.1
def MR(t:Bool):aB:=b6 (bE t)
def MS:aI:=Qg 180 [(.a Qh)] λx=>(none,MR (oT x.1))
def QXb:aF:=⟨[],false⟩
def QPg:af :=
 (ag [(.ae [aC 1 (.box 161 0 2),ab 2 (a6 false)]),(.ae [ak 3 1 1,an 4 3 1,ba 5 4,ak 6 1 0,an 7 6 1,aw 8 .lss 5 7,ab 2 8]),.ret])
def QYD:List (bn × Md):=[(.t 2,.one .d)]
theorem QNe(q:Qd):aK Tryz.prog 180 [(.a [(.c TI q.1),(.c (.sl Qu) q.2)])] (MR (oT q)):=by
 refine bz QXb QPg QYD 0 0 9 MS kn (λK =>
 K (MR (decide (((q.2).length:Int)<q.1)))) (λhb=>?_)
 exact au rfl
theorem QGR:Qf Tryz.prog MS:=Qi λx _=>QNe x.1
def yG(t:Qd):aB:=⟨(.a [(aL t.1),(.r Qu 0 0 ((t.2).length))]),[(.sl 178 Qu (.dp 0 true []) t.2)],[],false,[]⟩
def yH:aI:=Qg 219 [(.a Qh)] λx=>(some (Qs (α:=Qd) x.1),yG (id (α:=Qd) x.1))
def MT:aF:=⟨[Jy],true⟩
def Qzs:af :=
 (ag [(.ae [aw 13 .lss 12 11]),(.cond 13 .skip (.exit 0)),(.block 1 (ag [(.ae [a0 14 10 12 Qu,a8 15 14 2,aC 5 (.new 178 (bG Qu)),aU 5 15 2]),(.draw [ak 16 3 1,an 17 16 1,ak 18 5 0,an 19 18 1,ak 20 5 1,an 21 20 1,aD 22 104 [21],aC 23 (.build (bG Qu) [(0,1,19),(1,1,22)]),aC 24 (.bW 178 Qu [23]),aC 25 (.app 17 24 178 Qu),ak 26 3 1,aU 26 25 1] [(0,6),(1,6),(2,6),(3,6),(0,8),(1,8)])])),(.ae [aw 27 .add 12 (aq 1),ab 12 27])])
def QDt:List (Nat × Md):=[(2,.b [.d,.f]),(3,.b [.d,.p 178]),(10,.one .d),(11,.one .d),(12,.one .d)]
def QBu:af :=
 (ag [(.ae [a8 28 3 2,aU 2 28 2]),.ret])
def QWv:af :=
 (ag [(.ae [aC 1 (.box 161 0 2),aC 2 (.new 161 (bG Qh))]),(.ae [ak 6 1 0,an 7 6 1,aC 8 (.build (bG Qh) [(0,1,7)]),aC 3 (.new 161 (bG Qh)),aU 3 8 2]),(ag [(.ae [ak 9 1 1,an 10 9 1,ba 11 10,ab 12 (aq 0)]),(.block 0 (.loop QDt Qzs))]),QBu])
def QCe:List (bn × Md):=[(.l 2 2 true,.b [.d,.p 178])]
def Qrd:Qb:=TQ 0 0 QCe K
def QVe:Qb:=aY (aO MT 0 QBu (Qrd K)) (Qrd K)
def QOJ:Qb:=a7 0 (QVe K)
def MU(q:Qd)(x:Int)(r1:List Qm):Prop:=Loop MT 0 QDt Qzs (QOJ K) ⟨[(2,(.p 0 0 0)),(3,(.p 2 0 0)),(10,(bg Qu q.2)),(11,(aL ((q.2).length:Int))),(12,(aL x))],[(0,(.box [(aL 0),(.n Qu)])),(1,(.sl 178 Qu (.dp 0 true []) r1)),(2,(.box [(aL q.1),(.r Qu 1 0 r1.length)]))],3⟩
theorem Qzg(q:Qd)(x:Int)(r1:List Qm) (h :
 (aJ (decide (x<((q.2).length:Int))) ((0<=x/\Int.toNat x<(q.2).length)/\(((Qs (α:=List Int) ((ar ((0,[]):Qm) q.2 (Int.toNat x)).2))/\((r1.length=r1.length\/r1.length+1<=r1.length)/\r1.length+1<=ca))/\(MU K q (aG (x+1)) (List.take (r1.length+1) ((List.take r1.length r1)++([((ar ((0,[]):Qm) q.2 (Int.toNat x)).1,(List.take ((id (α:=List Int) ((ar ((0,[]):Qm) q.2 (Int.toNat x)).2)).length) (List.drop 0 (id (α:=List Int) ((ar ((0,[]):Qm) q.2 (Int.toNat x)).2)))))])))))) (K (yG (q.1,(List.take r1.length r1)))))):MU K q x r1 :=
 Loop.of h
theorem QVh(q:Qd)(hp:Qs (α:=Qd) q):aK Tryz.prog 219 [(.a [(.c TI q.1),(.c (.sl Qu) q.2)])] (yG (id (α:=Qd) q)):=by
 refine bz MT QWv QCe 0 0 29 yH (kc nR kn) (λK =>
 (MU K q 0 ([]:List Qm))) (λhb=>?_)
 unfold Qs at hp;simp only[QR,QL]at hp;refine YC (l:=q.2) (Q:=λz=>yG (q.1,z)=yG (id (α:=Qd) q)) (by omega) (λk x v hk hl hg hv hx ih=>?_) (λhq=>?_) (au rfl)
 ·refine Qzg _ _ _ _ ⟨λ_=>?_,λh=>by simp at h;omega⟩;simp only[QR,QL]at hx;rw[Int.toNat_natCast,hg,dL (by omega),Q8,rF];exact⟨⟨by omega,hk⟩,⟨(show Sz.sz (_:List Int)<=2147483648 by omega),room (by omega)⟩,ih⟩
 ·refine Qzg _ _ _ _ ⟨λh=>by simp at h,λ_=>?_⟩;rw[List.take_length];exact hq
theorem MV:Qf Tryz.prog yH:=Qi λx h=>QVh x.1 h
def yI(t:Qd):aB:=⟨(.a [(aL t.1),(.r Qu 0 0 ((t.2).length))]),[(.sl 178 Qu .ow t.2)],[],true,[]⟩
def yJ:aI:=Qg 217 [(.a Qh)] λx=>(some (Qs (α:=Qd) x.1),yI (id (α:=Qd) x.1))
def MW:aF:=⟨[],false⟩
def QsF:af :=
 (ag [(ag [(.ae [ab 6 4,ak 7 1 1,an 8 7 1,ba 9 8,aw 10 .lss 6 9]),(.cond 10 .skip (.exit 0))]),(.block 1 (.draw [ab 13 3,ak 14 1 1,an 15 14 1,ab 16 4,a0 17 15 16 Qu,ak 18 17 0,an 19 18 1,aC 20 (.bW 3 [TI] []),ak 21 1 1,an 22 21 1,ab 23 4,a0 24 22 23 Qu,ak 25 24 1,an 26 25 1,aC 27 (.app 20 26 3 [TI]),aC 28 (.build (bG Qu) [(0,1,19),(1,1,27)]),aC 29 (.bW 178 Qu [28]),aC 30 (.app 13 29 178 Qu),ab 3 30] [(1,7),(2,7),(4,7),(5,7),(6,7),(7,8),(7,9),(7,11),(7,12),(7,13),(1,14),(2,14),(4,14),(5,14),(6,14)])),(.ae [ab 11 4,aw 12 .add 11 (aq 1),ab 4 12])])
def QE2:List (Nat × Md):=[(1,.b [.d,.d]),(2,.b [.d,.d]),(3,.one .f),(4,.one .d)]
def QBT:af :=
 (ag [(.ae [ab 31 3,ak 32 1 1,aU 32 31 1]),(.ae [a8 33 1 2,aU 2 33 2]),.ret])
def QSZ:af :=
 (ag [(.ae [aC 1 (.box 161 0 2),aC 2 (.new 161 (bG Qh))]),(.ae [aC 5 (.bW 178 Qu []),ab 3 5]),(ag [(.ae [ab 4 (aq 0)]),(.block 0 (.loop QE2 QsF))]),QBT])
def QEe:List (bn × Md):=[(.l 2 2 true,.b [.d,.o 178])]
def Qs5:Qb:=TQ 0 0 QEe K
def QQB:Qb:=aY (aO MW 0 QBT (Qs5 K)) (Qs5 K)
def QSx:Qb:=a7 0 (QQB K)
def MX(q:Qd)(i:Int)(l:List Qm):Prop:=Loop MW 0 QE2 QsF (QSx K) ⟨[(1,(.p 0 0 0)),(2,(.p 1 0 0)),(3,(.r Qu 2 0 l.length)),(4,(aL i))],[(0,(.box [(aL q.1),(bg Qu q.2)])),(1,(.box [(aL 0),(bg Qu ([]))])),(2,(.sl 178 Qu .ow l))],3⟩
theorem QD5(q:Qd)(i:Int)(l:List Qm) (h :
 (aJ (decide (i<((q.2).length:Int))) (((0<=i/\Int.toNat i<(q.2).length)/\((0<=i/\Int.toNat i<(q.2).length)/\(((0=0\/0+((ar ((0,[]):Qm) q.2 (Int.toNat i)).2).length<=0)/\0+((ar ((0,[]):Qm) q.2 (Int.toNat i)).2).length<=ca)/\((l.length=l.length\/l.length+1<=l.length)/\l.length+1<=ca))))/\(MX K q (aG (i+1)) (List.take (l.length+1) ((List.take l.length l)++([((ar ((0,[]):Qm) q.2 (Int.toNat i)).1,(List.take (0+((ar ((0,[]):Qm) q.2 (Int.toNat i)).2).length) (List.drop 0 ((ar ((0,[]):Qm) q.2 (Int.toNat i)).2))))]))))) (K (yI (q.1,(List.take l.length l)))))):MX K q i l :=
 Loop.of h
theorem QNj(q:Qd)(hp:Qs (α:=Qd) q):aK Tryz.prog 217 [(.a [(.c TI q.1),(.c (.sl Qu) q.2)])] (yI (id (α:=Qd) q)):=by
 refine bz MW QSZ QEe 0 0 34 yJ kn (λK =>
 (MX K q 0 ([]:List Qm))) (λhb=>?_)
 unfold Qs at hp;simp only[QR,QL]at hp;refine YC (l:=q.2) (Q:=λz=>yI (q.1,z)=yI (id (α:=Qd) q)) (by omega) (λk x v hk hl hg hv hx ih=>?_) (λhq=>?_) (au rfl)
 ·refine QD5 _ _ _ _ ⟨λ_=>?_,λh=>by simp at h;omega⟩;simp only[QR,QL]at hx;rw[Int.toNat_natCast,hg,dL (by omega),Q8,tM];have:=ZK x.2;exact⟨⟨⟨by omega,hk⟩,⟨by omega,hk⟩,⟨.inl rfl,by rw[Ze];omega⟩,room (by omega)⟩,ih⟩
 ·refine QD5 _ _ _ _ ⟨λh=>by simp at h,λ_=>?_⟩;rw[List.take_length];exact hq
theorem MY:Qf Tryz.prog yJ:=Qi λx h=>QNj x.1 h
def CS(t:Qd × Bool):aB:=⟨(.tp [(.a [(aL t.1.1),(.r Qu 0 0 ((t.1.2).length))]),(bE t.2)]),[(.sl 178 Qu (.dp 0 true []) t.1.2)],[],false,[]⟩
def MZ:aI:=Qg 150 [(.a Qh),(.a Qu)] λx=>(some (Zo (α:=Qd) (β:=Qm) x.1 x.2.1),CS (Z6 x.1 x.2.1))
def QNG:aF:=⟨[yH,yF,CO,Jy],true⟩
def QOn:af :=
 (ag [(.ae [aC 2 (.box 161 0 2),aC 3 (.box 178 1 2),aC 4 (.new 161 (bG Qh)),ab 5 (a6 false)]),(.ae [a8 7 2 2,aD 8 219 [7],aC 6 (.new 161 (bG Qh)),aU 6 8 2]),(ag [(.ae [a8 9 2 2,aD 10 220 [9],bL 11 10,ab 12 11,.bt 12 false [a8 13 3 2,aD 14 221 [13],bL 15 14] 16 15,ab 17 16,.bt 17 false [ak 18 2 1,an 19 18 1,ba 20 19,ak 21 2 0,an 22 21 1,aw 23 .eql 20 22] 24 23]),(.cond 24 (ag [(.ae [a8 25 6 2,aU 4 25 2,ab 5 (a6 false)]),.ret]) .skip)]),(.draw [ak 26 6 1,an 27 26 1,ak 28 3 0,an 29 28 1,ak 30 3 1,an 31 30 1,aD 32 104 [31],aC 33 (.build (bG Qu) [(0,1,29),(1,1,32)]),aC 34 (.bW 178 Qu [33]),aC 35 (.app 27 34 178 Qu),ak 36 6 1,aU 36 35 1] [(0,6),(1,6),(2,6),(3,6),(0,8),(1,8)]),(.ae [a8 37 6 2,aU 4 37 2,ab 5 (a6 true)]),.ret])
def QLy:List (bn × Md):=[(.l 4 2 true,.b [.d,.p 178]),(.t 5,.one .d)]
theorem QMW(q:Qd)(x:Qm)(hp:Zo (α:=Qd) (β:=Qm) q x):aK Tryz.prog 150 [(.a [(.c TI q.1),(.c (.sl Qu) q.2)]),(.a [(.c TI x.1),(.c (.sl [TI]) x.2)])] (CS (Z6 q x)):=by
 refine bz QNG QOn QLy 0 0 38 MZ (kc MV (kc MQ (kc Qsm (kc nR kn)))) (λK =>
 ((Qs (α:=Qd) q)/\(aJ (((!(Q0 q))||(!(Yq x)))||(((q.2).length:Int)==q.1)) (K (CS (((id (α:=Qd) q).1,(List.take (((id (α:=Qd) q).2).length) ((id (α:=Qd) q).2))),false))) (((Qs (α:=List Int) x.2)/\((((id (α:=Qd) q).2).length=((id (α:=Qd) q).2).length\/((id (α:=Qd) q).2).length+1<=((id (α:=Qd) q).2).length)/\((id (α:=Qd) q).2).length+1<=ca))/\K (CS (((id (α:=Qd) q).1,(List.take (((id (α:=Qd) q).2).length+1) ((List.take (((id (α:=Qd) q).2).length) ((id (α:=Qd) q).2))++([(x.1,(List.take ((id (α:=List Int) x.2).length) (List.drop 0 (id (α:=List Int) x.2))))])))),true)))))) (λhb=>?_)
 unfold Zo at hp;have hq:Qs q:=by unfold Qs;omega
 simp only[QR,QL]at hp;have h1:=Yo q.2;have h2:=ZK x.2;have e:((((!(Q0 q))||(!(Yq x)))||(((q.2).length:Int)==q.1))) = !(Q0 q&&Yq x&&decide ((q.2.length:Int)<q.1)):=by
  cases hk:Q0 q
  ·rfl
  ·have:(q.2.length:Int)<=q.1:=by
    simp only[Q0,Bool.and_eq_true,decide_eq_true_eq]at hk;exact hk.1.2
   cases Yq x
   ·rfl
   ·rw[Bool.eq_iff_iff];simp;omega
 rw[e];refine⟨hq,λh=>au ?_,λh=>⟨⟨(show Sz.sz (_:List Int)<=2147483648 by omega),⟨.inl rfl,by rw[Ze];simp only[id];omega⟩⟩,au ?_⟩⟩
 ·simp only[Bool.not_eq_true']at h;simp[Z6,h]
 ·simp only[Bool.not_eq_false']at h;simp[Z6,h,List.take_of_length_le]
theorem QXI:Qf Tryz.prog MZ:=Qi λx h=>QMW x.1 x.2.1 h
def CU(t:Qd × Bool):aB:=⟨(.tp [(.a [(aL t.1.1),(.r Qu 0 0 ((t.1.2).length))]),(bE t.2)]),[(.sl 178 Qu .ow t.1.2)],[],true,[]⟩
def M1:aI:=Qg 146 [(.a Qh),(.a Qu)] λx=>(some (Zo (α:=Qd) (β:=Qm) x.1 x.2.1),CU (Z6 x.1 x.2.1))
def QGa:aF:=⟨[yJ,yE,Yv,YV],false⟩
def QTJ:af :=
 (ag [(.ae [aC 2 (.box 161 0 2),aC 3 (.box 178 1 2),aC 4 (.new 161 (bG Qh)),ab 5 (a6 false)]),(.ae [a8 7 2 2,aD 8 217 [7],aC 6 (.new 161 (bG Qh)),aU 6 8 2]),(ag [(.ae [a8 9 2 2,aD 10 218 [9],bL 11 10,ab 12 11,.bt 12 false [ak 13 2 1,an 14 13 1,ba 15 14,ak 16 2 0,an 17 16 1,aw 18 .geq 15 17] 19 18,ab 20 19,.bt 20 false [ak 21 3 1,an 22 21 1,aD 23 97 [22],bL 24 23] 25 24,ab 26 25,.bt 26 false [ak 27 3 0,an 28 27 1,aD 29 158 [28,(aq 0),(aq 4)],bL 30 29] 31 30]),(.cond 31 (ag [(.ae [a8 32 6 2,aU 4 32 2,ab 5 (a6 false)]),.ret]) .skip)]),(.draw [ak 33 6 1,an 34 33 1,ak 35 3 0,an 36 35 1,aC 37 (.bW 3 [TI] []),ak 38 3 1,an 39 38 1,aC 40 (.app 37 39 3 [TI]),aC 41 (.build (bG Qu) [(0,1,36),(1,1,40)]),aC 42 (.bW 178 Qu [41]),aC 43 (.app 34 42 178 Qu),ak 44 6 1,aU 44 43 1] [(0,4),(1,4),(2,4),(3,4),(4,5),(4,6),(0,7),(1,7),(2,7),(3,7),(0,9),(1,9)]),(.ae [a8 45 6 2,aU 4 45 2,ab 5 (a6 true)]),.ret])
def QYG:List (bn × Md):=[(.l 4 2 true,.b [.d,.o 178]),(.t 5,.one .d)]
theorem QNs(q:Qd)(x:Qm)(hp:Zo (α:=Qd) (β:=Qm) q x):aK Tryz.prog 146 [(.a [(.c TI q.1),(.c (.sl Qu) q.2)]),(.a [(.c TI x.1),(.c (.sl [TI]) x.2)])] (CU (Z6 q x)):=by
 refine bz QGa QTJ QYG 0 0 46 M1 (kc MY (kc MN (kc YK (kc Js kn)))) (λK =>
 ((Qs (α:=Qd) q)/\(aJ ((((!(Q0 q))||(decide (((q.2).length:Int)>=q.1)))||(!(QK x.2)))||(!(bj x.1 (0:Int) (4:Int)))) (K (CU (((id (α:=Qd) q).1,(List.take (((id (α:=Qd) q).2).length) ((id (α:=Qd) q).2))),false))) ((((0=0\/0+(x.2).length<=0)/\0+(x.2).length<=ca)/\((((id (α:=Qd) q).2).length=((id (α:=Qd) q).2).length\/((id (α:=Qd) q).2).length+1<=((id (α:=Qd) q).2).length)/\((id (α:=Qd) q).2).length+1<=ca))/\K (CU (((id (α:=Qd) q).1,(List.take (((id (α:=Qd) q).2).length+1) ((List.take (((id (α:=Qd) q).2).length) ((id (α:=Qd) q).2))++([(x.1,(List.take (0+(x.2).length) (List.drop 0 (x.2:List Int))))])))),true)))))) (λhb=>?_)
 unfold Zo at hp;have hq:Qs q:=by unfold Qs;omega
 simp only[QR,QL]at hp;have h1:=Yo q.2;have h2:=ZK x.2;have e:(((((!(Q0 q))||(decide (((q.2).length:Int)>=q.1)))||(!(QK x.2)))||(!(bj x.1 0 4)))) = !(Q0 q&&Yq x&&decide ((q.2.length:Int)<q.1)):=by
  cases hk:Q0 q
  ·rfl
  ·cases hv:QK x.2
   ·simp[Yq,hv]
   ·rw[Bool.eq_iff_iff];simp[Yq,hv,bj];omega
 rw[e];refine⟨hq,λh=>au ?_,λh=>⟨⟨⟨.inl rfl,by rw[Ze];omega⟩,⟨.inl rfl,by rw[Ze];simp only[id];omega⟩⟩,au ?_⟩⟩
 ·simp only[Bool.not_eq_true']at h;simp[Z6,h]
 ·simp only[Bool.not_eq_false']at h;simp[Z6,h,List.take_of_length_le]
theorem QX3:Qf Tryz.prog M1:=Qi λx h=>QNs x.1 x.2.1 h
def CV(t:Qd × Qm × Bool):aB:=⟨(.tp [(.a [(aL t.1.1),(.r Qu 0 0 ((t.1.2).length))]),(.a [(aL t.2.1.1),(.r [TI] 1 0 ((t.2.1.2).length))]),(bE t.2.2)]),[(.sl 0 Qu (.dp 0 false []) t.1.2),(.sl 0 [TI] (.dp 0 false []) t.2.1.2)],[],false,[]⟩
def M3:aI:=Qg 149 [(.a Qh)] λx=>(some (Qs (α:=Qd) x.1),CV (Zg x.1))
def QMX:aF:=⟨[yH,yF],true⟩
def QSR:af :=
 (ag [(.ae [aC 1 (.box 161 0 2),aC 2 (.new 161 (bG Qh)),aC 3 (.new 178 (bG Qu)),ab 4 (a6 false)]),(.ae [a8 7 1 2,aD 8 219 [7],aC 5 (.new 161 (bG Qh)),aU 5 8 2]),(ag [(.ae [a8 9 1 2,aD 10 220 [9],bL 11 10,ab 12 11,.bt 12 false [ak 13 1 1,an 14 13 1,ba 15 14,aw 16 .eql 15 (aq 0)] 17 16]),(.cond 17 (ag [(.ae [a8 18 5 2,aC 19 (.build (bG Qu) []),aU 2 18 2,aU 3 19 2,ab 4 (a6 false)]),.ret]) .skip)]),(.ae [ak 20 5 1,an 21 20 1,a0 22 21 (aq 0) Qu,a8 23 22 2,aC 6 (.new 178 (bG Qu)),aU 6 23 2]),(.ae [ak 24 5 1,an 25 24 1,aC 26 (.fB 25 (some (aq 1)) none Qu),ak 27 5 1,aU 27 26 1]),(.draw [a8 28 5 2,a8 29 6 2,aU 2 28 2,aU 3 29 2,ab 4 (a6 true)] [(1,2)]),(.cv 3 1 .ret)])
def QGo:List (bn × Md):=[(.l 2 2 true,.b [.d,.w]),(.l 3 2 true,.b [.d,.w]),(.t 4,.one .d)]
theorem QW3(q:Qd)(hp:Qs (α:=Qd) q):aK Tryz.prog 149 [(.a [(.c TI q.1),(.c (.sl Qu) q.2)])] (CV (Zg q)):=by
 refine bz QMX QSR QGo 0 0 30 M3 (kc MV (kc MQ kn)) (λK =>
 ((Qs (α:=Qd) q)/\(aJ ((!(Q0 q))||(((q.2).length:Int)==0)) (K (CV (((id (α:=Qd) q).1,(List.take (((id (α:=Qd) q).2).length) ((id (α:=Qd) q).2))),((0:Int),([]:List Int)),false))) ((((0:Int)<=0/\Int.toNat 0<((id (α:=Qd) q).2).length)/\((0+(Int.toNat 0))<((id (α:=Qd) q).2).length))/\(((0:Int)<=1/\1<=((((id (α:=Qd) q).2).length:Nat):Int)/\((((id (α:=Qd) q).2).length:Nat):Int)<=((((id (α:=Qd) q).2).length:Nat):Int))/\(((0+(Int.toNat 0))<((id (α:=Qd) q).2).length)/\K (CV (((id (α:=Qd) q).1,(List.take (Int.toNat ((((id (α:=Qd) q).2).length:Nat):Int)-Int.toNat 1) (List.drop (0+Int.toNat 1) ((id (α:=Qd) q).2)))),((ar ((0,[]):Qm) ((id (α:=Qd) q).2) (0+(Int.toNat 0))).1,(List.take (((ar ((0,[]):Qm) ((id (α:=Qd) q).2) (0+(Int.toNat 0))).2).length) ((ar ((0,[]):Qm) ((id (α:=Qd) q).2) (0+(Int.toNat 0))).2))),true)))))))) (λhb=>?_)
 have hq:=hp;unfold Qs at hp;simp only[QR,QL]at hp;have h1:=Yo q.2;have e:((!(Q0 q))||(((q.2).length:Int)==0)) = !(Q0 q&&decide (0<q.2.length)):=by
  rw[Bool.eq_iff_iff];simp
 rw[e];refine⟨hq,λh=>au ?_,λh=>?_⟩
 ·simp only[Bool.not_eq_true']at h;simp only[Zg,h];simp
 ·simp only[Bool.not_eq_false']at h;have h2:0<q.2.length:=by simp at h;exact h.2
  have h3:=Ak (Jz h2 (0,[]));have h4:=ZK (ar (0,[]) q.2 0).2;simp only[QR,QL]at h3;have hM:(Zg q)=((q.1,q.2.tail),ar (0,[]) q.2 0,true):=by simp only[Zg,h];simp
  simp only[id];exact⟨⟨⟨by omega,by simpa using h2⟩,by simpa using h2⟩,⟨by omega,by omega,by omega⟩,by simpa using h2,au (by rw[hM];simp[List.take_of_length_le])⟩
theorem QSB:Qf Tryz.prog M3:=Qi λx h=>QW3 x.1 h
def CW(t:Qd × Qm × Bool):aB:=fZ (.tp [(.a [(aL t.1.1),(bg Qu t.1.2)]),(.a [(aL t.2.1.1),(bg [TI] t.2.1.2)]),(bE t.2.2)])
def M4:aI:=Qg 145 [(.a Qh)] λx=>(some (Qs (α:=Qd) x.1),CW (Zg x.1))
def QMI:aF:=⟨[yJ,yE],false⟩
def QUx:af :=
 (ag [(.ae [aC 1 (.box 161 0 2),aC 2 (.new 161 (bG Qh)),aC 3 (.new 178 (bG Qu)),ab 4 (a6 false)]),(.ae [a8 7 1 2,aD 8 217 [7],aC 5 (.new 161 (bG Qh)),aU 5 8 2]),(ag [(.ae [a8 9 1 2,aD 10 218 [9],bL 11 10,ab 12 11,.bt 12 false [ak 13 1 1,an 14 13 1,ba 15 14,aw 16 .eql 15 (aq 0)] 17 16]),(.cond 17 (ag [(.ae [a8 18 5 2,aC 19 (.build (bG Qu) []),aU 2 18 2,aU 3 19 2,ab 4 (a6 false)]),.ret]) .skip)]),(.ae [ak 20 1 1,an 21 20 1,a0 22 21 (aq 0) Qu,a8 23 22 2,aC 6 (.new 178 (bG Qu)),aU 6 23 2]),(.ae [ak 24 5 1,an 25 24 1,aC 26 (.fB 25 (some (aq 1)) none Qu),ak 27 5 1,aU 27 26 1]),(.draw [a8 28 5 2,ak 29 6 0,an 30 29 1,aC 31 (.bW 3 [TI] []),ak 32 6 1,an 33 32 1,aC 34 (.app 31 33 3 [TI]),aC 35 (.build (bG Qu) [(0,1,30),(1,1,34)]),aU 2 28 2,aU 3 35 2,ab 4 (a6 true)] [(0,3),(1,3),(2,3),(3,4),(3,5),(0,6),(1,6),(2,6),(1,8),(2,8)]),.ret])
def QE7:List (bn × Md):=[(.l 2 2 true,.b [.d,.d]),(.l 3 2 true,.b [.d,.d]),(.t 4,.one .d)]
theorem QQv(q:Qd)(hp:Qs (α:=Qd) q):aK Tryz.prog 145 [(.a [(.c TI q.1),(.c (.sl Qu) q.2)])] (CW (Zg q)):=by
 refine bz QMI QUx QE7 0 0 36 M4 (kc MY (kc MN kn)) (λK =>
 ((Qs (α:=Qd) q)/\(aJ ((!(Q0 q))||(((q.2).length:Int)==0)) (K (CW (((id (α:=Qd) q).1,(List.take (((id (α:=Qd) q).2).length) (List.drop 0 ((id (α:=Qd) q).2)))),((0:Int),[]),false))) (((0:Int)<=0/\Int.toNat 0<(q.2).length)/\(((0:Int)<=1/\1<=((((id (α:=Qd) q).2).length:Nat):Int)/\((((id (α:=Qd) q).2).length:Nat):Int)<=((((id (α:=Qd) q).2).length:Nat):Int))/\(((0=0\/0+((ar ((0,[]):Qm) q.2 (Int.toNat 0)).2).length<=0)/\0+((ar ((0,[]):Qm) q.2 (Int.toNat 0)).2).length<=ca)/\K (CW (((id (α:=Qd) q).1,(List.take (Int.toNat ((((id (α:=Qd) q).2).length:Nat):Int)-Int.toNat 1) (List.drop (0+Int.toNat 1) ((id (α:=Qd) q).2)))),((ar ((0,[]):Qm) q.2 (Int.toNat 0)).1,(List.take (0+((ar ((0,[]):Qm) q.2 (Int.toNat 0)).2).length) (List.drop 0 ((ar ((0,[]):Qm) q.2 (Int.toNat 0)).2)))),true)))))))) (λhb=>?_)
 have hq:=hp;unfold Qs at hp;simp only[QR,QL]at hp;have h1:=Yo q.2;have e:((!(Q0 q))||(((q.2).length:Int)==0)) = !(Q0 q&&decide (0<q.2.length)):=by
  rw[Bool.eq_iff_iff];simp
 rw[e];refine⟨hq,λh=>au ?_,λh=>?_⟩
 ·simp only[Bool.not_eq_true']at h;simp only[Zg,h];simp
 ·simp only[Bool.not_eq_false']at h;have h2:0<q.2.length:=by simp at h;exact h.2
  have h3:=Ak (Jz h2 (0,[]));have h4:=ZK (ar (0,[]) q.2 0).2;simp only[QR,QL]at h3;have hM:(Zg q)=((q.1,q.2.tail),ar (0,[]) q.2 0,true):=by simp only[Zg,h];simp
  simp only[id];exact⟨⟨by omega,by simpa using h2⟩,⟨by omega,by omega,by omega⟩,⟨by simp,by rw[Ze];simp;omega⟩,au (by rw[hM];simp[List.take_of_length_le])⟩
theorem QOM:Qf Tryz.prog M4:=Qi λx h=>QQv x.1 h
def Yy(t:Bool):aB:=b6 (bE t)
def M5:aI:=Qg 176 [(.a QM)] λx=>(none,Yy (Zk x.1))
def nZ:aF:=⟨[YV,ui,yE,Yv],false⟩
def QBI:af :=
 (ag [(ag [(.ae [ab 59 6,ak 60 5 1,an 61 60 1,ba 62 61,aw 63 .lss 59 62]),(.cond 63 .skip (.exit 2))]),(.block 3 (ag [(.draw [ak 66 5 1,an 67 66 1,ab 68 6,a0 69 67 68 QP,ak 70 69 1,an 71 70 1,ak 72 1 0,an 73 72 1,ba 74 73,aw 75 .sub 74 (aq 1),aD 76 158 [71,(aq 0),75],bL 77 76] []),(.cond 77 (ag [(.ae [ab 2 (a6 false)]),.ret]) .skip)])),(.ae [ab 64 6,aw 65 .add 64 (aq 1),ab 6 65])])
def Qu4:List (Nat × Md):=[(1,.b (dG 4)),(3,.one .d),(4,.one .d),(5,.b (dG 14)),(6,.one .d)]
def QsJ:af :=
 (ag [(.ae [ab 78 4,aw 79 .gtr 78 (aq 0),ab 80 79,.bt 80 true [ak 81 1 2,an 82 81 1,ab 83 4,aw 84 .sub 83 (aq 1),a0 85 82 84 Qh,a8 86 85 2,aD 87 218 [86],bL 88 87,ab 89 88,.bt 89 false [ak 90 1 3,an 91 90 1,ab 92 4,aw 93 .sub 92 (aq 1),a0 94 91 93 Qh,a8 95 94 2,aD 96 218 [95],bL 97 96] 98 97] 99 98]),(.cond 99 (ag [(.ae [ab 2 (a6 false)]),.ret]) .skip)])
def Qxp:af :=
 (.ae [ab 40 4,aw 41 .add 40 (aq 1),ab 4 41])
def M6:af :=
 (ag [(ag [(.ae [ab 37 4,ab 38 3,aw 39 .lss 37 38]),(.cond 39 .skip (.exit 0))]),(.block 1 (ag [(.ae [ak 42 1 1,an 43 42 1,ab 44 4,a0 45 43 44 Qe,a8 46 45 14,aC 5 (.new 39 (bG Qe)),aU 5 46 14]),(ag [(.ae [a8 47 5 14,aD 48 63 [47],bL 49 48,ab 50 49,.bt 50 false [ak 51 5 3,an 52 51 1,ab 53 4,ab 54 3,aw 55 .sub 54 (aq 1),aw 56 .eql 53 55,aC 57 (.ic true 52 56)] 58 57]),(.cond 58 (ag [(.ae [ab 2 (a6 false)]),.ret]) .skip)]),(ag [(.ae [ab 6 (aq 0)]),(.block 2 (.loop Qu4 QBI))]),QsJ])),Qxp])
def CX:List (Nat × Md):=[(1,.b (dG 4)),(3,.one .d),(4,.one .d)]
def QqM:af :=
 (ag [(ag [(.ae [ab 100 7,ak 101 1 0,an 102 101 1,ba 103 102,aw 104 .lss 100 103]),(.cond 104 .skip (.exit 4))]),(.block 5 (ag [(.ae [ak 107 1 0,an 108 107 1,ab 109 7,a0 110 108 109 QF,ak 111 110 0,an 112 111 1,aD 113 97 [112],bL 114 113,ab 115 114,.bt 115 false [ak 116 1 0,an 117 116 1,ab 118 7,a0 119 117 118 QF,ak 120 119 1,an 121 120 1,aD 122 97 [121],bL 123 122] 124 123]),(.cond 124 (ag [(.ae [ab 2 (a6 false)]),.ret]) .skip)])),(.ae [ab 105 7,aw 106 .add 105 (aq 1),ab 7 106])])
def Qve:List (Nat × Md):=[(1,.b (dG 4)),(7,.one .d)]
def QD9:af :=
 (ag [(.ae [ab 2 (a6 true)]),.ret])
def QAz:af :=
 (ag [(ag [(.ae [ab 7 (aq 0)]),(.block 4 (.loop Qve QqM))]),QD9])
def QXc:af :=
 (ag [(.ae [aC 1 (.box 56 0 4),ab 2 (a6 false)]),(.ae [ak 8 1 1,an 9 8 1,ba 10 9,ab 3 10]),(ag [(.ae [ab 11 3,aD 12 158 [11,(aq 1),(aq 4)],bL 13 12,ab 14 13,.bt 14 false [ak 15 1 2,an 16 15 1,ba 17 16,ab 18 3,aw 19 .sub 18 (aq 1),aw 20 .neq 17 19] 21 20,ab 22 21,.bt 22 false [ak 23 1 3,an 24 23 1,ba 25 24,ab 26 3,aw 27 .sub 26 (aq 1),aw 28 .neq 25 27] 29 28,ab 30 29,.bt 30 false [ak 31 1 0,an 32 31 1,ba 33 32,aD 34 158 [33,(aq 1),(aq 5)],bL 35 34] 36 35]),(.cond 36 (ag [(.ae [ab 2 (a6 false)]),.ret]) .skip)]),(ag [(.ae [ab 4 (aq 0)]),(.block 0 (.loop CX M6))]),QAz])
def Qyj:List (bn × Md):=[(.t 2,.one .d)]
def CY:Qb:=TQ 0 0 Qyj K
def QPH:Qb:=aY (aO nZ 0 QAz (CY K)) (CY K)
def M7:Qb:=a7 0 (QPH K)
def QyN:Qb:=aY (λs'=>Loop nZ 0 CX M6 (M7 K) (gc 0 CX s')) (M7 K)
def QYi:Qb:=aY (aO nZ 0 Qxp (QyN K)) (QyN K)
def Qtz:Qb:=a7 1 (QYi K)
def QTB:Qb:=aY (aO nZ 0 QsJ (Qtz K)) (Qtz K)
def QOE:Qb:=a7 2 (QTB K)
def M8(p:Qk)(i:Int)(s:Int):Prop:=Loop nZ 0 Qu4 QBI (QOE K) ⟨[(1,(.p 0 0 0)),(3,(aL ((p.2.1).length:Int))),(4,(aL s)),(5,(.p 1 0 0)),(6,(aL i))],[(0,(.box (aS.cells QM p))),(1,(.box (aS.cells Qe (ar Qz p.2.1 (Int.toNat s)))))],2⟩
def QNc:Qb:=aY (aO nZ 0 QD9 (CY K)) (CY K)
def QOR:Qb:=a7 4 (QNc K)
def yK(p:Qk)(i1:Int):Prop:=Loop nZ 0 Qve QqM (QOR K) ⟨[(1,(.p 0 0 0)),(7,(aL i1))],[(0,(.box (aS.cells QM p)))],1⟩
def yL(p:Qk)(s:Int):Prop:=Loop nZ 0 CX M6 (M7 K) ⟨[(1,(.p 0 0 0)),(3,(aL ((p.2.1).length:Int))),(4,(aL s))],[(0,(.box (aS.cells QM p)))],1⟩
theorem QUR(p:Qk)(i:Int)(s:Int) (h :
 (aJ (decide (i<(((ar Qz p.2.1 (Int.toNat s)).2.1).length:Int))) ((0<=i/\Int.toNat i<((ar Qz p.2.1 (Int.toNat s)).2.1).length)/\(aJ (!(bj ((ar eF ((ar Qz p.2.1 (Int.toNat s)).2.1) (Int.toNat i)).2) (0:Int) (aG (((p.1).length:Int)-1)))) (K (Yy false)) (M8 K p (aG (i+1)) s))) (((decide (s>0))=true->((0<=aG (s-1)/\Int.toNat (aG (s-1))<(p.2.2.1).length)/\((!(!(Q0 (ar Qx p.2.2.1 (Int.toNat (aG (s-1)))))))=true->(0<=aG (s-1)/\Int.toNat (aG (s-1))<(p.2.2.2).length))))/\(aJ ((decide (s>0))&&((!(Q0 (ar Qx p.2.2.1 (Int.toNat (aG (s-1))))))||(!(Q0 (ar Qx p.2.2.2 (Int.toNat (aG (s-1)))))))) (K (Yy false)) (yL K p (aG (s+1))))))):M8 K p i s :=
 Loop.of h
theorem Qv5(p:Qk)(i1:Int) (h :
 (aJ (decide (i1<((p.1).length:Int))) (((0<=i1/\Int.toNat i1<(p.1).length)/\((!(!(QK ((ar QV p.1 (Int.toNat i1)).1))))=true->(0<=i1/\Int.toNat i1<(p.1).length)))/\(aJ ((!(QK ((ar QV p.1 (Int.toNat i1)).1)))||(!(QK ((ar QV p.1 (Int.toNat i1)).2)))) (K (Yy false)) (yK K p (aG (i1+1))))) (K (Yy true)))):yK K p i1 :=
 Loop.of h
theorem Qz8(p:Qk)(s:Int) (h :
 (aJ (decide (s<((p.2.1).length:Int))) ((0<=s/\Int.toNat s<(p.2.1).length)/\(aJ ((!(QU (ar Qz p.2.1 (Int.toNat s))))||(!(((ar Qz p.2.1 (Int.toNat s)).2.2.2.1)==(s==(aG (((p.2.1).length:Int)-1)))))) (K (Yy false)) (M8 K p 0 s))) (yK K p 0))):yL K p s :=
 Loop.of h
theorem QI9(p:Qk):aK Tryz.prog 176 [(.a (aS.cells QM p))] (Yy (Zk p)):=by
 refine bz nZ QXc Qyj 0 0 125 M5 (kc Js (kc Bs (kc MN (kc YK kn)))) (λK =>
 (aJ ((((!(bj ((p.2.1).length:Int) (1:Int) (4:Int)))||(((p.2.2.1).length:Int) != (aG (((p.2.1).length:Int)-1))))||(((p.2.2.2).length:Int) != (aG (((p.2.1).length:Int)-1))))||(!(bj ((p.1).length:Int) (1:Int) (5:Int)))) (K (Yy false)) (yL K p 0))) (λhb=>?_)
 have f0:(p.1).length<=9223372036854775807:=hb.1.1.1;have fA:(p.2.1).length<=9223372036854775807:=hb.1.2.1.1;have gW:(p.2.2.1).length<=9223372036854775807:=hb.1.2.2.1.1;have gX:(p.2.2.2).length<=9223372036854775807:=hb.1.2.2.2.1.1;by_cases h0:bj p.2.1.length 1 4=true;rotate_left
 ·exact⟨λh=>au (by simp[Zk,h0]),λh=>by simp[h0]at h⟩
 have h1:=Za.1 h0;have e1:aG ((p.2.1.length:Int)-1)=p.2.1.length-1:=QG (by omega) (by omega);rw[e1];refine⟨λh=>au ?_,λh=>?_⟩
 ·have:((p.2.2.1.length+1==p.2.1.length)&&(p.2.2.2.length+1==p.2.1.length)&&bj p.1.length 1 5)=false:=by
   cases hx:bj p.1.length 1 5 with
   | false=>simp
   | true=>simp[h0,hx]at h;simp;omega
  have e2:(Zk p)=false:=by
   unfold Zk;rw[h0,Bool.true_and,this,Bool.false_and]
  exact e2.symm
 have h2:bj p.1.length 1 5=true:=by grind
 have h3:=Za.1 h2;have ha:p.2.2.1.length+1=p.2.1.length/\p.2.2.2.length+1=p.2.1.length:=by simp[h0,h2]at h;omega
 have val:(Zk p)=(p.1.all Jj&&(p.2.2.1.all Q0&&p.2.2.2.all Q0)&&Y9 p.1.length p.2.1):=by
  simp only[Zk,h0,h2,ha];simp
 have e3:aG ((p.1.length:Int)-1)=p.1.length-1:=QG (by omega) (by omega);have batch:(p.2.2.1.all Q0&&p.2.2.2.all Q0)=true->Y9 p.1.length p.2.1=true->yK (λr'=>r'=Yy (Zk p)) p ((0:Nat):Int):=by
  intro hq hs;refine Zf p.1 (λr k=>r.all Jj=p.1.all Jj->yK (λr'=>r'=Yy (Zk p)) p k) ?_ ?_ rfl
  ·intro he;refine Qv5 _ _ _ ⟨λh=>by simp at h,λ_=>au ?_⟩;rw[val,hq,hs,<- he];rfl
  ·intro k x r hk aW hg ih he;refine Qv5 _ _ _ ⟨λ_=>?_,λh=>by simp at h;omega⟩;rw[Int.toNat_natCast,hg,QG (x:=(k:Int)+1) (by omega) (by omega)];rw[List.all_cons]at he;refine⟨⟨⟨by omega,aW⟩,λ_=>⟨by omega,aW⟩⟩,λh=>au ?_,λh=>ih ?_⟩
   ·have:Jj x=false:=by grind[Jj]
    rw[this,Bool.false_and]at he;rw[val,<- he];rfl
   ·have:Jj x=true:=by grind[Jj]
    rw[this,Bool.true_and]at he;exact he
 refine Zf p.2.1 (λr k=>Y9 p.1.length r=Y9 p.1.length p.2.1->(∀ j:Nat,j+1<k->Q0 (ar Qx p.2.2.1 j)=true/\Q0 (ar Qx p.2.2.2 j)=true)->yL (λr'=>r'=Yy (Zk p)) p k) ?_ ?_ rfl (λj hj=>by omega)
 ·intro he hq;refine Qz8 _ _ _ ⟨λh=>by simp at h,λ_=>batch ?_ ?_⟩
  ·rw[(Ap Qx).2 (λj hj=>(hq j (by omega)).1),(Ap Qx).2 (λj hj=>(hq j (by omega)).2)];rfl
  ·rw[<- he];rfl
 ·intro k x r hk aW hg ih he hq;have dE:x∈p.2.1:=List.mem_of_mem_drop (i:=k) (by rw[hk];exact List.mem_cons_self);have jT:x.2.1.length<=9223372036854775807:=(hb.1.2.1.2 x dE).2.1.1;have ke:=S8 hk fA;rw[e1]at ke;rw[Y9]at he;refine Qz8 _ _ _ ⟨λ_=>?_,λh=>by simp at h;omega⟩;rw[Int.toNat_natCast,hg,e1,ke];refine⟨⟨by omega,aW⟩,λh=>au ?_,λh=>?_⟩
  ·have:(QU x&&(x.2.2.2.1==decide (r.length=0)))=false:=by grind
   rw[this,Bool.false_and,Bool.false_and]at he;rw[val,<- he,Bool.and_false]
  ·have:(QU x&&(x.2.2.2.1==decide (r.length=0)))=true:=by grind
   rw[this,Bool.true_and]at he;have rest:x.2.1.all (λy=>bj y.2 0 (p.1.length-1))=true->((((decide ((k:Int)>0))=true->((0<=aG ((k:Int)-1)/\Int.toNat (aG ((k:Int)-1))<p.2.2.1.length)/\((!(!(Q0 (ar Qx p.2.2.1 (Int.toNat (aG ((k:Int)-1)))))))=true->(0<=aG ((k:Int)-1)/\Int.toNat (aG ((k:Int)-1))<p.2.2.2.length))))/\((((decide ((k:Int)>0))&&((!(Q0 (ar Qx p.2.2.1 (Int.toNat (aG ((k:Int)-1))))))||(!(Q0 (ar Qx p.2.2.2 (Int.toNat (aG ((k:Int)-1))))))))=true->Yy false=Yy (Zk p))/\(((decide ((k:Int)>0))&&((!(Q0 (ar Qx p.2.2.1 (Int.toNat (aG ((k:Int)-1))))))||(!(Q0 (ar Qx p.2.2.2 (Int.toNat (aG ((k:Int)-1))))))))=false->yL (λr'=>r'=Yy (Zk p)) p (aG ((k:Int)+1)))))):=by
    intro hx;rw[hx,Bool.true_and]at he;rw[QG (x:=(k:Int)+1) (by omega) (by omega)]
    rcases Nat.eq_zero_or_pos k with k0 | k0
    ·subst k0;exact⟨λh=>by simp at h,λh=>by simp at h,λ_=>ih he (λj hj=>by omega)⟩
    ·have e2:=rp k0 (by omega:k<=9223372036854775807);rw[e2.1];refine⟨λ_=>⟨⟨e2.2,by omega⟩,λ_=>⟨e2.2,by omega⟩⟩,λh=>au ?_,λh=>ih he (λj hj=>?_)⟩
     ·have ot:(p.2.2.1.all Q0&&p.2.2.2.all Q0)=false:=by
       cases hc:(p.2.2.1.all Q0&&p.2.2.2.all Q0) with
       | false=>rfl
       | true =>
        simp only[Bool.and_eq_true]at hc;have a1:=(Ap Qx).1 hc.1 (k-1) (by omega);have a2:=(Ap Qx).1 hc.2 (k-1) (by omega);rw[a1,a2]at h;simp at h
      rw[val,ot];simp
     ·by_cases hjk:j+1<k
      ·exact hq j hjk
      ·rw[show j=k-1 by omega];have dj:decide ((k:Int)>0)=true:=by simp;omega
       rw[dj]at h;grind
   refine oW (l:=x.2.1) (Q:=λb=>rq b _ (Yy false=Yy (Zk p))) (p:=λy=>bj y.2 0 (p.1.length-1)) (c:=λy=>!(bj y.2 0 (p.1.length-1))) (e:=true) eF jT (λy=>rfl) (λi h=>QUR (λr'=>r'=Yy (Zk p)) p i k (by rw[Int.toNat_natCast,hg,e3];exact h)) ?_
   cases hx:x.2.1.all (λy=>bj y.2 0 (p.1.length-1)) with
   | false =>
    rw[hx,Bool.false_and]at he;exact au (by rw[val,<- he,Bool.and_false])
   | true=>exact rest hx
theorem QYF:Qf Tryz.prog M5:=Qi λx _=>QI9 x.1
def Z3(t:Bool):aB:=b6 (bE t)
def M9:aI:=Qg 179 [(.a QM)] λx=>(none,Z3 (Zk x.1))
def JN:aF:=⟨[nP,yF,uh],false⟩
def QAp:af :=
 (ag [(.ae [aw 50 .lss 49 48]),(.cond 50 .skip (.exit 0)),(.block 1 (ag [(.ae [a0 51 47 49 QF,a8 52 51 2,aC 5 (.new 154 (bG QF)),aU 5 52 2]),(.ae [ak 53 5 0,an 54 53 1,aD 55 187 [54],bL 56 55,ab 57 56,.bt 57 false [ak 58 5 1,an 59 58 1,aD 60 187 [59],bL 61 60] 62 61]),(.cond 62 (ag [(.ae [ab 2 (a6 false)]),.ret]) .skip)])),(.ae [aw 63 .add 49 (aq 1),ab 49 63])])
def Qzt:List (Nat × Md):=[(1,.b (dG 4)),(3,.one .d),(47,.one .d),(48,.one .d),(49,.one .d)]
def QwA:af :=
 (ag [(.ae [aw 68 .lss 67 66]),(.cond 68 .skip (.exit 2)),(.block 3 (ag [(.ae [ab 69 67,ab 6 69]),(.ae [ak 70 1 2,an 71 70 1,ab 72 6,a0 73 71 72 Qh,a8 74 73 2,aD 75 220 [74],bL 76 75,ab 77 76,.bt 77 false [ak 78 1 3,an 79 78 1,ab 80 6,a0 81 79 80 Qh,a8 82 81 2,aD 83 220 [82],bL 84 83] 85 84]),(.cond 85 (ag [(.ae [ab 2 (a6 false)]),.ret]) .skip)])),(.ae [aw 86 .add 67 (aq 1),ab 67 86])])
def QtJ:List (Nat × Md):=[(1,.b (dG 4)),(3,.one .d),(66,.one .d),(67,.one .d)]
def Qz3:af :=
 (ag [(.ae [aw 111 .lss 110 109]),(.cond 111 .skip (.exit 6)),(.block 7 (ag [(.ae [a0 112 108 110 QP,a8 113 112 2,aC 10 (.new 175 (bG QP)),aU 10 113 2]),(.ae [ak 114 10 1,an 115 114 1,aw 116 .lss 115 (aq 0),ab 117 116,.bt 117 false [ak 118 10 1,an 119 118 1,ak 120 1 0,an 121 120 1,ba 122 121,aw 123 .geq 119 122] 124 123]),(.cond 124 (ag [(.ae [ab 2 (a6 false)]),.ret]) .skip)])),(.ae [aw 125 .add 110 (aq 1),ab 110 125])])
def QvF:List (Nat × Md):=[(1,.b (dG 4)),(3,.one .d),(88,.one .d),(89,.one .d),(90,.one .d),(108,.one .d),(109,.one .d),(110,.one .d)]
def QqQ:af :=
 (.ae [aw 126 .add 90 (aq 1),ab 90 126])
def Na:af :=
 (ag [(.ae [aw 91 .lss 90 89]),(.cond 91 .skip (.exit 4)),(.block 5 (ag [(.ae [ab 92 90,a0 93 88 90 Qe,a8 94 93 14,aC 8 (.new 39 (bG Qe)),ab 7 92,aU 8 94 14]),(ag [(.ae [a8 95 8 14,aD 96 72 [95],bL 97 96,ab 98 97,.bt 98 false [ak 99 8 3,an 100 99 1,ab 101 7,ab 102 3,aw 103 .sub 102 (aq 1),aw 104 .eql 101 103,aC 105 (.ic true 100 104)] 106 105]),(.cond 106 (ag [(.ae [ab 2 (a6 false)]),.ret]) .skip)]),(.ae [ak 107 8 1,an 108 107 1,ba 109 108,ab 110 (aq 0)]),(.block 6 (.loop QvF Qz3))])),QqQ])
def CZ:List (Nat × Md):=[(1,.b (dG 4)),(3,.one .d),(88,.one .d),(89,.one .d),(90,.one .d)]
def QsQ:af :=
 (ag [(.ae [ab 2 (a6 true)]),.ret])
def QEO:af :=
 (ag [(ag [(.ae [ak 87 1 1,an 88 87 1,ba 89 88,ab 90 (aq 0)]),(.block 4 (.loop CZ Na))]),QsQ])
def Qra:af :=
 (ag [(ag [(.ae [ak 64 1 2,an 65 64 1,ba 66 65,ab 67 (aq 0)]),(.block 2 (.loop QtJ QwA))]),QEO])
def QU8:af :=
 (ag [(.ae [aC 1 (.box 56 0 4),ab 2 (a6 false)]),(.ae [ak 11 1 1,an 12 11 1,ba 13 12,ab 3 13]),(ag [(.ae [ab 14 3,aw 15 .lss 14 (aq 1),ab 16 15,.bt 16 false [ab 17 3,aw 18 .gtr 17 (aq 4)] 19 18,ab 20 19,.bt 20 false [ak 21 1 2,an 22 21 1,ba 23 22,ab 24 3,aw 25 .sub 24 (aq 1),aw 26 .neq 23 25] 27 26,ab 28 27,.bt 28 false [ak 29 1 3,an 30 29 1,ba 31 30,ab 32 3,aw 33 .sub 32 (aq 1),aw 34 .neq 31 33] 35 34]),(.cond 35 (ag [(.ae [ab 2 (a6 false)]),.ret]) .skip)]),(ag [(.ae [ak 36 1 0,an 37 36 1,ba 38 37,aw 39 .lss 38 (aq 1),ab 40 39,.bt 40 false [ak 41 1 0,an 42 41 1,ba 43 42,aw 44 .gtr 43 (aq 5)] 45 44]),(.cond 45 (ag [(.ae [ab 2 (a6 false)]),.ret]) .skip)]),(ag [(.ae [ak 46 1 0,an 47 46 1,ba 48 47,ab 49 (aq 0)]),(.block 0 (.loop Qzt QAp))]),Qra])
def QwT:List (bn × Md):=[(.t 2,.one .d)]
def uK:Qb:=TQ 0 0 QwT K
def QSA:Qb:=aY (aO JN 0 QsQ (uK K)) (uK K)
def Nb:Qb:=a7 4 (QSA K)
def QzE:Qb:=aY (λs'=>Loop JN 0 CZ Na (Nb K) (gc 0 CZ s')) (Nb K)
def QWF:Qb:=aY (aO JN 0 QqQ (QzE K)) (QzE K)
def QG0:Qb:=a7 5 (QWF K)
def QFt:Qb:=a7 6 (QG0 K)
def Nc(p:Qk)(x2:Int)(x3:Int):Prop:=Loop JN 0 QvF Qz3 (QFt K) ⟨[(1,(.p 0 0 0)),(3,(aL ((p.2.1).length:Int))),(88,(bg Qe p.2.1)),(89,(aL ((p.2.1).length:Int))),(90,(aL x3)),(108,(bg QP ((ar Qz p.2.1 (Int.toNat x3)).2.1))),(109,(aL (((ar Qz p.2.1 (Int.toNat x3)).2.1).length:Int))),(110,(aL x2))],[(0,(.box (aS.cells QM p)))],1⟩
def yM(p:Qk)(x3:Int):Prop:=Loop JN 0 CZ Na (Nb K) ⟨[(1,(.p 0 0 0)),(3,(aL ((p.2.1).length:Int))),(88,(bg Qe p.2.1)),(89,(aL ((p.2.1).length:Int))),(90,(aL x3))],[(0,(.box (aS.cells QM p)))],1⟩
def QVR:Qb:=aY (aO JN 0 QEO (uK K)) (uK K)
def QIG:Qb:=a7 2 (QVR K)
def uL(p:Qk)(x1:Int):Prop:=Loop JN 0 QtJ QwA (QIG K) ⟨[(1,(.p 0 0 0)),(3,(aL ((p.2.1).length:Int))),(66,(aL ((p.2.2.1).length:Int))),(67,(aL x1))],[(0,(.box (aS.cells QM p)))],1⟩
def QQe:Qb:=aY (aO JN 0 Qra (uK K)) (uK K)
def QYl:Qb:=a7 0 (QQe K)
def Nd(p:Qk)(x:Int):Prop:=Loop JN 0 Qzt QAp (QYl K) ⟨[(1,(.p 0 0 0)),(3,(aL ((p.2.1).length:Int))),(47,(bg QF p.1)),(48,(aL ((p.1).length:Int))),(49,(aL x))],[(0,(.box (aS.cells QM p)))],1⟩
theorem QQE(p:Qk)(x2:Int)(x3:Int) (h :
 (aJ (decide (x2<(((ar Qz p.2.1 (Int.toNat x3)).2.1).length:Int))) ((0<=x2/\Int.toNat x2<((ar Qz p.2.1 (Int.toNat x3)).2.1).length)/\(aJ ((decide (((ar eF ((ar Qz p.2.1 (Int.toNat x3)).2.1) (Int.toNat x2)).2)<0))||(decide (((ar eF ((ar Qz p.2.1 (Int.toNat x3)).2.1) (Int.toNat x2)).2)>=((p.1).length:Int)))) (K (Z3 false)) (Nc K p (aG (x2+1)) x3))) (yM K p (aG (x3+1))))):Nc K p x2 x3 :=
 Loop.of h
theorem QuR(p:Qk)(x3:Int) (h :
 (aJ (decide (x3<((p.2.1).length:Int))) ((0<=x3/\Int.toNat x3<(p.2.1).length)/\(aJ ((!(QU (ar Qz p.2.1 (Int.toNat x3))))||(!(((ar Qz p.2.1 (Int.toNat x3)).2.2.2.1)==(x3==(aG (((p.2.1).length:Int)-1)))))) (K (Z3 false)) (Nc K p 0 x3))) (K (Z3 true)))):yM K p x3 :=
 Loop.of h
theorem Qr3(p:Qk)(x1:Int) (h :
 (aJ (decide (x1<((p.2.2.1).length:Int))) (((0<=x1/\Int.toNat x1<(p.2.2.1).length)/\((!(!(Q0 (ar Qx p.2.2.1 (Int.toNat x1)))))=true->(0<=x1/\Int.toNat x1<(p.2.2.2).length)))/\(aJ ((!(Q0 (ar Qx p.2.2.1 (Int.toNat x1))))||(!(Q0 (ar Qx p.2.2.2 (Int.toNat x1))))) (K (Z3 false)) (uL K p (aG (x1+1))))) (yM K p 0))):uL K p x1 :=
 Loop.of h
theorem QQ8(p:Qk)(x:Int) (h :
 (aJ (decide (x<((p.1).length:Int))) ((0<=x/\Int.toNat x<(p.1).length)/\(aJ ((!(QK ((ar QV p.1 (Int.toNat x)).1)))||(!(QK ((ar QV p.1 (Int.toNat x)).2)))) (K (Z3 false)) (Nd K p (aG (x+1))))) (uL K p 0))):Nd K p x :=
 Loop.of h
theorem QWK(p:Qk):aK Tryz.prog 179 [(.a (aS.cells QM p))] (Z3 (Zk p)):=by
 refine bz JN QU8 QwT 0 0 127 M9 (kc sa (kc MQ (kc Bn kn))) (λK =>
 (aJ ((((decide (((p.2.1).length:Int)<1))||(decide (((p.2.1).length:Int)>4)))||(((p.2.2.1).length:Int) != (aG (((p.2.1).length:Int)-1))))||(((p.2.2.2).length:Int) != (aG (((p.2.1).length:Int)-1)))) (K (Z3 false)) (aJ ((decide (((p.1).length:Int)<1))||(decide (((p.1).length:Int)>5))) (K (Z3 false)) (Nd K p 0)))) (λhb=>?_)
 have f0:(p.1).length<=9223372036854775807:=hb.1.1.1;have fA:(p.2.1).length<=9223372036854775807:=hb.1.2.1.1;have gW:(p.2.2.1).length<=9223372036854775807:=hb.1.2.2.1.1;have gX:(p.2.2.2).length<=9223372036854775807:=hb.1.2.2.2.1.1;refine⟨λh=>au ?_,λh=>?_⟩
 ·have:(bj p.2.1.length 1 4&&(p.2.2.1.length+1==p.2.1.length)&&(p.2.2.2.length+1==p.2.1.length))=false:=by
   by_cases h0:bj p.2.1.length 1 4=true
   ·have h1:=Za.1 h0;rw[QG (x:=(p.2.1.length:Int)-1) (by omega) (by omega)]at h;simp at h;simp[h0];omega
   ·simp at h0;simp[h0]
  simp[Zk,this]
 have h0:bj p.2.1.length 1 4=true:=by simp at h;simp[bj];omega
 have h1:=Za.1 h0;have e1:aG ((p.2.1.length:Int)-1)=p.2.1.length-1:=QG (by omega) (by omega);rw[e1]at h;have ha:p.2.2.1.length+1=p.2.1.length/\p.2.2.2.length+1=p.2.1.length:=by simp at h;omega
 refine⟨λh=>au ?_,λh=>?_⟩
 ·have:bj p.1.length 1 5=false:=by simp at h;simp[bj];omega
  simp[Zk,this]
 have h2:bj p.1.length 1 5=true:=by simp at h;simp[bj];omega
 have h3:=Za.1 h2;have val:(Zk p)=(p.1.all Jj&&(p.2.2.1.all Q0&&p.2.2.2.all Q0)&&Y9 p.1.length p.2.1):=by
  simp only[Zk,h0,h2,ha];simp
 refine oW (Q:=λb=>rq b (uL (λr'=>r'=Z3 (Zk p)) p ((0:Nat):Int)) (Z3 false=Z3 (Zk p))) (p:=Jj) (c:=λx=>(!(QK x.1))||!(QK x.2)) (e:=true) QV f0 (λx=>by grind[Jj]) (λi h=>QQ8 (λr'=>r'=Z3 (Zk p)) p i h) ?_
 cases qd:p.1.all Jj with
 | false=>exact au (by rw[val,qd];rfl)
 | true =>
  show uL (λr'=>r'=Z3 (Zk p)) p ((0:Nat):Int);have sA:∀ k:Nat,((p.2.2.1.drop k).all Q0&&(p.2.2.2.drop k).all Q0)=(p.2.2.1.all Q0&&p.2.2.2.all Q0)->k<=p.2.2.1.length->uL (λr'=>r'=Z3 (Zk p)) p k:=by
   intro k;generalize hn:p.2.2.1.length-k=n
   induction n generalizing k with
   | zero =>
    intro he hle;refine Qr3 _ _ _ ⟨λh=>by simp at h;omega,λ_=>?_⟩;have ej:(p.2.2.1.all Q0&&p.2.2.2.all Q0)=true:=by
     rw[<- he,List.drop_eq_nil_of_le (by omega),List.drop_eq_nil_of_le (by omega)];rfl
    refine Zf p.2.1 (λr k=>Y9 p.1.length r=Y9 p.1.length p.2.1->yM (λr'=>r'=Z3 (Zk p)) p k) ?_ ?_ rfl
    ·intro eH;refine QuR _ _ _ ⟨λh=>by simp at h,λ_=>au ?_⟩;rw[val,qd,ej,<- eH];rfl
    ·intro k x r hk aW hg ih eH;have dE:x∈p.2.1:=List.mem_of_mem_drop (i:=k) (by rw[hk];exact List.mem_cons_self);have jT:x.2.1.length<=9223372036854775807:=(hb.1.2.1.2 x dE).2.1.1;have ke:=S8 hk fA;rw[Y9]at eH;refine QuR _ _ _ ⟨λ_=>?_,λh=>by simp at h;omega⟩;rw[Int.toNat_natCast,hg,ke];refine⟨⟨by omega,aW⟩,λh=>au ?_,λh=>?_⟩
     ·have:(QU x&&(x.2.2.2.1==decide (r.length=0)))=false:=by grind
      rw[this,Bool.false_and,Bool.false_and]at eH;rw[val,<- eH,Bool.and_false]
     ·have:(QU x&&(x.2.2.2.1==decide (r.length=0)))=true:=by grind
      rw[this,Bool.true_and]at eH;refine oW (l:=x.2.1) (Q:=λb=>rq b (yM (λr'=>r'=Z3 (Zk p)) p ((k+1:Nat):Int)) (Z3 false=Z3 (Zk p))) (p:=λy=>bj y.2 0 (p.1.length-1)) (c:=λy=>decide (y.2<0)||decide (y.2>=(p.1.length:Int))) (e:=true) eF jT (λy=>by grind[bj]) (λi h=>QQE (λr'=>r'=Z3 (Zk p)) p i k (by rw[Int.toNat_natCast,hg,QG (x:=(k:Int)+1) (by omega) (by omega)];exact h)) ?_
      cases hx:x.2.1.all (λy=>bj y.2 0 (p.1.length-1)) with
      | false =>
       rw[hx,Bool.false_and]at eH;exact au (by rw[val,<- eH,Bool.and_false])
      | true =>
       rw[hx,Bool.true_and]at eH;exact ih eH
   | succ n ihn =>
    intro he hle;obtain⟨y,q,hq⟩:∃ y q,p.2.2.1.drop k=y::q:=by
     cases hq:p.2.2.1.drop k with
     | nil=>have:=congrArg List.length hq;simp at this;omega
     | cons y q=>exact⟨y,q,rfl⟩
    obtain⟨z,t,hz⟩:∃ z t,p.2.2.2.drop k=z::t:=by
     cases hz:p.2.2.2.drop k with
     | nil=>have:=congrArg List.length hz;simp at this;omega
     | cons z t=>exact⟨z,t,rfl⟩
    have aW:=Ai hq;refine Qr3 _ _ _ ⟨λ_=>?_,λh=>by simp at h;omega⟩;rw[Int.toNat_natCast,ZF hq,ZF hz,QG (x:=(k:Int)+1) (by omega) (by omega)];have lX:=ihn (k+1) (by omega);rw[ZA hq,ZA hz]at lX;rw[hq,hz,List.all_cons,List.all_cons]at he;refine⟨⟨⟨by omega,aW⟩,λ_=>⟨by omega,by omega⟩⟩,λh=>au ?_,λh=>lX ?_ (by omega)⟩
    ·rw[val,<- he];grind
    ·rw[<- he];grind
  exact sA 0 rfl (Nat.zero_le _)
theorem QPG:Qf Tryz.prog M9:=Qi λx _=>QWK x.1
end
end Go.Proofs.YtdplaepmjogjjaaGreat.Am

