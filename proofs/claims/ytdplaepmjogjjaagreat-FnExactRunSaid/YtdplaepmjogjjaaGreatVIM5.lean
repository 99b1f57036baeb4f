/- -/
import Derived.Test.YtdplaepmjogjjaaGreatVIM4
namespace Go.Proofs.YtdplaepmjogjjaaGreat.Am
open Go Go.RowKit Go.Proofs.YtdplaepmjogjjaaGreat
set_option linter.all false
noncomputable section
variable (K:aB->Prop)
def B3(t:Bool):aB:=b7 (bE t)
def yr:aI:=Qg 258 [(.a [TI,TI,(.sl [TI])])] λx=>(none,B3 (Zo x.1))
def QLQ:aF:=⟨[xL],false⟩
def QVj:af :=
 (ag [(.ae [aC 1 (.box 235 0 3),ab 2 (a0 false)]),(ag [(.ae [ak 3 1 0,an 4 3 1,aw 5 .lss 4 (ar 1),ab 6 5,.bt 6 false [ak 7 1 0,an 8 7 1,aw 9 .gtr 8 (ar 6)] 10 9,ab 11 10,.bt 11 false [ak 12 1 1,an 13 12 1,aw 14 .lss 13 (ar 1)] 15 14,ab 16 15,.bt 16 false [ak 17 1 1,an 18 17 1,aw 19 .gtr 18 (ar 6)] 20 19]),(.cond 20 (ag [(.ae [ab 2 (a0 false)]),.ret]) .skip)]),(.ae [ak 21 1 2,an 22 21 1,a9 23 22,ak 24 1 0,an 25 24 1,ak 26 1 1,an 27 26 1,aw 28 .mul 25 27,aw 29 .eql 23 28,ab 30 29,.bt 30 true [ak 31 1 2,an 32 31 1,aD 33 238 [32]] 34 33,ab 2 34]),.ret])
def QLL:List (bm × Md):=[(.t 2,.one .d)]
theorem QN8(m:cd):aK Tryz.prog 258 [(.a [(.c TI m.1),(.c TI m.2.1),(.c (.sl [TI]) m.2.2)])] (B3 (Zo m)):=by
 refine bw QLQ QVj QLL 0 0 35 yr (kc IJ kn) (λK =>
 (aJ ((((decide (m.1<1))||(decide (m.1>6)))||(decide (m.2.1<1)))||(decide (m.2.1>6))) (K (B3 false)) (K (B3 ((((m.2.2).length:Int)==(aG (m.1*m.2.1)))&&(Z8 m.2.2)))))) (λhb=>?_)
 refine⟨λh=>au ?_,λh=>au ?_⟩
 ·have:(bh m.1 1 6&&bh m.2.1 1 6)=false:=by simp[bh];simp at h;omega
  unfold Zo;rw[this];rfl
 ·have h':(1<=m.1/\m.1<=6)/\1<=m.2.1/\m.2.1<=6:=by simp at h;omega
  have hm:=rA h'.1.1 h'.1.2 h'.2.1 h'.2.2;rw[QG (x:=m.1*m.2.1) (by omega) (by omega)];unfold Zo;rw[Zb.2 h'.1,Zb.2 h'.2];simp
theorem LC:Qf Tryz.prog yr:=Qi λx _=>QN8 x.1
def pf(t:Bool):aB:=b7 (bE t)
def B4:aI:=Qg 254 [(.a [TI,TI,(.sl [TI])])] λx=>(none,pf (Zo x.1))
def LD:aF:=⟨[YQ,ub],false⟩
def Qvo:af :=
 (ag [(ag [(.ae [ab 25 3,ak 26 1 2,an 27 26 1,a9 28 27,aw 29 .lss 25 28]),(.cond 29 .skip (.exit 0))]),(.block 1 (ag [(.ae [ak 32 1 2,an 33 32 1,ab 34 3,aZ 35 33 34 [TI],an 36 35 1,aD 37 183 [36],bL 38 37]),(.cond 38 (ag [(.ae [ab 2 (a0 false)]),.ret]) .skip)])),(.ae [ab 30 3,aw 31 .add 30 (ar 1),ab 3 31])])
def QBv:List (Nat × Md):=[(1,.b [.d,.d,.d]),(3,.one .d)]
def QvV:af :=
 (ag [(.ae [ab 2 (a0 true)]),.ret])
def QYE:af :=
 (ag [(.ae [aC 1 (.box 235 0 3),ab 2 (a0 false)]),(ag [(.ae [ak 4 1 0,an 5 4 1,aD 6 158 [5,(ar 1),(ar 6)],bL 7 6,ab 8 7,.bt 8 false [ak 9 1 1,an 10 9 1,aD 11 158 [10,(ar 1),(ar 6)],bL 12 11] 13 12,ab 14 13,.bt 14 false [ak 15 1 2,an 16 15 1,a9 17 16,ak 18 1 0,an 19 18 1,ak 20 1 1,an 21 20 1,aw 22 .mul 19 21,aw 23 .neq 17 22] 24 23]),(.cond 24 (ag [(.ae [ab 2 (a0 false)]),.ret]) .skip)]),(ag [(.ae [ab 3 (ar 0)]),(.block 0 (.loop QBv Qvo))]),QvV])
def QCb:List (bm × Md):=[(.t 2,.one .d)]
def QrK:Qb:=TQ 0 0 QCb K
def QIu:Qb:=aY (aN LD 0 QvV (QrK K)) (QrK K)
def QOh:Qb:=a6 0 (QIu K)
def LF(m:cd)(i:Int):Prop:=Loop LD 0 QBv Qvo (QOh K) ⟨[(1,(.p 0 0 0)),(3,(aL i))],[(0,(.box [(aL m.1),(aL m.2.1),(bc [TI] m.2.2)]))],1⟩
theorem QKm(m:cd)(i:Int) (h :
 (aJ (decide (i<((m.2.2).length:Int))) ((0<=i/\Int.toNat i<(m.2.2).length)/\(aJ (!(Zt (aq (0:Int) m.2.2 (Int.toNat i)))) (K (pf false)) (LF K m (aG (i+1))))) (K (pf true)))):LF K m i :=
 Loop.of h
theorem QLS(m:cd):aK Tryz.prog 254 [(.a [(.c TI m.1),(.c TI m.2.1),(.c (.sl [TI]) m.2.2)])] (pf (Zo m)):=by
 refine bw LD QYE QCb 0 0 39 B4 (kc Jo (kc A3 kn)) (λK =>
 (aJ (((!(bh m.1 (1:Int) (6:Int)))||(!(bh m.2.1 (1:Int) (6:Int))))||(((m.2.2).length:Int) != (aG (m.1*m.2.1)))) (K (pf false)) (LF K m 0))) (λhb=>?_)
 have sA:(m.2.2).length<=9223372036854775807:=hb.1.2.2.1.1;refine⟨λh=>au ?_,λh=>?_⟩
 ·have:Zo m=false:=by
   cases hm:Zo m with
   | false=>rfl
   | true =>
    obtain⟨h1,h2,h3,h4,h5,h6,h7⟩:=rL hm;rw[Zb.2 ⟨h1,h2⟩,Zb.2 ⟨h3,h4⟩,QG (x:=m.1*m.2.1) (by have:=rA h1 h2 h3 h4;omega) (by omega),<- h5]at h;simp at h
  exact this.symm
 ·have h':bh m.1 1 6=true/\bh m.2.1 1 6=true:=by simp at h;exact h.1
  have h1:=Zb.1 h'.1;have h2:=Zb.1 h'.2;have hm:=rA h1.1 h1.2 h2.1 h2.2;rw[QG (x:=m.1*m.2.1) (by omega) (by omega)]at h;exact oZ (Q:=λx=>pf x=pf (Zo m)) (p:=Zt) (c:=λx=>!(Zt x)) 0 sA (λ_=>rfl) (λi h=>QKm (λr'=>r'=pf (Zo m)) m i h) (au (by
   unfold Zo Z8;have h3:((m.2.2.length:Int)==m.1*m.2.1)=true:=by simp[h']at h;simp[h]
   rw[h'.1,h'.2,h3];simp))
theorem QB0:Qf Tryz.prog B4:=Qi λx _=>QLS x.1
def LG(t:(List Int)):aB:=fQ (bc [TI] t)
def LH:aI:=Qg 255 [(.a [TI,TI,(.sl [TI])]),(.c TI)] λx=>(some (GA x.1 x.2.1),LG (YA x.1 x.2.1))
def QU6:aF:=⟨[],false⟩
def QL1:af :=
 (ag [(.ae [aC 2 (.box 235 0 3),ab 4 (.k (.n [TI]))]),(.ae [ak 5 2 2,an 6 5 1,ab 7 1,ak 8 2 1,an 9 8 1,aw 10 .mul 7 9,ab 11 1,aw 12 .add 11 (ar 1),ak 13 2 1,an 14 13 1,aw 15 .mul 12 14,aC 16 (.fx 6 (some 10) (some 15) [TI]),ab 4 16]),.ret])
def QN5:List (bm × Md):=[(.t 4,.one .d)]
theorem QNZ(m:cd)(i:Int)(hp:GA m i):aK Tryz.prog 255 [(.a [(.c TI m.1),(.c TI m.2.1),(.c (.sl [TI]) m.2.2)]),(.c TI i)] (LG (YA m i)):=by
 refine bw QU6 QL1 QN5 0 0 17 LH kn (λK =>
 ((0<=aG (i*m.2.1)/\aG (i*m.2.1)<=aG ((aG (i+1))*m.2.1)/\aG ((aG (i+1))*m.2.1)<=((m.2.2).length:Int))/\K (LG (List.take (Int.toNat (aG ((aG (i+1))*m.2.1))-Int.toNat (aG (i*m.2.1))) (List.drop (Int.toNat (aG (i*m.2.1))) m.2.2))))) (λhb=>?_)
 obtain⟨h1,h2,h3,h4,h5,h6⟩:=hp;have hd:=idx h3 h4 h1;have h36:m.1*m.2.1<=36:=by
  have:=Int.mul_le_mul h5 h2 h1 (by omega:(0:Int)<=6);omega
 rw[QG (x:=i+1) (by omega) (by omega),QG (x:=i*m.2.1) (by omega) (by omega),QG (x:=(i+1)*m.2.1) (by omega) (by omega)];exact⟨⟨by omega,by omega,by omega⟩,au rfl⟩
theorem QSF:Qf Tryz.prog LH:=Qi λx h=>QNZ x.1 x.2.1 h
def B5(t:(List Int)):aB:=fQ (bc [TI] t)
def LI:aI:=Qg 264 [(.a [TI,TI,(.sl [TI])]),(.c TI)] λx=>(some (GB x.1 x.2.1),B5 (ZN x.1 x.2.1))
def LJ:aF:=⟨[],false⟩
def QqP:af :=
 (ag [(ag [(.ae [ab 8 6,ak 9 2 0,an 10 9 1,aw 11 .lss 8 10]),(.cond 11 .skip (.exit 0))]),(.block 1 (.ae [ab 14 5,ak 15 2 2,an 16 15 1,ab 17 6,ak 18 2 1,an 19 18 1,aw 20 .mul 17 19,ab 21 1,aw 22 .add 20 21,aZ 23 16 22 [TI],an 24 23 1,aC 25 (.bW 3 [TI] [24]),aC 26 (.app 14 25 3 [TI]),ab 5 26])),(.ae [ab 12 6,aw 13 .add 12 (ar 1),ab 6 13])])
def QAf:List (Nat × Md):=[(1,.one .d),(2,.b [.d,.d,.d]),(5,.one .f),(6,.one .d)]
def Qwg:af :=
 (ag [(.ae [ab 27 5,ab 4 27]),.ret])
def QPd:af :=
 (ag [(.ae [aC 2 (.box 235 0 3),ab 4 (.k (.n [TI]))]),(.ae [aC 7 (.bW 3 [TI] []),ab 5 7]),(ag [(.ae [ab 6 (ar 0)]),(.block 0 (.loop QAf QqP))]),Qwg])
def QrF:List (bm × Md):=[(.t 4,.one .d)]
def QzW:Qb:=TQ 0 0 QrF K
def QKd:Qb:=aY (aN LJ 0 Qwg (QzW K)) (QzW K)
def QO7:Qb:=a6 0 (QKd K)
def B6(m:cd)(k:Int)(i:Int)(out:List Int):Prop:=Loop LJ 0 QAf QqP (QO7 K) ⟨[(1,(aL k)),(2,(.p 0 0 0)),(5,(.r [TI] 1 0 out.length)),(6,(aL i))],[(0,(.box [(aL m.1),(aL m.2.1),(bc [TI] m.2.2)])),(1,(.sl 3 [TI] .ow out))],2⟩
theorem QBj(m:cd)(k:Int)(i:Int)(out:List Int) (h :
 (aJ (decide (i<m.1)) (((0<=aG ((aG (i*m.2.1))+k)/\Int.toNat (aG ((aG (i*m.2.1))+k))<(m.2.2).length)/\((out.length=out.length\/out.length+1<=out.length)/\out.length+1<=cc))/\(B6 K m k (aG (i+1)) (List.take (out.length+1) ((List.take out.length out)++([(aq (0:Int) m.2.2 (Int.toNat (aG ((aG (i*m.2.1))+k))))]))))) (K (B5 (List.take out.length (List.drop 0 out)))))):B6 K m k i out :=
 Loop.of h
theorem QXe(m:cd)(k:Int)(hp:GB m k):aK Tryz.prog 264 [(.a [(.c TI m.1),(.c TI m.2.1),(.c (.sl [TI]) m.2.2)]),(.c TI k)] (B5 (ZN m k)):=by
 refine bw LJ QPd QrF 0 0 28 LI kn (λK =>
 (B6 K m k 0 ([]:List Int))) (λhb=>?_)
 obtain⟨h2,h3,h4,h5,h6,h7⟩:=hp;have h36:m.1*m.2.1<=36:=by
  have:=Int.mul_le_mul h6 h2 (by omega) (by omega:(0:Int)<=6);omega
 refine rq m.1.toNat (λj=>B6 (λr'=>r'=B5 (ZN m k)) m k (j:Int) ((List.range j).map λi:Nat=>aq 0 m.2.2 ((i:Int)*m.2.1+k).toNat)) ?_ ?_
 ·refine QBj _ _ _ _ _ ⟨λh=>by simp at h;omega,λ_=>au ?_⟩;unfold ZN;rw[List.drop_zero,List.take_length]
 ·intro j hj ih;have hd:=idx (r:=j) (R:=m.1) (C:=m.2.1) (by omega) (by omega) (by omega);refine QBj _ _ _ _ _ ⟨λ_=>?_,λh=>by simp at h;omega⟩;rw[QG (x:=(j:Int)*m.2.1) (by omega) (by omega),QG (x:=(j:Int)*m.2.1+k) (by omega) (by omega),dM (by omega),Q9];rw[xw]at ih;exact⟨⟨⟨by omega,by omega⟩,room (by simp;omega)⟩,ih⟩
theorem QPQ:Qf Tryz.prog LI:=Qi λx h=>QXe x.1 x.2.1 h
def yt(t:(List Int) × Bool):aB:=⟨(.tp [(.r [TI] 0 0 ((t.1).length)),(bE t.2)]),[(.sl 3 [TI] (.dp 0 true []) t.1)],[],false,[]⟩
def B7:aI:=Qg 229 [(.a [TI,TI,(.sl [TI])]),(.c (.sl [TI]))] λx=>(none,yt (Q6 x.1 x.2.1))
def LK:aF:=⟨[yr,Ju,ym],true⟩
def Qtd:af :=
 (ag [(ag [(.ae [ab 22 8,ak 23 2 0,an 24 23 1,aw 25 .lss 22 24]),(.cond 25 .skip (.exit 0))]),(.block 1 (ag [(.ae [ak 29 2 2,an 30 29 1,ab 31 8,ak 32 2 1,an 33 32 1,aw 34 .mul 31 33,ab 35 8,aw 36 .add 35 (ar 1),ak 37 2 1,an 38 37 1,aw 39 .mul 36 38,aC 40 (.fx 30 (some 34) (some 39) [TI]),ab 41 1,aD 42 188 [40,41],ab 28 42,bF 43 28 0,bF 44 28 1,ab 9 43,ab 10 44]),(.ae [ab 45 6,ab 46 9,aC 47 (.bW 3 [TI] [46]),aC 48 (.app 45 47 3 [TI]),ab 6 48]),(.ae [ab 49 7,ab 50 49,.bt 50 false [ab 51 10] 52 51,ab 7 52])])),(.ae [ab 26 8,aw 27 .add 26 (ar 1),ab 8 27])])
def Qt4:List (Nat × Md):=[(1,.one .d),(2,.b [.d,.d,.d]),(6,.one .f),(7,.one .d),(8,.one .d)]
def Qq6:af :=
 (ag [(.ae [ab 53 6,ab 54 7,ab 4 53,ab 5 54]),.ret])
def QMy:af :=
 (ag [(.ae [aC 2 (.box 235 0 3),ab 4 (.k (.n [TI])),ab 5 (a0 false)]),(ag [(.ae [a7 11 2 3,aD 12 258 [11],bL 13 12,ab 14 13,.bt 14 false [ab 15 1,ak 16 2 1,an 17 16 1,aD 18 100 [15,17],bL 19 18] 20 19]),(.cond 20 (ag [(.ae [ab 4 (.k (.n [TI])),ab 5 (a0 false)]),.ret]) .skip)]),(.ae [aC 21 (.bW 3 [TI] []),ab 6 21]),(.ae [ab 7 (a0 false)]),(ag [(.ae [ab 8 (ar 0)]),(.block 0 (.loop Qt4 Qtd))]),Qq6])
def Qq4:List (bm × Md):=[(.t 4,.one (.p 3)),(.t 5,.one .d)]
def QEV:Qb:=TQ 0 0 Qq4 K
def QSV:Qb:=aY (aN LK 0 Qq6 (QEV K)) (QEV K)
def QRp:Qb:=a6 0 (QSV K)
def B8(m:cd)(x:List Int)(out:Bool)(r:Int)(v:List Int):Prop:=Loop LK 0 Qt4 Qtd (QRp K) ⟨[(1,(bc [TI] x)),(2,(.p 0 0 0)),(6,(.r [TI] 1 0 v.length)),(7,(bE out)),(8,(aL r))],[(0,(.box [(aL m.1),(aL m.2.1),(bc [TI] m.2.2)])),(1,(.sl 3 [TI] (.dp 0 true []) v))],2⟩
theorem QDF(m:cd)(x:List Int)(out:Bool)(r:Int)(v:List Int) (h :
 (aJ (decide (r<m.1)) ((0<=aG (r*m.2.1)/\aG (r*m.2.1)<=aG ((aG (r+1))*m.2.1)/\aG ((aG (r+1))*m.2.1)<=((m.2.2).length:Int))/\(((v.length=v.length\/v.length+1<=v.length)/\v.length+1<=cc)/\(B8 K m x (out||((Q1 (List.take (Int.toNat (aG ((aG (r+1))*m.2.1))-Int.toNat (aG (r*m.2.1))) (List.drop (Int.toNat (aG (r*m.2.1))) m.2.2)) x).2)) (aG (r+1)) (List.take (v.length+1) ((List.take v.length v)++([(Q1 (List.take (Int.toNat (aG ((aG (r+1))*m.2.1))-Int.toNat (aG (r*m.2.1))) (List.drop (Int.toNat (aG (r*m.2.1))) m.2.2)) x).1])))))) (K (yt ((List.take v.length v),out))))):B8 K m x out r v :=
 Loop.of h
theorem QPp(m:cd)(x:List Int):aK Tryz.prog 229 [(.a [(.c TI m.1),(.c TI m.2.1),(.c (.sl [TI]) m.2.2)]),(.c (.sl [TI]) x)] (yt (Q6 m x)):=by
 refine bw LK QMy Qq4 0 0 55 B7 (kc LC (kc JU (kc Lo kn))) (λK =>
 (aJ ((!(Zo m))||(!(QH x m.2.1))) (K (yt (([]:List Int),false))) (B8 K m x false 0 ([]:List Int)))) (λhb=>?_)
 refine⟨λh=>au (by rw[Tu];intro h2;simp[h2.1,h2.2]at h),λh=>?_⟩;have hp:Zo m=true/\QH x m.2.1=true:=by simpa using h
 obtain⟨h1,h2,h3,h4,h5,h6,h7⟩:=rL hp.1;have hv:(Q6 m x)=((List.range m.1.toNat).map λi:Nat=>(Q1 (YA m i) x).1,(List.range m.1.toNat).any λi:Nat=>(Q1 (YA m i) x).2):=by unfold Q6;rw[if_pos (by simp[hp])]
 refine rq m.1.toNat (λj=>B8 (λr'=>r'=yt (Q6 m x)) m x ((List.range j).any λi:Nat=>(Q1 (YA m i) x).2) (j:Int) ((List.range j).map λi:Nat=>(Q1 (YA m i) x).1)) ?_ ?_
 ·refine QDF _ _ _ _ _ _ ⟨λh=>by simp at h;omega,λ_=>au ?_⟩;rw[hv,List.take_length]
 ·intro j hj ih;have hd:=idx (r:=j) (R:=m.1) (C:=m.2.1) (by omega) (by omega) (by omega);refine QDF _ _ _ _ _ _ ⟨λ_=>?_,λh=>by simp at h;omega⟩;rw[QG (x:=(j:Int)+1) (by omega) (by omega),QG (x:=(j:Int)*m.2.1) (by omega) (by omega),QG (x:=((j:Int)+1)*m.2.1) (by omega) (by omega),Q9];rw[xw,GC]at ih;exact⟨⟨by omega,by omega,by omega⟩,room (by simp;omega),ih⟩
theorem QDw:Qf Tryz.prog B7:=Qi λx _=>QPp x.1 x.2.1
def yu(t:(List Int) × Bool):aB:=fQ (.tp [(bc [TI] t.1),(bE t.2)])
def LL:aI:=Qg 223 [(.a [TI,TI,(.sl [TI])]),(.c (.sl [TI]))] λx=>(none,yu (Q6 x.1 x.2.1))
def LM:aF:=⟨[B4,Yy,LH,ux],false⟩
def QCj:af :=
 (ag [(ag [(.ae [ab 28 8,ak 29 2 0,an 30 29 1,aw 31 .lss 28 30]),(.cond 31 .skip (.exit 0))]),(.block 1 (ag [(.ae [a7 35 2 3,ab 36 8,aD 37 255 [35,36],ab 38 1,aD 39 184 [37,38],ab 34 39,bF 40 34 0,bF 41 34 1,ab 9 40,ab 10 41]),(.ae [ab 42 6,ab 43 9,aC 44 (.bW 3 [TI] [43]),aC 45 (.app 42 44 3 [TI]),ab 6 45]),(.ae [ab 46 7,ab 47 46,.bt 47 false [ab 48 10] 49 48,ab 7 49])])),(.ae [ab 32 8,aw 33 .add 32 (ar 1),ab 8 33])])
def QBh:List (Nat × Md):=[(1,.one .d),(2,.b [.d,.d,.d]),(6,.one .f),(7,.one .d),(8,.one .d)]
def QDl:af :=
 (ag [(.ae [ab 50 6,ab 51 7,ab 4 50,ab 5 51]),.ret])
def QKN:af :=
 (ag [(.ae [aC 2 (.box 235 0 3),ab 4 (.k (.n [TI])),ab 5 (a0 false)]),(.ae [aC 11 (.bW 3 [TI] []),ab 6 11]),(.ae [ab 7 (a0 false)]),(ag [(.ae [a7 12 2 3,aD 13 254 [12],bL 14 13,ab 15 14,.bt 15 false [ab 16 1,aD 17 97 [16],bL 18 17] 19 18,ab 20 19,.bt 20 false [ab 21 1,a9 22 21,ak 23 2 1,an 24 23 1,aw 25 .neq 22 24] 26 25]),(.cond 26 (ag [(.ae [ab 27 6,ab 4 27,ab 5 (a0 false)]),.ret]) .skip)]),(ag [(.ae [ab 8 (ar 0)]),(.block 0 (.loop QBh QCj))]),QDl])
def Qtv:List (bm × Md):=[(.t 4,.one .d),(.t 5,.one .d)]
def QqR:Qb:=TQ 0 0 Qtv K
def QLu:Qb:=aY (aN LM 0 QDl (QqR K)) (QqR K)
def QXg:Qb:=a6 0 (QLu K)
def B9(m:cd)(x:List Int)(sat:Bool)(i:Int)(out:List Int):Prop:=Loop LM 0 QBh QCj (QXg K) ⟨[(1,(bc [TI] x)),(2,(.p 0 0 0)),(6,(.r [TI] 1 0 out.length)),(7,(bE sat)),(8,(aL i))],[(0,(.box [(aL m.1),(aL m.2.1),(bc [TI] m.2.2)])),(1,(.sl 3 [TI] .ow out))],2⟩
theorem Qsz(m:cd)(x:List Int)(sat:Bool)(i:Int)(out:List Int) (h :
 (aJ (decide (i<m.1)) ((GA m i)/\(((out.length=out.length\/out.length+1<=out.length)/\out.length+1<=cc)/\(B9 K m x (sat||((Q1 (YA m i) x).2)) (aG (i+1)) (List.take (out.length+1) ((List.take out.length out)++([(Q1 (YA m i) x).1])))))) (K (yu ((List.take out.length (List.drop 0 out)),sat))))):B9 K m x sat i out :=
 Loop.of h
theorem QMd(m:cd)(x:List Int):aK Tryz.prog 223 [(.a [(.c TI m.1),(.c TI m.2.1),(.c (.sl [TI]) m.2.2)]),(.c (.sl [TI]) x)] (yu (Q6 m x)):=by
 refine bw LM QKN Qtv 0 0 52 LL (kc QB0 (kc YL (kc QSF (kc BV kn)))) (λK =>
 (aJ (((!(Zo m))||(!(QK x)))||((x.length:Int) != m.2.1)) (K (yu (([]:List Int),false))) (B9 K m x false 0 ([]:List Int)))) (λhb=>?_)
 have hg:∀ n:Int,(!(QK x)||((x.length:Int) != n)) = !(QH x n):=λn=>by unfold QH;simp[bne]
 rw[Bool.or_assoc,hg];refine⟨λh=>au (by rw[Tu];intro h2;simp[h2.1,h2.2]at h),λh=>?_⟩;have hp:Zo m=true/\QH x m.2.1=true:=by simpa using h
 obtain⟨h1,h2,h3,h4,h5,h6,h7⟩:=rL hp.1;have hv:(Q6 m x)=((List.range m.1.toNat).map λi:Nat=>(Q1 (YA m i) x).1,(List.range m.1.toNat).any λi:Nat=>(Q1 (YA m i) x).2):=by unfold Q6;rw[if_pos (by simp[hp])]
 refine rq m.1.toNat (λj=>B9 (λr'=>r'=yu (Q6 m x)) m x ((List.range j).any λi:Nat=>(Q1 (YA m i) x).2) (j:Int) ((List.range j).map λi:Nat=>(Q1 (YA m i) x).1)) ?_ ?_
 ·refine Qsz _ _ _ _ _ _ ⟨λh=>by simp at h;omega,λ_=>au ?_⟩;rw[hv,List.drop_zero,List.take_length]
 ·intro j hj ih;have hd:=idx (r:=j) (R:=m.1) (C:=m.2.1) (by omega) (by omega) (by omega);refine Qsz _ _ _ _ _ _ ⟨λ_=>?_,λh=>by simp at h;omega⟩;rw[dM (by omega),Q9];rw[xw,GC]at ih;exact⟨⟨by omega,by omega,by omega,by omega,by omega,h5⟩,room (by simp;omega),ih⟩
theorem QWc:Qf Tryz.prog LL:=Qi λx _=>QMd x.1 x.2.1
def uy(t:cd):aB:=fQ (.a [(aL t.1),(aL t.2.1),(bc [TI] t.2.2)])
def LN:aI:=Qg 265 [(.a [TI,TI,(.sl [TI])])] λx=>(none,uy (Yz x.1))
def uz:aF:=⟨[yr],false⟩
def QAb:af :=
 (ag [(ag [(.ae [ab 21 5,ak 22 1 0,an 23 22 1,aw 24 .lss 21 23]),(.cond 24 .skip (.exit 2))]),(.block 3 (.draw [ak 27 3 2,an 28 27 1,ak 29 1 2,an 30 29 1,ab 31 5,ak 32 1 1,an 33 32 1,aw 34 .mul 31 33,ab 35 4,aw 36 .add 34 35,aZ 37 30 36 [TI],an 38 37 1,aC 39 (.bW 3 [TI] [38]),aC 40 (.app 28 39 3 [TI]),ak 41 3 2,aT 41 40 1] [(0,12),(1,12)])),(.ae [ab 25 5,aw 26 .add 25 (ar 1),ab 5 26])])
def QsZ:List (Nat × Md):=[(1,.b [.d,.d,.d]),(2,.b [.d,.d,.d]),(3,.b [.d,.d,.f]),(4,.one .d),(5,.one .d)]
def QDu:af :=
 (.ae [ab 19 4,aw 20 .add 19 (ar 1),ab 4 20])
def LO:af :=
 (ag [(ag [(.ae [ab 15 4,ak 16 1 1,an 17 16 1,aw 18 .lss 15 17]),(.cond 18 .skip (.exit 0))]),(.block 1 (ag [(.ae [ab 5 (ar 0)]),(.block 2 (.loop QsZ QAb))])),QDu])
def Ca:List (Nat × Md):=[(1,.b [.d,.d,.d]),(2,.b [.d,.d,.d]),(3,.b [.d,.d,.o 3]),(4,.one .d)]
def Qud:af :=
 (ag [(.ae [a7 42 3 3,aT 2 42 3]),.ret])
def QTl:af :=
 (ag [(.ae [aC 1 (.box 235 0 3),aC 2 (.new 235 (bG [TI,TI,(.sl [TI])]))]),(ag [(.ae [a7 6 1 3,aD 7 258 [6],bL 8 7]),(.cond 8 (ag [(.ae [aC 9 (.build (bG [TI,TI,(.sl [TI])]) []),aT 2 9 3]),.ret]) .skip)]),(.ae [ak 10 1 1,an 11 10 1,ak 12 1 0,an 13 12 1,aC 14 (.build (bG [TI,TI,(.sl [TI])]) [(0,1,11),(1,1,13)]),aC 3 (.new 235 (bG [TI,TI,(.sl [TI])])),aT 3 14 3]),(ag [(.ae [ab 4 (ar 0)]),(.block 0 (.loop Ca LO))]),Qud])
def QEG:List (bm × Md):=[(.l 2 3 true,.b [.d,.d,.d])]
def Qyx:Qb:=TQ 0 0 QEG K
def QRF:Qb:=aY (aN uz 0 Qud (Qyx K)) (Qyx K)
def LP:Qb:=a6 0 (QRF K)
def QrY:Qb:=aY (λs'=>Loop uz 0 Ca LO (LP K) (gc 0 Ca s')) (LP K)
def QJr:Qb:=aY (aN uz 0 QDu (QrY K)) (QrY K)
def QHU:Qb:=a6 1 (QJr K)
def QFh:Qb:=a6 2 (QHU K)
def Cb(m:cd)(r:Int)(t2:List Int)(c:Int):Prop:=Loop uz 0 QsZ QAb (QFh K) ⟨[(1,(.p 0 0 0)),(2,(.p 1 0 0)),(3,(.p 3 0 0)),(4,(aL c)),(5,(aL r))],[(0,(.box [(aL m.1),(aL m.2.1),(bc [TI] m.2.2)])),(1,(.box [(aL 0),(aL 0),(bc [TI] ([]))])),(2,(.sl 3 [TI] .ow t2)),(3,(.box [(aL m.2.1),(aL m.1),(.r [TI] 2 0 t2.length)]))],4⟩
def Cd(m:cd)(c:Int)(pg:List Int):Prop:=Loop uz 0 Ca LO (LP K) ⟨[(1,(.p 0 0 0)),(2,(.p 1 0 0)),(3,(.p 3 0 0)),(4,(aL c))],[(0,(.box [(aL m.1),(aL m.2.1),(bc [TI] m.2.2)])),(1,(.box [(aL 0),(aL 0),(bc [TI] ([]))])),(2,(.sl 3 [TI] .ow pg)),(3,(.box [(aL m.2.1),(aL m.1),(.r [TI] 2 0 pg.length)]))],4⟩
theorem QzR(m:cd)(r:Int)(t2:List Int)(c:Int) (h :
 (aJ (decide (r<m.1)) (((0<=aG ((aG (r*m.2.1))+c)/\Int.toNat (aG ((aG (r*m.2.1))+c))<(m.2.2).length)/\((t2.length=t2.length\/t2.length+1<=t2.length)/\t2.length+1<=cc))/\(Cb K m (aG (r+1)) (List.take (t2.length+1) ((List.take t2.length t2)++([(aq (0:Int) m.2.2 (Int.toNat (aG ((aG (r*m.2.1))+c))))]))) c)) (Cd K m (aG (c+1)) (List.take t2.length t2)))):Cb K m r t2 c :=
 Loop.of h
theorem QxX(m:cd)(c:Int)(pg:List Int) (h :
 (aJ (decide (c<m.2.1)) (Cb K m 0 (List.take pg.length pg) c) (K (uy (m.2.1,m.1,(List.take pg.length (List.drop 0 pg))))))):Cd K m c pg :=
 Loop.of h
theorem QXJ(m:cd):aK Tryz.prog 265 [(.a [(.c TI m.1),(.c TI m.2.1),(.c (.sl [TI]) m.2.2)])] (uy (Yz m)):=by
 refine bw uz QTl QEG 0 0 43 LN (kc LC kn) (λK =>
 (aJ (!(Zo m)) (K (uy ((0:Int),(0:Int),[]))) (Cd K m 0 ([]:List Int)))) (λhb=>?_)
 refine⟨λh=>au (by unfold Yz;rw[if_neg (by simpa using h)]),λh=>?_⟩;have hp:Zo m=true:=by simpa using h
 obtain⟨h1,h2,h3,h4,h5,h6,h7⟩:=rL hp;refine rq m.2.1.toNat (λk=>Cd (λr'=>r'=uy (Yz m)) m (k:Int) ((List.range k).flatMap λk:Nat=>ZN m k)) ?_ ?_
 ·refine QxX _ _ _ _ ⟨λh=>by simp at h;omega,λ_=>au ?_⟩;rw[List.drop_zero,List.take_length];unfold Yz;rw[if_pos hp]
 ·intro k hk ih;refine QxX _ _ _ _ ⟨λ_=>?_,λh=>by simp at h;omega⟩;rw[List.take_length];have awC:((List.range k).flatMap λk:Nat=>ZN m k).length<=36:=by
   rw[GF (R:=m.1.toNat) k (λj _=>GG m j)];have:k*m.1.toNat<=6*6:=Nat.mul_le_mul (by omega) (by omega);omega
  have inner:=rq m.1.toNat (λj=>Cb (λr'=>r'=uy (Yz m)) m (j:Int) (((List.range k).flatMap λk:Nat=>ZN m k)++(List.range j).map λi:Nat=>aq 0 m.2.2 ((i:Int)*m.2.1+(k:Nat)).toNat) (k:Int)) ?_ ?_
  ·simpa using inner
  ·refine QzR _ _ _ _ _ ⟨λh=>by simp at h;omega,λ_=>?_⟩;rw[List.take_length,dM (by omega)];rw[GD]at ih;exact ih
  ·intro j hj l8;have hd:=idx (r:=j) (R:=m.1) (C:=m.2.1) (by omega) (by omega) (by omega);refine QzR _ _ _ _ _ ⟨λ_=>?_,λh=>by simp at h;omega⟩;rw[QG (x:=(j:Int)*m.2.1) (by omega) (by omega),QG (x:=(j:Int)*m.2.1+(k:Int)) (by omega) (by omega),dM (by omega),Q9];rw[xw,<- List.append_assoc]at l8;exact⟨⟨⟨by omega,by omega⟩,room (by rw[List.length_append];simp only[List.length_map,List.length_range];omega)⟩,l8⟩
theorem QRT:Qf Tryz.prog LN:=Qi λx _=>QXJ x.1
def Ce(t:(List Int) × Bool):aB:=⟨(.tp [(.r [TI] 0 0 ((t.1).length)),(bE t.2)]),[(.sl 3 [TI] (.dp 0 true []) t.1)],[],false,[]⟩
def LQ:aI:=Qg 244 [(.a [TI,TI,(.sl [TI])]),(.c (.sl [TI]))] λx=>(none,Ce (Zr x.1 x.2.1))
def QPv:aF:=⟨[yr,Ju,LN,B7],true⟩
def QLp:af :=
 (ag [(.ae [aC 2 (.box 235 0 3),ab 4 (.k (.n [TI])),ab 5 (a0 false)]),(ag [(.ae [a7 6 2 3,aD 7 258 [6],bL 8 7,ab 9 8,.bt 9 false [ab 10 1,ak 11 2 0,an 12 11 1,aD 13 100 [10,12],bL 14 13] 15 14]),(.cond 15 (ag [(.ae [ab 4 (.k (.n [TI])),ab 5 (a0 false)]),.ret]) .skip)]),(.ae [a7 16 2 3,aD 17 265 [16],ab 18 1,aD 19 229 [17,18],bF 20 19 0,bF 21 19 1,ab 4 20,ab 5 21]),.ret])
def QLn:List (bm × Md):=[(.t 4,.one (.p 3)),(.t 5,.one .d)]
theorem QV0(m:cd)(d:List Int):aK Tryz.prog 244 [(.a [(.c TI m.1),(.c TI m.2.1),(.c (.sl [TI]) m.2.2)]),(.c (.sl [TI]) d)] (Ce (Zr m d)):=by
 refine bw QPv QLp QLn 0 0 22 LQ (kc LC (kc JU (kc QRT (kc QDw kn)))) (λK =>
 (aJ ((!(Zo m))||(!(QH d m.1))) (K (Ce (([]:List Int),false))) (K (Ce ((List.take (((Q6 (Yz m) d).1).length) ((Q6 (Yz m) d).1)),(Q6 (Yz m) d).2))))) (λhb=>?_)
 refine⟨λh=>au (by rw[Tt];intro h2;simp[h2.1,h2.2]at h),λh=>?_⟩;have hp:Zo m=true/\QH d m.1=true:=by simpa using h
 exact au (by rw[List.take_length];exact QJO hp.1 hp.2)
theorem QGq:Qf Tryz.prog LQ:=Qi λx _=>QV0 x.1 x.2.1
def yv(t:(List Int) × Bool):aB:=fQ (.tp [(bc [TI] t.1),(bE t.2)])
def LR:aI:=Qg 242 [(.a [TI,TI,(.sl [TI])]),(.c (.sl [TI]))] λx=>(none,yv (Zr x.1 x.2.1))
def LS:aF:=⟨[B4,Yy,LI,ux],false⟩
def QAv:af :=
 (ag [(ag [(.ae [ab 28 8,ak 29 2 1,an 30 29 1,aw 31 .lss 28 30]),(.cond 31 .skip (.exit 0))]),(.block 1 (ag [(.ae [a7 35 2 3,ab 36 8,aD 37 264 [35,36],ab 38 1,aD 39 184 [37,38],ab 34 39,bF 40 34 0,bF 41 34 1,ab 9 40,ab 10 41]),(.ae [ab 42 6,ab 43 9,aC 44 (.bW 3 [TI] [43]),aC 45 (.app 42 44 3 [TI]),ab 6 45]),(.ae [ab 46 7,ab 47 46,.bt 47 false [ab 48 10] 49 48,ab 7 49])])),(.ae [ab 32 8,aw 33 .add 32 (ar 1),ab 8 33])])
def QEQ:List (Nat × Md):=[(1,.one .d),(2,.b [.d,.d,.d]),(6,.one .f),(7,.one .d),(8,.one .d)]
def QDC:af :=
 (ag [(.ae [ab 50 6,ab 51 7,ab 4 50,ab 5 51]),.ret])
def QOq:af :=
 (ag [(.ae [aC 2 (.box 235 0 3),ab 4 (.k (.n [TI])),ab 5 (a0 false)]),(.ae [aC 11 (.bW 3 [TI] []),ab 6 11]),(.ae [ab 7 (a0 false)]),(ag [(.ae [a7 12 2 3,aD 13 254 [12],bL 14 13,ab 15 14,.bt 15 false [ab 16 1,aD 17 97 [16],bL 18 17] 19 18,ab 20 19,.bt 20 false [ab 21 1,a9 22 21,ak 23 2 0,an 24 23 1,aw 25 .neq 22 24] 26 25]),(.cond 26 (ag [(.ae [ab 27 6,ab 4 27,ab 5 (a0 false)]),.ret]) .skip)]),(ag [(.ae [ab 8 (ar 0)]),(.block 0 (.loop QEQ QAv))]),QDC])
def Qu4:List (bm × Md):=[(.t 4,.one .d),(.t 5,.one .d)]
def Qvm:Qb:=TQ 0 0 Qu4 K
def QNH:Qb:=aY (aN LS 0 QDC (Qvm K)) (Qvm K)
def QVO:Qb:=a6 0 (QNH K)
def Cf(m:cd)(d:List Int)(sat:Bool)(k:Int)(out:List Int):Prop:=Loop LS 0 QEQ QAv (QVO K) ⟨[(1,(bc [TI] d)),(2,(.p 0 0 0)),(6,(.r [TI] 1 0 out.length)),(7,(bE sat)),(8,(aL k))],[(0,(.box [(aL m.1),(aL m.2.1),(bc [TI] m.2.2)])),(1,(.sl 3 [TI] .ow out))],2⟩
theorem QrG(m:cd)(d:List Int)(sat:Bool)(k:Int)(out:List Int) (h :
 (aJ (decide (k<m.2.1)) ((GB m k)/\(((out.length=out.length\/out.length+1<=out.length)/\out.length+1<=cc)/\(Cf K m d (sat||((Q1 (ZN m k) d).2)) (aG (k+1)) (List.take (out.length+1) ((List.take out.length out)++([(Q1 (ZN m k) d).1])))))) (K (yv ((List.take out.length (List.drop 0 out)),sat))))):Cf K m d sat k out :=
 Loop.of h
theorem QNU(m:cd)(d:List Int):aK Tryz.prog 242 [(.a [(.c TI m.1),(.c TI m.2.1),(.c (.sl [TI]) m.2.2)]),(.c (.sl [TI]) d)] (yv (Zr m d)):=by
 refine bw LS QOq Qu4 0 0 52 LR (kc QB0 (kc YL (kc QPQ (kc BV kn)))) (λK =>
 (aJ (((!(Zo m))||(!(QK d)))||((d.length:Int) != m.1)) (K (yv (([]:List Int),false))) (Cf K m d false 0 ([]:List Int)))) (λhb=>?_)
 have hg:∀ n:Int,(!(QK d)||((d.length:Int) != n)) = !(QH d n):=λn=>by unfold QH;simp[bne]
 rw[Bool.or_assoc,hg];refine⟨λh=>au (by rw[Tt];intro h2;simp[h2.1,h2.2]at h),λh=>?_⟩;have hp:Zo m=true/\QH d m.1=true:=by simpa using h
 obtain⟨h1,h2,h3,h4,h5,h6,h7⟩:=rL hp.1;have hv:(Zr m d)=((List.range m.2.1.toNat).map λk:Nat=>(Q1 (ZN m k) d).1,(List.range m.2.1.toNat).any λk:Nat=>(Q1 (ZN m k) d).2):=by unfold Zr;rw[if_pos (by simp[hp])]
 refine rq m.2.1.toNat (λj=>Cf (λr'=>r'=yv (Zr m d)) m d ((List.range j).any λk:Nat=>(Q1 (ZN m k) d).2) (j:Int) ((List.range j).map λk:Nat=>(Q1 (ZN m k) d).1)) ?_ ?_
 ·refine QrG _ _ _ _ _ _ ⟨λh=>by simp at h;omega,λ_=>au ?_⟩;rw[hv,List.drop_zero,List.take_length]
 ·intro j hj ih;refine QrG _ _ _ _ _ _ ⟨λ_=>?_,λh=>by simp at h;omega⟩;rw[dM (by omega),Q9];rw[xw,GC]at ih;exact⟨⟨by omega,by omega,by omega,by omega,by omega,h5⟩,room (by simp;omega),ih⟩
theorem QIO:Qf Tryz.prog LR:=Qi λx _=>QNU x.1 x.2.1
def uA(t:cd × Bool):aB:=⟨(.tp [(.a [(aL t.1.1),(aL t.1.2.1),(.r [TI] 0 0 ((t.1.2.2).length))]),(bE t.2)]),[(.sl 3 [TI] (.dp 0 true []) t.1.2.2)],[],false,[]⟩
def LU:aI:=Qg 245 [(.c (.sl [TI])),(.c (.sl [TI]))] λx=>(none,uA (Zl x.1 x.2.1))
def uB:aF:=⟨[nQ,xW],true⟩
def QD9:af :=
 (ag [(.ae [aw 37 .lss 36 35]),(.cond 37 .skip (.exit 2)),(.block 3 (ag [(.ae [aZ 38 34 36 [TI],an 39 38 1,ab 11 39]),(.ae [ab 41 9,ab 42 11,aD 43 239 [41,42],ab 40 43,bF 44 40 0,bF 45 40 1,ab 12 44,ab 13 45]),(.ae [ak 46 6 2,an 47 46 1,ab 48 12,aC 49 (.bW 3 [TI] [48]),aC 50 (.app 47 49 3 [TI]),ak 51 6 2,aT 51 50 1]),(.ae [ab 52 7,ab 53 52,.bt 53 false [ab 54 13] 55 54,ab 7 55])])),(.ae [aw 56 .add 36 (ar 1),ab 36 56])])
def QyG:List (Nat × Md):=[(1,.one .d),(4,.b [.d,.d,.f]),(6,.b [.d,.d,.f]),(7,.one .d),(9,.one .d),(28,.one .d),(29,.one .d),(30,.one .d),(34,.one .d),(35,.one .d),(36,.one .d)]
def QD2:af :=
 (.ae [aw 57 .add 30 (ar 1),ab 30 57])
def LV:af :=
 (ag [(.ae [aw 31 .lss 30 29]),(.cond 31 .skip (.exit 0)),(.block 1 (ag [(.ae [aZ 32 28 30 [TI],an 33 32 1,ab 9 33]),(.ae [ab 34 1,a9 35 34,ab 36 (ar 0)]),(.block 2 (.loop QyG QD9))])),QD2])
def Cg:List (Nat × Md):=[(1,.one .d),(4,.b [.d,.d,.f]),(6,.b [.d,.d,.p 3]),(7,.one .d),(28,.one .d),(29,.one .d),(30,.one .d)]
def QrL:af :=
 (ag [(.ae [a7 58 6 3,ab 59 7,aT 4 58 3,ab 5 59]),.ret])
def QOH:af :=
 (ag [(.ae [aC 4 (.new 235 (bG [TI,TI,(.sl [TI])])),ab 5 (a0 false)]),(ag [(.ae [ab 14 0,aD 15 187 [14],bL 16 15,ab 17 16,.bt 17 false [ab 18 1,aD 19 187 [18],bL 20 19] 21 20]),(.cond 21 (ag [(.ae [aC 22 (.build (bG [TI,TI,(.sl [TI])]) []),aT 4 22 3,ab 5 (a0 false)]),.ret]) .skip)]),(.ae [ab 23 0,a9 24 23,ab 25 1,a9 26 25,aC 27 (.build (bG [TI,TI,(.sl [TI])]) [(0,1,24),(1,1,26)]),aC 6 (.new 235 (bG [TI,TI,(.sl [TI])])),aT 6 27 3]),(.ae [ab 7 (a0 false)]),(ag [(.ae [ab 28 0,a9 29 28,ab 30 (ar 0)]),(.block 0 (.loop Cg LV))]),QrL])
def Qun:List (bm × Md):=[(.l 4 3 true,.b [.d,.d,.p 3]),(.t 5,.one .d)]
def QxU:Qb:=TQ 0 0 Qun K
def QNB:Qb:=aY (aN uB 0 QrL (QxU K)) (QxU K)
def LW:Qb:=a6 0 (QNB K)
def QvK:Qb:=aY (λs'=>Loop uB 0 Cg LV (LW K) (gc 0 Cg s')) (LW K)
def QTQ:Qb:=aY (aN uB 0 QD2 (QvK K)) (QvK K)
def QHn:Qb:=a6 1 (QTQ K)
def QXC:Qb:=a6 2 (QHn K)
def Ch(d:List Int)(x:List Int)(out:Bool)(x1:Int)(m2:List Int)(x2:Int):Prop:=Loop uB 0 QyG QD9 (QXC K) ⟨[(1,(bc [TI] x)),(4,(.p 0 0 0)),(6,(.p 2 0 0)),(7,(bE out)),(9,(aL (aq (0:Int) d (Int.toNat x2)))),(28,(bc [TI] d)),(29,(aL (d.length:Int))),(30,(aL x2)),(34,(bc [TI] x)),(35,(aL (x.length:Int))),(36,(aL x1))],[(0,(.box [(aL 0),(aL 0),(.n [TI])])),(1,(.sl 3 [TI] (.dp 0 true []) m2)),(2,(.box [(aL (d.length:Int)),(aL (x.length:Int)),(.r [TI] 1 0 m2.length)]))],3⟩
def Ci(d:List Int)(x:List Int)(l9:Bool)(x2:Int)(jk:List Int):Prop:=Loop uB 0 Cg LV (LW K) ⟨[(1,(bc [TI] x)),(4,(.p 0 0 0)),(6,(.p 2 0 0)),(7,(bE l9)),(28,(bc [TI] d)),(29,(aL (d.length:Int))),(30,(aL x2))],[(0,(.box [(aL 0),(aL 0),(.n [TI])])),(1,(.sl 3 [TI] (.dp 0 true []) jk)),(2,(.box [(aL (d.length:Int)),(aL (x.length:Int)),(.r [TI] 1 0 jk.length)]))],3⟩
theorem Qz0(d:List Int)(x:List Int)(out:Bool)(x1:Int)(m2:List Int)(x2:Int) (h :
 (aJ (decide (x1<(x.length:Int))) ((0<=x1/\Int.toNat x1<x.length)/\(((m2.length=m2.length\/m2.length+1<=m2.length)/\m2.length+1<=cc)/\(Ch K d x (out||((Q7 (aq (0:Int) d (Int.toNat x2)) (aq (0:Int) x (Int.toNat x1))).2)) (aG (x1+1)) (List.take (m2.length+1) ((List.take m2.length m2)++([(Q7 (aq (0:Int) d (Int.toNat x2)) (aq (0:Int) x (Int.toNat x1))).1]))) x2))) (Ci K d x out (aG (x2+1)) (List.take m2.length m2)))):Ch K d x out x1 m2 x2 :=
 Loop.of h
theorem Qut(d:List Int)(x:List Int)(l9:Bool)(x2:Int)(jk:List Int) (h :
 (aJ (decide (x2<(d.length:Int))) ((0<=x2/\Int.toNat x2<d.length)/\(Ch K d x l9 0 (List.take jk.length jk) x2)) (K (uA (((d.length:Int),(x.length:Int),(List.take jk.length jk)),l9))))):Ci K d x l9 x2 jk :=
 Loop.of h
theorem QM7(d:List Int)(x:List Int):aK Tryz.prog 245 [(.c (.sl [TI]) d),(.c (.sl [TI]) x)] (uA (Zl d x)):=by
 refine bw uB QOH Qun 0 0 60 LU (kc si (kc Ko kn)) (λK =>
 (aJ ((!(QK d))||(!(QK x))) (K (uA (((0:Int),(0:Int),([]:List Int)),false))) (Ci K d x false 0 ([]:List Int)))) (λhb=>?_)
 refine⟨λh=>au (by unfold Zl;rw[if_neg (by simpa[Classical.or_iff_not_imp_left]using h)]),λh=>?_⟩;have hp:QK d=true/\QK x=true:=by simpa using h
 have h6:=(Yg.1 hp.1).1;have h7:=(Yg.1 hp.2).1;refine Za d (λr j=>∀(v:List Int)(z:Bool),v.length<=6*j->((((d.length:Int),(x.length:Int),v++r.flatMap λa=>x.map λb=>(Q7 a b).1),z||r.any λa=>x.any λb=>(Q7 a b).2):cd × Bool)=(Zl d x)->Ci (λr'=>r'=uA (Zl d x)) d x z j v) ?_ ?_ [] false (Nat.zero_le _) (by unfold Zl;rw[if_pos (by simp[hp])];simp)
 ·intro v z hv he;refine Qut _ _ _ _ _ _ ⟨λh=>by simp at h,λ_=>au ?_⟩;rw[<- he];simp
 ·intro j y r hj aU hg ih v z hv he;refine Qut _ _ _ _ _ _ ⟨λ_=>?_,λh=>by simp at h;omega⟩;rw[List.take_length];refine⟨⟨by omega,by omega⟩,Za x (λr2 k=>∀(v2:List Int)(z2:Bool),v2.length=v.length+k->v2++r2.map (λb=>(Q7 y b).1)=v++x.map (λb=>(Q7 y b).1)->(z2||r2.any λb=>(Q7 y b).2)=(z||x.any λb=>(Q7 y b).2)->Ch (λr'=>r'=uA (Zl d x)) d x z2 k v2 j) ?_ ?_ v z (by omega) rfl rfl⟩
  ·intro v2 z2 mQ eI jj;refine Qz0 _ _ _ _ _ _ _ ⟨λh=>by simp at h,λ_=>?_⟩;rw[List.take_length,dM (by omega)];simp only[List.map_nil,List.append_nil,List.any_nil,Bool.or_false]at eI jj;refine ih _ _ (by rw[mQ];omega) ?_;rw[<- he,eI,jj];simp[Bool.or_assoc]
  ·intro k w r2 hk i7 g7 l8 v2 z2 mQ eI jj;refine Qz0 _ _ _ _ _ _ _ ⟨λ_=>?_,λh=>by simp at h;omega⟩;rw[Int.toNat_natCast,Int.toNat_natCast,hg,g7,dM (by omega),Q9];refine⟨⟨by omega,by omega⟩,room (by omega),l8 _ _ (by simp;omega) ?_ ?_⟩
   ·rw[<- eI];simp
   ·rw[<- jj];simp[Bool.or_assoc]
theorem QT1:Qf Tryz.prog LU:=Qi λx _=>QM7 x.1 x.2.1
def uC(t:cd × Bool):aB:=fQ (.tp [(.a [(aL t.1.1),(aL t.1.2.1),(bc [TI] t.1.2.2)]),(bE t.2)])
def LX:aI:=Qg 243 [(.c (.sl [TI])),(.c (.sl [TI]))] λx=>(none,uC (Zl x.1 x.2.1))
def uD:aF:=⟨[Yy,xX],false⟩
def QyF:af :=
 (ag [(ag [(.ae [ab 32 9,ab 33 1,a9 34 33,aw 35 .lss 32 34]),(.cond 35 .skip (.exit 2))]),(.block 3 (ag [(.draw [ab 39 0,ab 40 8,aZ 41 39 40 [TI],an 42 41 1,ab 43 1,ab 44 9,aZ 45 43 44 [TI],an 46 45 1,aD 47 237 [42,46],ab 38 47,bF 48 38 0,bF 49 38 1,ab 10 48,ab 11 49] []),(.ae [ak 50 6 2,an 51 50 1,ab 52 10,aC 53 (.bW 3 [TI] [52]),aC 54 (.app 51 53 3 [TI]),ak 55 6 2,aT 55 54 1]),(.ae [ab 56 7,ab 57 56,.bt 57 false [ab 58 11] 59 58,ab 7 59])])),(.ae [ab 36 9,aw 37 .add 36 (ar 1),ab 9 37])])
def QA6:List (Nat × Md):=[(0,.one .d),(1,.one .d),(4,.b [.d,.d,.d]),(6,.b [.d,.d,.f]),(7,.one .d),(8,.one .d),(9,.one .d)]
def QxR:af :=
 (.ae [ab 30 8,aw 31 .add 30 (ar 1),ab 8 31])
def LY:af :=
 (ag [(ag [(.ae [ab 26 8,ab 27 0,a9 28 27,aw 29 .lss 26 28]),(.cond 29 .skip (.exit 0))]),(.block 1 (ag [(.ae [ab 9 (ar 0)]),(.block 2 (.loop QA6 QyF))])),QxR])
def Cj:List (Nat × Md):=[(0,.one .d),(1,.one .d),(4,.b [.d,.d,.d]),(6,.b [.d,.d,.o 3]),(7,.one .d),(8,.one .d)]
def Qxo:af :=
 (ag [(.ae [a7 60 6 3,ab 61 7,aT 4 60 3,ab 5 61]),.ret])
def QUH:af :=
 (ag [(.ae [aC 4 (.new 235 (bG [TI,TI,(.sl [TI])])),ab 5 (a0 false)]),(ag [(.ae [ab 12 0,aD 13 97 [12],bL 14 13,ab 15 14,.bt 15 false [ab 16 1,aD 17 97 [16],bL 18 17] 19 18]),(.cond 19 (ag [(.ae [aC 20 (.build (bG [TI,TI,(.sl [TI])]) []),aT 4 20 3,ab 5 (a0 false)]),.ret]) .skip)]),(.ae [ab 21 0,a9 22 21,ab 23 1,a9 24 23,aC 25 (.build (bG [TI,TI,(.sl [TI])]) [(0,1,22),(1,1,24)]),aC 6 (.new 235 (bG [TI,TI,(.sl [TI])])),aT 6 25 3]),(.ae [ab 7 (a0 false)]),(ag [(.ae [ab 8 (ar 0)]),(.block 0 (.loop Cj LY))]),Qxo])
def Qxg:List (bm × Md):=[(.l 4 3 true,.b [.d,.d,.d]),(.t 5,.one .d)]
def QDV:Qb:=TQ 0 0 Qxg K
def QN9:Qb:=aY (aN uD 0 Qxo (QDV K)) (QDV K)
def LZ:Qb:=a6 0 (QN9 K)
def QxY:Qb:=aY (λs'=>Loop uD 0 Cj LY (LZ K) (gc 0 Cj s')) (LZ K)
def QKK:Qb:=aY (aN uD 0 QxR (QxY K)) (QxY K)
def QO9:Qb:=a6 1 (QKK K)
def QIR:Qb:=a6 2 (QO9 K)
def Ck(d:List Int)(x:List Int)(sat:Bool)(k:Int)(m2:List Int)(i:Int):Prop:=Loop uD 0 QA6 QyF (QIR K) ⟨[(0,(bc [TI] d)),(1,(bc [TI] x)),(4,(.p 0 0 0)),(6,(.p 2 0 0)),(7,(bE sat)),(8,(aL i)),(9,(aL k))],[(0,(.box [(aL 0),(aL 0),(bc [TI] ([]))])),(1,(.sl 3 [TI] .ow m2)),(2,(.box [(aL (d.length:Int)),(aL (x.length:Int)),(.r [TI] 1 0 m2.length)]))],3⟩
def Cl(d:List Int)(x:List Int)(ma:Bool)(i:Int)(jk:List Int):Prop:=Loop uD 0 Cj LY (LZ K) ⟨[(0,(bc [TI] d)),(1,(bc [TI] x)),(4,(.p 0 0 0)),(6,(.p 2 0 0)),(7,(bE ma)),(8,(aL i))],[(0,(.box [(aL 0),(aL 0),(bc [TI] ([]))])),(1,(.sl 3 [TI] .ow jk)),(2,(.box [(aL (d.length:Int)),(aL (x.length:Int)),(.r [TI] 1 0 jk.length)]))],3⟩
theorem Qsv(d:List Int)(x:List Int)(sat:Bool)(k:Int)(m2:List Int)(i:Int) (h :
 (aJ (decide (k<(x.length:Int))) (((0<=i/\Int.toNat i<d.length)/\(0<=k/\Int.toNat k<x.length))/\(((m2.length=m2.length\/m2.length+1<=m2.length)/\m2.length+1<=cc)/\(Ck K d x (sat||((Q7 (aq (0:Int) d (Int.toNat i)) (aq (0:Int) x (Int.toNat k))).2)) (aG (k+1)) (List.take (m2.length+1) ((List.take m2.length m2)++([(Q7 (aq (0:Int) d (Int.toNat i)) (aq (0:Int) x (Int.toNat k))).1]))) i))) (Cl K d x sat (aG (i+1)) (List.take m2.length m2)))):Ck K d x sat k m2 i :=
 Loop.of h
theorem QDn(d:List Int)(x:List Int)(ma:Bool)(i:Int)(jk:List Int) (h :
 (aJ (decide (i<(d.length:Int))) (Ck K d x ma 0 (List.take jk.length jk) i) (K (uC (((d.length:Int),(x.length:Int),(List.take jk.length (List.drop 0 jk))),ma))))):Cl K d x ma i jk :=
 Loop.of h
theorem QMj(d:List Int)(x:List Int):aK Tryz.prog 243 [(.c (.sl [TI]) d),(.c (.sl [TI]) x)] (uC (Zl d x)):=by
 refine bw uD QUH Qxg 0 0 62 LX (kc YL (kc Kq kn)) (λK =>
 (aJ ((!(QK d))||(!(QK x))) (K (uC (((0:Int),(0:Int),[]),false))) (Cl K d x false 0 ([]:List Int)))) (λhb=>?_)
 refine⟨λh=>au (by unfold Zl;rw[if_neg (by simpa[Classical.or_iff_not_imp_left]using h)]),λh=>?_⟩;have hp:QK d=true/\QK x=true:=by simpa using h
 have h6:=(Yg.1 hp.1).1;have h7:=(Yg.1 hp.2).1;refine Za d (λr j=>∀(v:List Int)(z:Bool),v.length<=6*j->((((d.length:Int),(x.length:Int),v++r.flatMap λa=>x.map λb=>(Q7 a b).1),z||r.any λa=>x.any λb=>(Q7 a b).2):cd × Bool)=(Zl d x)->Cl (λr'=>r'=uC (Zl d x)) d x z j v) ?_ ?_ [] false (Nat.zero_le _) (by unfold Zl;rw[if_pos (by simp[hp])];simp)
 ·intro v z hv he;refine QDn _ _ _ _ _ _ ⟨λh=>by simp at h,λ_=>au ?_⟩;rw[<- he];simp
 ·intro j y r hj aU hg ih v z hv he;refine QDn _ _ _ _ _ _ ⟨λ_=>?_,λh=>by simp at h;omega⟩;rw[List.take_length];refine Za x (λr2 k=>∀(v2:List Int)(z2:Bool),v2.length=v.length+k->v2++r2.map (λb=>(Q7 y b).1)=v++x.map (λb=>(Q7 y b).1)->(z2||r2.any λb=>(Q7 y b).2)=(z||x.any λb=>(Q7 y b).2)->Ck (λr'=>r'=uC (Zl d x)) d x z2 k v2 j) ?_ ?_ v z (by omega) rfl rfl
  ·intro v2 z2 mQ eI jj;refine Qsv _ _ _ _ _ _ _ ⟨λh=>by simp at h,λ_=>?_⟩;rw[List.take_length,dM (by omega)];simp only[List.map_nil,List.append_nil,List.any_nil,Bool.or_false]at eI jj;refine ih _ _ (by rw[mQ];omega) ?_;rw[<- he,eI,jj];simp[Bool.or_assoc]
  ·intro k w r2 hk i7 g7 l8 v2 z2 mQ eI jj;refine Qsv _ _ _ _ _ _ _ ⟨λ_=>?_,λh=>by simp at h;omega⟩;rw[Int.toNat_natCast,Int.toNat_natCast,hg,g7,dM (by omega),Q9];refine⟨⟨⟨by omega,by omega⟩,by omega,by omega⟩,room (by omega),l8 _ _ (by simp;omega) ?_ ?_⟩
   ·rw[<- eI];simp
   ·rw[<- jj];simp[Bool.or_assoc]
theorem QWK:Qf Tryz.prog LX:=Qi λx _=>QMj x.1 x.2.1
def L0(t:cd):aB:=fQ (.a [(aL t.1),(aL t.2.1),(bc [TI] t.2.2)])
def Cm:aI:=Qg 230 [(.a aM)] λx=>(none,L0 (Q3 x.1))
def QH3:aF:=⟨[],false⟩
def QTG:af :=
 (ag [(.ae [aC 1 (.box 134 0 4),aC 2 (.new 235 (bG [TI,TI,(.sl [TI])]))]),(.ae [ak 3 1 2,an 4 3 1,ak 5 1 1,an 6 5 1,ak 7 1 3,an 8 7 1,aC 9 (.build (bG [TI,TI,(.sl [TI])]) [(0,1,4),(1,1,6),(2,1,8)]),aT 2 9 3]),.ret])
def QOd:List (bm × Md):=[(.l 2 3 true,.b [.d,.d,.d])]
theorem QP2(o:aH):aK Tryz.prog 230 [(.a (aR.cells aM o))] (L0 (Q3 o)):=by
 refine bw QH3 QTG QOd 0 0 10 Cm kn (λK =>
 K (L0 (o.2.2.1,o.2.1,o.2.2.2))) (λhb=>?_)
 exact au rfl
theorem Quw:Qf Tryz.prog Cm:=Qi λx _=>QP2 x.1
def L1(t:cd):aB:=fQ (.a [(aL t.1),(aL t.2.1),(bc [TI] t.2.2)])
def Cn:aI:=Qg 224 [(.a aM)] λx=>(none,L1 (Q3 x.1))
def QX9:aF:=⟨[],false⟩
def QFN:af :=
 (ag [(.ae [aC 1 (.box 134 0 4),aC 2 (.new 235 (bG [TI,TI,(.sl [TI])]))]),(.ae [ak 3 1 2,an 4 3 1,ak 5 1 1,an 6 5 1,ak 7 1 3,an 8 7 1,aC 9 (.build (bG [TI,TI,(.sl [TI])]) [(0,1,4),(1,1,6),(2,1,8)]),aT 2 9 3]),.ret])
def QXj:List (bm × Md):=[(.l 2 3 true,.b [.d,.d,.d])]
theorem QLY(o:aH):aK Tryz.prog 224 [(.a (aR.cells aM o))] (L1 (Q3 o)):=by
 refine bw QX9 QFN QXj 0 0 10 Cn kn (λK =>
 K (L1 (o.2.2.1,o.2.1,o.2.2.2))) (λhb=>?_)
 exact au rfl
theorem Qq5:Qf Tryz.prog Cn:=Qi λx _=>QLY x.1
def ph(t:(List Int) × Bool):aB:=⟨(.tp [(.r [TI] 0 0 ((t.1).length)),(bE t.2)]),[(.sl 3 [TI] (.dp 0 true []) t.1)],[],false,[]⟩
def L2:aI:=Qg 170 [(.a aM),(.c (.sl [TI]))] λx=>(none,ph (ZV x.1 x.2.1))
def QMe:aF:=⟨[xO,Ju,Cm,B7,BC,BM,Lr],true⟩
def QLM:af :=
 (ag [(.ae [aC 2 (.box 134 0 4),ab 4 (.k (.n [TI])),ab 5 (a0 false)]),(ag [(.ae [a7 10 2 4,aD 11 228 [10],bL 12 11,ab 13 12,.bt 13 false [ab 14 1,ak 15 2 1,an 16 15 1,aD 17 100 [14,16],bL 18 17] 19 18]),(.cond 19 (ag [(.ae [ab 4 (.k (.n [TI])),ab 5 (a0 false)]),.ret]) .skip)]),(ag [(.ae [ak 20 2 0,an 21 20 1]),(.block 0 (ag [(.ae [aw 23 .eql 21 (ar 1),ab 22 23]),(.cond 22 (ag [(.ae [a7 24 2 4,aD 25 230 [24],ab 26 1,aD 27 229 [25,26],bF 28 27 0,bF 29 27 1,ab 4 28,ab 5 29]),.ret]) (ag [(.ae [aw 31 .eql 21 (ar 2),ab 30 31]),(.cond 30 (ag [(.ae [ab 32 1,ak 33 2 3,an 34 33 1,aD 35 231 [32,34],bF 36 35 0,bF 37 35 1,ab 4 36,ab 5 37]),.ret]) (ag [(.ae [aw 39 .eql 21 (ar 4),ab 38 39]),(.cond 38 (ag [(.ae [ak 40 2 3,an 41 40 1,aZ 42 41 (ar 0) [TI],an 43 42 1,ab 44 1,aD 45 232 [43,44],bF 46 45 0,bF 47 45 1,ab 4 46,ab 5 47]),.ret]) (ag [(.ae [aw 49 .eql 21 (ar 5),ab 48 49]),(.cond 48 (ag [(.ae [a7 51 2 4,aD 52 230 [51],ab 53 1,aD 54 229 [52,53],ab 50 54,bF 55 50 0,bF 56 50 1,ab 6 55,ab 7 56]),(.ae [ab 58 1,ab 59 6,aD 60 231 [58,59],ab 57 60,bF 61 57 0,bF 62 57 1,ab 8 61,ab 9 62]),(.ae [ab 63 8,ab 64 7,ab 65 64,.bt 65 false [ab 66 9] 67 66,ab 4 63,ab 5 67]),.ret]) .skip)]))]))]))]))]),(.ae [ab 68 1,aD 69 233 [68],ab 4 69,ab 5 (a0 false)]),.ret])
def QUn:List (bm × Md):=[(.t 4,.one (.p 3)),(.t 5,.one .d)]
theorem QK8(o:aH)(x:List Int):aK Tryz.prog 170 [(.a (aR.cells aM o)),(.c (.sl [TI]) x)] (ph (ZV o x)):=by
 refine bw QMe QLM QUn 0 0 70 L2 (kc I6 (kc JU (kc Quw (kc QDw (kc QDA (kc QwQ (kc QVZ kn))))))) (λK =>
 (aJ ((!(Zh o))||(!(QH x o.2.1))) (K (ph (([]:List Int),false))) (aJ (o.1==1) (K (ph ((List.take (((Q6 (Q3 o) x).1).length) ((Q6 (Q3 o) x).1)),(Q6 (Q3 o) x).2))) (aJ (o.1==2) (K (ph ((List.take (((Zd x o.2.2.2).1).length) ((Zd x o.2.2.2).1)),(Zd x o.2.2.2).2))) (aJ (o.1==4) (((0:Int)<=0/\Int.toNat 0<(o.2.2.2).length)/\K (ph ((List.take (((Zy (aq (0:Int) o.2.2.2 (Int.toNat 0)) x).1).length) ((Zy (aq (0:Int) o.2.2.2 (Int.toNat 0)) x).1)),(Zy (aq (0:Int) o.2.2.2 (Int.toNat 0)) x).2))) (aJ (o.1==5) (K (ph ((List.take (((Zd x (List.take (((Q6 (Q3 o) x).1).length) (List.drop 0 ((Q6 (Q3 o) x).1)))).1).length) ((Zd x (List.take (((Q6 (Q3 o) x).1).length) (List.drop 0 ((Q6 (Q3 o) x).1)))).1)),(((Q6 (Q3 o) x).2)||((Zd x (List.take (((Q6 (Q3 o) x).1).length) (List.drop 0 ((Q6 (Q3 o) x).1)))).2))))) (K (ph ((List.take ((Z5 x).length) (Z5 x)),false))))))))) (λhb=>?_)
 refine⟨λh=>au (by rw[Tw];intro h2;simp[h2.1,h2.2]at h),λh=>?_⟩;have hp:Zh o=true/\QH x o.2.1=true:=by simpa using h
 have hk:=AD hp.1;have hv:(ZV o x)=(if o.1=1 then Q6 (Q3 o) x else if o.1=2 then Zd x o.2.2.2 else if o.1=4 then Zy (aq 0 o.2.2.2 0) x
    else if o.1=5 then((Zd x (Q6 (Q3 o) x).1).1,(Q6 (Q3 o) x).2||(Zd x (Q6 (Q3 o) x).1).2) else(Z5 x,false)):=by
  unfold ZV;rw[if_pos (by rw[hp.1,hp.2];rfl)]
 refine⟨λh1=>au ?_,λh1=>⟨λh2=>au ?_,λh2=>⟨λh4=>⟨⟨by omega,AB hp.1 (by simpa using h4)⟩,au ?_⟩,λh4=>⟨λh5=>au ?_,λh5=>au ?_⟩⟩⟩⟩
 all_goals (rw[hv];clear hv;simp at *;simp[*])
theorem QNY:Qf Tryz.prog L2:=Qi λx _=>QK8 x.1 x.2.1
def pj(t:(List Int) × Bool):aB:=fQ (.tp [(bc [TI] t.1),(bE t.2)])
def L3:aI:=Qg 160 [(.a aM),(.c (.sl [TI]))] λx=>(none,pj (ZV x.1 x.2.1))
def QSl:aF:=⟨[xM,Yy,Cn,LL,BF,Lt,BP],false⟩
def QPN:af :=
 (ag [(.ae [aC 2 (.box 134 0 4),ab 4 (.k (.n [TI])),ab 5 (a0 false)]),(ag [(.ae [a7 10 2 4,aD 11 222 [10],bL 12 11,ab 13 12,.bt 13 false [ab 14 1,aD 15 97 [14],bL 16 15] 17 16,ab 18 17,.bt 18 false [ab 19 1,a9 20 19,ak 21 2 1,an 22 21 1,aw 23 .neq 20 22] 24 23]),(.cond 24 (ag [(.ae [aC 25 (.bW 3 [TI] []),ab 4 25,ab 5 (a0 false)]),.ret]) .skip)]),(ag [(.ae [ak 26 2 0,an 27 26 1]),(.block 0 (ag [(.ae [aw 29 .eql 27 (ar 1),ab 28 29]),(.cond 28 (ag [(.ae [a7 30 2 4,aD 31 224 [30],ab 32 1,aD 33 223 [31,32],bF 34 33 0,bF 35 33 1,ab 4 34,ab 5 35]),.ret]) (ag [(.ae [aw 37 .eql 27 (ar 2),ab 36 37]),(.cond 36 (ag [(.ae [ab 38 1,ak 39 2 3,an 40 39 1,aD 41 225 [38,40],bF 42 41 0,bF 43 41 1,ab 4 42,ab 5 43]),.ret]) (ag [(.ae [aw 45 .eql 27 (ar 3),ab 44 45]),(.cond 44 (ag [(.ae [ab 46 1,aD 47 226 [46],ab 4 47,ab 5 (a0 false)]),.ret]) (ag [(.ae [aw 49 .eql 27 (ar 4),ab 48 49]),(.cond 48 (ag [(.ae [ak 50 2 3,an 51 50 1,aZ 52 51 (ar 0) [TI],an 53 52 1,ab 54 1,aD 55 227 [53,54],bF 56 55 0,bF 57 55 1,ab 4 56,ab 5 57]),.ret]) .skip)]))]))]))]))]),(.ae [a7 59 2 4,aD 60 224 [59],ab 61 1,aD 62 223 [60,61],ab 58 62,bF 63 58 0,bF 64 58 1,ab 6 63,ab 7 64]),(.ae [ab 66 1,ab 67 6,aD 68 225 [66,67],ab 65 68,bF 69 65 0,bF 70 65 1,ab 8 69,ab 9 70]),(.ae [ab 71 8,ab 72 7,ab 73 72,.bt 73 false [ab 74 9] 75 74,ab 4 71,ab 5 75]),.ret])
def QRI:List (bm × Md):=[(.t 4,.one .d),(.t 5,.one .d)]
theorem QX0(o:aH)(x:List Int):aK Tryz.prog 160 [(.a (aR.cells aM o)),(.c (.sl [TI]) x)] (pj (ZV o x)):=by
 refine bw QSl QPN QRI 0 0 76 L3 (kc I5 (kc YL (kc Qq5 (kc QWc (kc QqU (kc QU1 (kc QCD kn))))))) (λK =>
 (aJ (((!(Zh o))||(!(QK x)))||((x.length:Int) != o.2.1)) (K (pj (([]:List Int),false))) (aJ (o.1==1) (K (pj ((Q6 (Q3 o) x).1,(Q6 (Q3 o) x).2))) (aJ (o.1==2) (K (pj ((Zd x o.2.2.2).1,(Zd x o.2.2.2).2))) (aJ (o.1==3) (K (pj ((Z5 x),false))) (aJ (o.1==4) (((0:Int)<=0/\Int.toNat 0<(o.2.2.2).length)/\K (pj ((Zy (aq (0:Int) o.2.2.2 (Int.toNat 0)) x).1,(Zy (aq (0:Int) o.2.2.2 (Int.toNat 0)) x).2))) (K (pj ((Zd x ((Q6 (Q3 o) x).1)).1,(((Q6 (Q3 o) x).2)||((Zd x ((Q6 (Q3 o) x).1)).2))))))))))) (λhb=>?_)
 rw[Bool.or_assoc,GH];refine⟨λh=>au (by rw[Tw];intro h2;simp[h2.1,h2.2]at h),λh=>?_⟩;have hp:Zh o=true/\QH x o.2.1=true:=by simpa using h
 have hk:=AD hp.1;have hv:(ZV o x)=(if o.1=1 then Q6 (Q3 o) x else if o.1=2 then Zd x o.2.2.2 else if o.1=4 then Zy (aq 0 o.2.2.2 0) x
    else if o.1=5 then((Zd x (Q6 (Q3 o) x).1).1,(Q6 (Q3 o) x).2||(Zd x (Q6 (Q3 o) x).1).2) else(Z5 x,false)):=by
  unfold ZV;rw[if_pos (by rw[hp.1,hp.2];rfl)]
 refine⟨λh1=>au ?_,λh1=>⟨λh2=>au ?_,λh2=>⟨λh3=>au ?_,λh3=>⟨λh4=>⟨⟨by omega,AB hp.1 (by simpa using h4)⟩,au ?_⟩,λh4=>au ?_⟩⟩⟩⟩
 all_goals (rw[hv];clear hv;simp at *)
 ·simp[*]
 ·simp[*]
 ·simp[*]
 ·simp[*]
 ·have h5:o.1=5:=by omega
  simp[h5]
theorem QKU:Qf Tryz.prog L3:=Qi λx _=>QX0 x.1 x.2.1
def pk(t:(List Int) × (List Int) × Bool):aB:=⟨(.tp [(.r [TI] 0 0 ((t.1).length)),(.r [TI] 1 0 ((t.2.1).length)),(bE t.2.2)]),[(.sl 3 [TI] (.dp 0 true []) t.1),(.sl 3 [TI] (.dp 0 true []) t.2.1)],[],false,[]⟩
def L4:aI:=Qg 197 [(.a aM),(.c (.sl [TI])),(.c (.sl [TI]))] λx=>(none,pk (ZY x.1 x.2.1 x.2.2.1))
def QLr:aF:=⟨[xO,Ju,Cm,LQ,LU,JG,BM,ym,BC,Lw],true⟩
def QFy:af :=
 (ag [(.ae [aC 3 (.box 134 0 4),ab 6 (.k (.n [TI])),ab 7 (.k (.n [TI])),ab 8 (a0 false)]),(ag [(.ae [a7 23 3 4,aD 24 228 [23],bL 25 24,ab 26 25,.bt 26 false [ab 27 1,ak 28 3 1,an 29 28 1,aD 30 100 [27,29],bL 31 30] 32 31,ab 33 32,.bt 33 false [ab 34 2,ak 35 3 2,an 36 35 1,aD 37 100 [34,36],bL 38 37] 39 38]),(.cond 39 (ag [(.ae [ab 6 (.k (.n [TI])),ab 7 (.k (.n [TI])),ab 8 (a0 false)]),.ret]) .skip)]),(ag [(.ae [ak 40 3 0,an 41 40 1]),(.block 0 (ag [(.ae [aw 43 .eql 41 (ar 1),ab 42 43]),(.cond 42 (ag [(.ae [a7 45 3 4,aD 46 230 [45],ab 47 2,aD 48 244 [46,47],ab 44 48,bF 49 44 0,bF 50 44 1,ab 9 49,ab 10 50]),(.ae [ab 52 2,ab 53 1,aD 54 245 [52,53],ab 51 54,bF 55 51 0,bF 56 51 1,aC 11 (.new 235 (bG [TI,TI,(.sl [TI])])),aT 11 55 3,ab 12 56]),(.draw [ab 57 9,ak 58 11 2,an 59 58 1,ab 60 10,ab 61 60,.bt 61 false [ab 62 12] 63 62,ab 6 57,ab 7 59,ab 8 63] []),.ret]) (ag [(.ae [aw 65 .eql 41 (ar 2),ab 64 65]),(.cond 64 (ag [(.ae [ab 66 2,aD 67 104 [66],ab 68 2,aD 69 104 [68],ab 6 67,ab 7 69,ab 8 (a0 false)]),.ret]) (ag [(.ae [aw 71 .eql 41 (ar 4),ab 70 71]),(.cond 70 (ag [(.ae [ak 73 3 3,an 74 73 1,aZ 75 74 (ar 0) [TI],an 76 75 1,ab 77 2,aD 78 232 [76,77],ab 72 78,bF 79 72 0,bF 80 72 1,ab 13 79,ab 14 80]),(.ae [ab 82 2,ab 83 1,aD 84 188 [82,83],ab 81 84,bF 85 81 0,bF 86 81 1,ab 15 85,ab 16 86]),(.ae [ab 87 13,ab 88 15,aC 89 (.bW 3 [TI] [88]),ab 90 14,ab 91 90,.bt 91 false [ab 92 16] 93 92,ab 6 87,ab 7 89,ab 8 93]),.ret]) (ag [(.ae [aw 95 .eql 41 (ar 5),ab 94 95]),(.cond 94 (ag [(.ae [a7 97 3 4,aD 98 230 [97],ab 99 2,aD 100 244 [98,99],ab 96 100,bF 101 96 0,bF 102 96 1,ab 17 101,ab 18 102]),(.ae [ab 104 2,ab 105 17,aD 106 231 [104,105],ab 103 106,bF 107 103 0,bF 108 103 1,ab 19 107,ab 20 108]),(.ae [ab 110 2,ab 111 1,aD 112 245 [110,111],ab 109 112,bF 113 109 0,bF 114 109 1,aC 21 (.new 235 (bG [TI,TI,(.sl [TI])])),aT 21 113 3,ab 22 114]),(.draw [ab 115 19,ak 116 21 2,an 117 116 1,ab 118 18,ab 119 118,.bt 119 false [ab 120 20] 121 120,ab 122 121,.bt 122 false [ab 123 22] 124 123,ab 6 115,ab 7 117,ab 8 124] []),.ret]) .skip)]))]))]))]))]),(.ae [ab 125 1,ab 126 2,aD 127 246 [125,126],ab 6 127,ab 7 (.k (.n [TI])),ab 8 (a0 false)]),.ret])
def QNs:List (bm × Md):=[(.t 6,.one (.p 3)),(.t 7,.one (.p 3)),(.t 8,.one .d)]
theorem QGQ(o:aH)(x:List Int)(d:List Int):aK Tryz.prog 197 [(.a (aR.cells aM o)),(.c (.sl [TI]) x),(.c (.sl [TI]) d)] (pk (ZY o x d)):=by
 refine bw QLr QFy QNs 0 0 128 L4 (kc I6 (kc JU (kc Quw (kc QGq (kc QT1 (kc nT (kc QwQ (kc Lo (kc QDA (kc QXK kn)))))))))) (λK =>
 let z2:=Zy (aq (0:Int) o.2.2.2 (Int.toNat 0)) d
 let z3:=Zr (Q3 o) d
 let z1:=Zd d (List.take ((z3.1).length) (List.drop 0 (z3.1)))
 let z4:=List.take ((((Zl d x).1).2.2).length) (((Zl d x).1).2.2)
 let z5:=List.take ((id (α:=List Int) d).length) (id (α:=List Int) d)
 (aJ (((!(Zh o))||(!(QH x o.2.1)))||(!(QH d o.2.2.1))) (K (pk (([]:List Int),([]:List Int),false))) (aJ (o.1==1) (K (pk ((List.take ((z3.1).length) (z3.1)),z4,((z3.2)||((Zl d x).2))))) (aJ (o.1==2) (((Qs (α:=List Int) d)/\(Qs (α:=List Int) d))/\K (pk (z5,z5,false))) (aJ (o.1==4) (((0:Int)<=0/\Int.toNat 0<(o.2.2.2).length)/\K (pk ((List.take ((z2.1).length) (z2.1)),[(Q1 d x).1],((z2.2)||((Q1 d x).2))))) (aJ (o.1==5) (K (pk ((List.take ((z1.1).length) (z1.1)),z4,(((z3.2)||(z1.2))||((Zl d x).2))))) (K (pk ((List.take ((Z4 x d).length) (Z4 x d)),([]:List Int),false))))))))) (λhb=>?_)
 conv=>zeta
 refine⟨λh=>au (by rw[Tx];intro h2;simp[h2.1,h2.2]at h),λh=>?_⟩;have hp:(Zh o=true/\QH x o.2.1=true)/\QH d o.2.2.1=true:=by simpa using h
 have hk:=AD hp.1.1;have hdl:=(Yg.1 (Ay.1 hp.2).1).1;have hv:(ZY o x d)=(if o.1=1 then((Zr (Q3 o) d).1,(Zl d x).1.2.2,(Zr (Q3 o) d).2||(Zl d x).2)
    else if o.1=2 then(d,d,false)
    else if o.1=4 then((Zy (aq 0 o.2.2.2 0) d).1,[(Q1 d x).1],(Zy (aq 0 o.2.2.2 0) d).2||(Q1 d x).2)
    else if o.1=5 then((Zd d (Zr (Q3 o) d).1).1,(Zl d x).1.2.2,(Zr (Q3 o) d).2||(Zl d x).2||(Zd d (Zr (Q3 o) d).1).2)
    else(Z4 x d,[],false)):=by
  unfold ZY;rw[if_pos (by rw[hp.1.1,hp.1.2,hp.2];rfl)]
 have gA:Qs (α:=List Int) d:=by unfold Qs;rw[ZD];omega
 refine⟨λh1=>au ?_,λh1=>⟨λh2=>⟨⟨gA,gA⟩,au ?_⟩,λh2=>⟨λh4=>⟨⟨by omega,AB hp.1.1 (by simpa using h4)⟩,au ?_⟩,λh4=>⟨λh5=>au ?_,λh5=>au ?_⟩⟩⟩⟩
 all_goals (rw[hv];clear hv;simp at *)
 ·simp[*]
 ·simp[*]
 ·simp[*]
 ·simp[*,Bool.or_assoc,Bool.or_comm,Bool.or_left_comm]
 ·simp[*]
theorem QLN:Qf Tryz.prog L4:=Qi λx _=>QGQ x.1 x.2.1 x.2.2.1
def po(t:(List Int) × (List Int) × Bool):aB:=fQ (.tp [(bc [TI] t.1),(bc [TI] t.2.1),(bE t.2.2)])
def L5:aI:=Qg 193 [(.a aM),(.c (.sl [TI])),(.c (.sl [TI]))] λx=>(none,po (ZY x.1 x.2.1 x.2.2.1))
def QHN:aF:=⟨[xM,Yy,Ly,BP,ux,Cn,LR,LX,BF],false⟩
def QVf:af :=
 (ag [(.ae [aC 3 (.box 134 0 4),ab 6 (.k (.n [TI])),ab 7 (.k (.n [TI])),ab 8 (a0 false)]),(ag [(.ae [a7 19 3 4,aD 20 222 [19],bL 21 20,ab 22 21,.bt 22 false [ab 23 1,aD 24 97 [23],bL 25 24] 26 25,ab 27 26,.bt 27 false [ab 28 1,a9 29 28,ak 30 3 1,an 31 30 1,aw 32 .neq 29 31] 33 32,ab 34 33,.bt 34 false [ab 35 2,aD 36 97 [35],bL 37 36] 38 37,ab 39 38,.bt 39 false [ab 40 2,a9 41 40,ak 42 3 2,an 43 42 1,aw 44 .neq 41 43] 45 44]),(.cond 45 (ag [(.ae [aC 46 (.bW 3 [TI] []),aC 47 (.bW 3 [TI] []),ab 6 46,ab 7 47,ab 8 (a0 false)]),.ret]) .skip)]),(ag [(.ae [ak 48 3 0,an 49 48 1]),(.block 0 (ag [(.ae [aw 51 .eql 49 (ar 2),ab 50 51]),(.cond 50 (ag [(.ae [aC 52 (.bW 3 [TI] []),ab 53 2,aC 54 (.app 52 53 3 [TI]),aC 55 (.bW 3 [TI] []),ab 56 2,aC 57 (.app 55 56 3 [TI]),ab 6 54,ab 7 57,ab 8 (a0 false)]),.ret]) (ag [(.ae [aw 59 .eql 49 (ar 3),ab 58 59]),(.cond 58 (ag [(.ae [ab 60 1,ab 61 2,aD 62 241 [60,61],aC 63 (.bW 3 [TI] []),ab 6 62,ab 7 63,ab 8 (a0 false)]),.ret]) (ag [(.ae [aw 65 .eql 49 (ar 4),ab 64 65]),(.cond 64 (ag [(.ae [ak 67 3 3,an 68 67 1,aZ 69 68 (ar 0) [TI],an 70 69 1,ab 71 2,aD 72 227 [70,71],ab 66 72,bF 73 66 0,bF 74 66 1,ab 9 73,ab 10 74]),(.ae [ab 76 2,ab 77 1,aD 78 184 [76,77],ab 75 78,bF 79 75 0,bF 80 75 1,ab 11 79,ab 12 80]),(.ae [ab 81 9,ab 82 11,aC 83 (.bW 3 [TI] [82]),ab 84 10,ab 85 84,.bt 85 false [ab 86 12] 87 86,ab 6 81,ab 7 83,ab 8 87]),.ret]) .skip)]))]))]))]),(.ae [a7 89 3 4,aD 90 224 [89],ab 91 2,aD 92 242 [90,91],ab 88 92,bF 93 88 0,bF 94 88 1,ab 13 93,ab 14 94]),(.ae [ab 96 2,ab 97 1,aD 98 243 [96,97],ab 95 98,bF 99 95 0,bF 100 95 1,aC 15 (.new 235 (bG [TI,TI,(.sl [TI])])),aT 15 99 3,ab 16 100]),(ag [(.ae [ak 101 3 0,an 102 101 1,aw 103 .eql 102 (ar 1)]),(.cond 103 (ag [(.draw [ab 104 13,ak 105 15 2,an 106 105 1,ab 107 14,ab 108 107,.bt 108 false [ab 109 16] 110 109,ab 6 104,ab 7 106,ab 8 110] []),.ret]) .skip)]),(.ae [ab 112 2,ab 113 13,aD 114 225 [112,113],ab 111 114,bF 115 111 0,bF 116 111 1,ab 17 115,ab 18 116]),(.draw [ab 117 17,ak 118 15 2,an 119 118 1,ab 120 14,ab 121 120,.bt 121 false [ab 122 16] 123 122,ab 124 123,.bt 124 false [ab 125 18] 126 125,ab 6 117,ab 7 119,ab 8 126] []),.ret])
def QJL:List (bm × Md):=[(.t 6,.one .d),(.t 7,.one .d),(.t 8,.one .d)]
theorem QFD(o:aH)(x:List Int)(d:List Int):aK Tryz.prog 193 [(.a (aR.cells aM o)),(.c (.sl [TI]) x),(.c (.sl [TI]) d)] (po (ZY o x d)):=by
 refine bw QHN QVf QJL 0 0 127 L5 (kc I5 (kc YL (kc QPP (kc QCD (kc BV (kc Qq5 (kc QIO (kc QWK (kc QqU kn))))))))) (λK =>
 (aJ (((((!(Zh o))||(!(QK x)))||((x.length:Int) != o.2.1))||(!(QK d)))||((d.length:Int) != o.2.2.1)) (K (po (([]:List Int),([]:List Int),false))) (aJ (o.1==2) ((((0=0\/0+d.length<=0)/\0+d.length<=cc)/\((0=0\/0+d.length<=0)/\0+d.length<=cc))/\K (po ((List.take (0+d.length) (List.drop 0 (d:List Int))),(List.take (0+d.length) (List.drop 0 (d:List Int))),false))) (aJ (o.1==3) (K (po ((Z4 x d),([]:List Int),false))) (aJ (o.1==4) (((0:Int)<=0/\Int.toNat 0<(o.2.2.2).length)/\K (po ((Zy (aq (0:Int) o.2.2.2 (Int.toNat 0)) d).1,[(Q1 d x).1],(((Zy (aq (0:Int) o.2.2.2 (Int.toNat 0)) d).2)||((Q1 d x).2))))) (aJ (o.1==1) (K (po ((Zr (Q3 o) d).1,((Zl d x).1).2.2,(((Zr (Q3 o) d).2)||((Zl d x).2))))) (K (po ((Zd d ((Zr (Q3 o) d).1)).1,((Zl d x).1).2.2,((((Zr (Q3 o) d).2)||((Zl d x).2))||((Zd d ((Zr (Q3 o) d).1)).2))))))))))) (λhb=>?_)
 rw[show(!(Zh o)||!(QK x)||((x.length:Int) != o.2.1)||!(QK d)||((d.length:Int) != o.2.2.1))=(!(Zh o)||!(QH x o.2.1)||!(QH d o.2.2.1)) by rw[<- GH,<- GH];simp only[Bool.or_assoc]];refine⟨λh=>au (by rw[Tx];intro h2;simp[h2.1,h2.2]at h),λh=>?_⟩;have hp:(Zh o=true/\QH x o.2.1=true)/\QH d o.2.2.1=true:=by simpa using h
 have hk:=AD hp.1.1;have hdl:=(Yg.1 (Ay.1 hp.2).1).1;have hv:(ZY o x d)=(if o.1=1 then((Zr (Q3 o) d).1,(Zl d x).1.2.2,(Zr (Q3 o) d).2||(Zl d x).2)
    else if o.1=2 then(d,d,false)
    else if o.1=4 then((Zy (aq 0 o.2.2.2 0) d).1,[(Q1 d x).1],(Zy (aq 0 o.2.2.2 0) d).2||(Q1 d x).2)
    else if o.1=5 then((Zd d (Zr (Q3 o) d).1).1,(Zl d x).1.2.2,(Zr (Q3 o) d).2||(Zl d x).2||(Zd d (Zr (Q3 o) d).1).2)
    else(Z4 x d,[],false)):=by
  unfold ZY;rw[if_pos (by rw[hp.1.1,hp.1.2,hp.2];rfl)]
 refine⟨λh2=>⟨⟨⟨.inl rfl,by rw[Zf];omega⟩,.inl rfl,by rw[Zf];omega⟩,au ?_⟩,λh2=>⟨λh3=>au ?_,λh3=>⟨λh4=>⟨⟨by omega,AB hp.1.1 (by simpa using h4)⟩,au ?_⟩,λh4=>⟨λh1=>au ?_,λh1=>au ?_⟩⟩⟩⟩
 all_goals (rw[hv];clear hv;simp at *)
 ·simp[*]
 ·simp[*]
 ·simp[*]
 ·simp[*]
 ·have h5:o.1=5:=by omega
  simp[h5]
theorem QHD:Qf Tryz.prog L5:=Qi λx _=>QFD x.1 x.2.1 x.2.2.1
def L6(t:Int × Bool):aB:=b7 (.tp [(aL t.1),(bE t.2)])
def L7:aI:=Qg 105 [(.c (.sl [TI])),(.c (.sl [TI]))] λx=>(none,L6 (Z9 x.1 x.2.1))
def QE5:aF:=⟨[BH,ym],false⟩
def QSf:af :=
 (ag [(.ae [ab 4 (ar 0),ab 5 (a0 false)]),(.ae [ab 11 0,ab 12 1,aD 13 111 [11,12],ab 10 13,bF 14 10 0,bF 15 10 1,ab 6 14,ab 7 15]),(.ae [ab 17 6,ab 18 6,aD 19 188 [17,18],ab 16 19,bF 20 16 0,bF 21 16 1,ab 8 20,ab 9 21]),(.ae [ab 22 8,aw 23 .shr 22 (.k (.c (.int .u64) (1:Int))),ab 24 7,ab 25 24,.bt 25 false [ab 26 9] 27 26,ab 4 23,ab 5 27]),.ret])
def QFd:List (bm × Md):=[(.t 4,.one .d),(.t 5,.one .d)]
theorem QMB(y:List Int)(t:List Int):aK Tryz.prog 105 [(.c (.sl [TI]) y),(.c (.sl [TI]) t)] (L6 (Z9 y t)):=by
 refine bw QE5 QSf QFd 0 0 28 L7 (kc Qul (kc Lo kn)) (λK =>
 (((0:Int)<=1)/\K (L6 ((Int.fdiv ((Q1 (List.take (((QZ y t).1).length) (List.drop 0 ((QZ y t).1))) (List.take (((QZ y t).1).length) (List.drop 0 ((QZ y t).1)))).1) (2 ^ (min (Int.toNat 1) (IntKind.i64.bits)))),(((QZ y t).2)||((Q1 (List.take (((QZ y t).1).length) (List.drop 0 ((QZ y t).1))) (List.take (((QZ y t).1).length) (List.drop 0 ((QZ y t).1)))).2)))))) (λhb=>?_)
 exact⟨by omega,au (by simp only[List.drop_zero,List.take_length];rfl)⟩
theorem QJe:Qf Tryz.prog L7:=Qi λx _=>QMB x.1 x.2.1
def L8(t:Int × Bool):aB:=b7 (.tp [(aL t.1),(bE t.2)])
def L9:aI:=Qg 98 [(.c (.sl [TI])),(.c (.sl [TI]))] λx=>(none,L8 (Z9 x.1 x.2.1))
def QJp:aF:=⟨[BK,ux],false⟩
def QVo:af :=
 (ag [(.ae [ab 4 (ar 0),ab 5 (a0 false)]),(.ae [ab 11 0,ab 12 1,aD 13 107 [11,12],ab 10 13,bF 14 10 0,bF 15 10 1,ab 6 14,ab 7 15]),(.ae [ab 17 6,ab 18 6,aD 19 184 [17,18],ab 16 19,bF 20 16 0,bF 21 16 1,ab 8 20,ab 9 21]),(.ae [ab 22 8,aw 23 .quo 22 (ar 2),ab 24 7,ab 25 24,.bt 25 false [ab 26 9] 27 26,ab 4 23,ab 5 27]),.ret])
def QLX:List (bm × Md):=[(.t 4,.one .d),(.t 5,.one .d)]
theorem QWi(y:List Int)(t:List Int):aK Tryz.prog 98 [(.c (.sl [TI]) y),(.c (.sl [TI]) t)] (L8 (Z9 y t)):=by
 refine bw QJp QVo QLX 0 0 28 L9 (kc QtS (kc BV kn)) (λK =>
 ((¬ ((2:Int):Int)=0)/\K (L8 (aG (Int.tdiv ((Q1 ((QZ y t).1) ((QZ y t).1)).1) (2:Int)),(((QZ y t).2)||((Q1 ((QZ y t).1) ((QZ y t).1)).2)))))) (λhb=>?_)
 have h:=QGD (QZ y t).1;have hf:=To.1 (QPG (QZ y t).1 (QZ y t).1);refine⟨by omega,au ?_⟩;unfold Z9;generalize(Q1 (QZ y t).1 (QZ y t).1).1=q at *;rw[Int.tdiv_eq_ediv_of_nonneg h,QG (x:=q / 2) (by omega) (by omega),Int.fdiv_eq_ediv_of_nonneg _ (by omega)]
theorem QHY:Qf Tryz.prog L9:=Qi λx _=>QWi x.1 x.2.1
def yw(t:(List (List Int)) × Bool):aB:=⟨(.tp [(.r [(.sl [TI])] 0 0 ((t.1).length)),(bE t.2)]),[(.sl 106 [(.sl [TI])] (.dp 0 true []) t.1)],[],false,[]⟩
def Co:aI:=Qg 73 [(.a [(.sl aM)]),(.c (.sl [TI]))] λx=>(none,yw (JK x.1 x.2.1))
def Ma:aF:=⟨[uf,xQ,Ju,JG,L2],true⟩
def QsR:af :=
 (ag [(.ae [aw 30 .lss 29 28]),(.cond 30 .skip (.exit 0)),(.block 1 (ag [(.ae [ab 31 29,aZ 32 27 29 aM,a7 33 32 4,aC 9 (.new 134 (bG aM)),ab 8 31,aT 9 33 4]),(.draw [a7 35 9 4,ab 36 6,ab 37 8,aZ 38 36 37 [(.sl [TI])],ak 39 38 0,an 40 39 1,aD 41 170 [35,40],ab 34 41,bF 42 34 0,bF 43 34 1,ab 10 42,ab 11 43] []),(.ae [ab 44 6,ab 45 10,aC 46 (.build [(.n [TI])] [(0,1,45)]),aC 47 (.bW 106 [(.sl [TI])] [46]),aC 48 (.app 44 47 106 [(.sl [TI])]),ab 6 48]),(.ae [ab 49 7,ab 50 49,.bt 50 false [ab 51 11] 52 51,ab 7 52])])),(.ae [aw 53 .add 29 (ar 1),ab 29 53])])
def QCx:List (Nat × Md):=[(6,.one .f),(7,.one .d),(27,.one .d),(28,.one .d),(29,.one .d)]
def Qzc:af :=
 (ag [(.ae [ab 54 6,ab 55 7,ab 4 54,ab 5 55]),.ret])
def QV4:af :=
 (ag [(.ae [aC 2 (.box 77 0 1),ab 4 (.k (.n [(.sl [TI])])),ab 5 (a0 false)]),(ag [(.ae [a7 12 2 1,aD 13 167 [12],bL 14 13,ab 15 14,.bt 15 false [ab 16 1,a7 17 2 1,aD 18 101 [17],aD 19 100 [16,18],bL 20 19] 21 20]),(.cond 21 (ag [(.ae [ab 4 (.k (.n [(.sl [TI])])),ab 5 (a0 false)]),.ret]) .skip)]),(.ae [ab 22 1,aD 23 104 [22],aC 24 (.build [(.n [TI])] [(0,1,23)]),aC 25 (.bW 106 [(.sl [TI])] [24]),ab 6 25]),(.ae [ab 7 (a0 false)]),(ag [(.ae [ak 26 2 0,an 27 26 1,a9 28 27,ab 29 (ar 0)]),(.block 0 (.loop QCx QsR))]),Qzc])
def QvS:List (bm × Md):=[(.t 4,.one (.p 106)),(.t 5,.one .d)]
def QBD:Qb:=TQ 0 0 QvS K
def QMf:Qb:=aY (aN Ma 0 Qzc (QBD K)) (QBD K)
def QLH:Qb:=a6 0 (QMf K)
def Cp(m:List aH)(out:Bool)(x1:Int)(rows:List (List Int)):Prop:=Loop Ma 0 QCx QsR (QLH K) ⟨[(6,(.r [(.sl [TI])] 0 0 rows.length)),(7,(bE out)),(27,(bc aM m)),(28,(aL (m.length:Int))),(29,(aL x1))],[(0,(.sl 106 [(.sl [TI])] (.dp 0 true []) rows))],1⟩
theorem QDs(m:List aH)(out:Bool)(x1:Int)(rows:List (List Int)) (h :
 (aJ (decide (x1<(m.length:Int))) ((0<=x1/\Int.toNat x1<m.length)/\(((0<=x1/\Int.toNat x1<rows.length)/\((0+(Int.toNat x1))<rows.length))/\(((rows.length=rows.length\/rows.length+1<=rows.length)/\rows.length+1<=cc)/\(Cp K m (out||((ZV (aq b6 m (Int.toNat x1)) (aq ([]:List Int) rows (0+(Int.toNat x1)))).2)) (aG (x1+1)) (List.take (rows.length+1) ((List.take rows.length rows)++([(List.take (((ZV (aq b6 m (Int.toNat x1)) (aq ([]:List Int) rows (0+(Int.toNat x1)))).1).length) (List.drop 0 ((ZV (aq b6 m (Int.toNat x1)) (aq ([]:List Int) rows (0+(Int.toNat x1)))).1)))]))))))) (K (yw ((List.take rows.length rows),out))))):Cp K m out x1 rows :=
 Loop.of h
theorem QPa(m:List aH)(x:List Int):aK Tryz.prog 73 [(.a [(.c (.sl aM) m)]),(.c (.sl [TI]) x)] (yw (JK m x)):=by
 refine bw Ma QV4 QvS 0 0 56 Co (kc A6 (kc Ka (kc JU (kc nT (kc QNY kn))))) (λK =>
 (aJ ((!(Zc m))||(!(QH x (ZM m)))) (K (yw (([]:List (List Int)),false))) ((Qs (α:=List Int) x)/\(Cp K m false 0 ([(List.take ((id (α:=List Int) x).length) (List.drop 0 (id (α:=List Int) x)))]))))) (λhb=>?_)
 refine⟨λh=>au (by unfold JK;rw[if_neg (by intro h2;simp at h2;simp[h2.1,h2.2]at h)]),λh=>?_⟩;have hp:Zc m=true/\QH x (ZM m)=true:=by simpa using h
 have hl:=Yv hp.1;have hx:=(Yg.1 (Ay.1 hp.2).1).1;have hm:=GJ hp.1 hp.2;rw[rM];refine⟨by unfold Qs;rw[ZD];omega,?_⟩;refine Za m (λr k=>∀(v:List (List Int))(z:Bool),v.length=k+1->(v.take k++(QV r (aq [] v k)).1,z||(QV r (aq [] v k)).2)=QV m x->Cp (λr'=>r'=yw (JK m x)) m z k v) ?_ ?_ [x] false rfl (by simp[aq])
 ·intro v z hv he;refine QDs _ _ _ _ _ ⟨λh=>by simp at h,λ_=>au ?_⟩;rw[hm,<- he,List.take_length];simp only[QV,Bool.or_false];rw[AE [] hv]
 ·intro k o r hk aU hg ih v z hv he;refine QDs _ _ _ _ _ ⟨λ_=>?_,λh=>by simp at h;omega⟩;rw[Int.toNat_natCast,hg,Nat.zero_add,dM (by omega),Q9,xx];refine⟨⟨by omega,aU⟩,⟨⟨by omega,by omega⟩,by omega⟩,room (by omega),ih _ _ (Yd hv) ?_⟩;rw[Ty [] _ hv,Tz _ hv,<- he,QV];have:=AE [] hv;simp only[Bool.or_assoc];rw[List.append_cons,this]
theorem Qrj:Qf Tryz.prog Co:=Qi λx _=>QPa x.1 x.2.1
def Cq(t:(List (List Int)) × Bool):aB:=fQ (.tp [(bc [(.sl [TI])] t.1),(bE t.2)])
def Cr:aI:=Qg 64 [(.c (.sl aM)),(.c (.sl [TI]))] λx=>(some (Az x.1 x.2.1),Cq (QV x.1 x.2.1))
def Mb:aF:=⟨[L3],false⟩
def QBA:af :=
 (ag [(ag [(.ae [ab 16 8,ab 17 0,a9 18 17,aw 19 .lss 16 18]),(.cond 19 .skip (.exit 0))]),(.block 1 (ag [(.draw [ab 23 0,ab 24 8,aZ 25 23 24 aM,a7 26 25 4,ab 27 6,ab 28 8,aZ 29 27 28 [(.sl [TI])],ak 30 29 0,an 31 30 1,aD 32 160 [26,31],ab 22 32,bF 33 22 0,bF 34 22 1,ab 9 33,ab 10 34] []),(.ae [ab 35 6,ab 36 9,aC 37 (.build [(.n [TI])] [(0,1,36)]),aC 38 (.bW 106 [(.sl [TI])] [37]),aC 39 (.app 35 38 106 [(.sl [TI])]),ab 6 39]),(.ae [ab 40 7,ab 41 40,.bt 41 false [ab 42 10] 43 42,ab 7 43])])),(.ae [ab 20 8,aw 21 .add 20 (ar 1),ab 8 21])])
def QxE:List (Nat × Md):=[(0,.one .d),(6,.one .f),(7,.one .d),(8,.one .d)]
def Qsa:af :=
 (ag [(.ae [ab 44 6,ab 45 7,ab 4 44,ab 5 45]),.ret])
def QI4:af :=
 (ag [(.ae [ab 4 (.k (.n [(.sl [TI])])),ab 5 (a0 false)]),(.ae [aC 11 (.bW 3 [TI] []),ab 12 1,aC 13 (.app 11 12 3 [TI]),aC 14 (.build [(.n [TI])] [(0,1,13)]),aC 15 (.bW 106 [(.sl [TI])] [14]),ab 6 15]),(.ae [ab 7 (a0 false)]),(ag [(.ae [ab 8 (ar 0)]),(.block 0 (.loop QxE QBA))]),Qsa])
def QEa:List (bm × Md):=[(.t 4,.one .d),(.t 5,.one .d)]
def Quo:Qb:=TQ 0 0 QEa K
def QJM:Qb:=aY (aN Mb 0 Qsa (Quo K)) (Quo K)
def QHX:Qb:=a6 0 (QJM K)
def Cs(ops:List aH)(sat:Bool)(i:Int)(out:List (List Int)):Prop:=Loop Mb 0 QxE QBA (QHX K) ⟨[(0,(bc aM ops)),(6,(.r [(.sl [TI])] 0 0 out.length)),(7,(bE sat)),(8,(aL i))],[(0,(.sl 106 [(.sl [TI])] .ow out))],1⟩
theorem Qzq(ops:List aH)(sat:Bool)(i:Int)(out:List (List Int)) (h :
 (aJ (decide (i<(ops.length:Int))) (((0<=i/\Int.toNat i<ops.length)/\((0<=i/\Int.toNat i<out.length)/\((0+(Int.toNat i))<out.length)))/\(((out.length=out.length\/out.length+1<=out.length)/\out.length+1<=cc)/\(Cs K ops (sat||((ZV (aq b6 ops (Int.toNat i)) (aq ([]:List Int) out (0+(Int.toNat i)))).2)) (aG (i+1)) (List.take (out.length+1) ((List.take out.length out)++([(ZV (aq b6 ops (Int.toNat i)) (aq ([]:List Int) out (0+(Int.toNat i)))).1])))))) (K (Cq ((List.take out.length (List.drop 0 out)),sat))))):Cs K ops sat i out :=
 Loop.of h
theorem QSu(ops:List aH)(x:List Int)(hp:Az ops x):aK Tryz.prog 64 [(.c (.sl aM) ops),(.c (.sl [TI]) x)] (Cq (QV ops x)):=by
 refine bw Mb QI4 QEa 0 0 46 Cr (kc QKU kn) (λK =>
 (((0=0\/0+x.length<=0)/\0+x.length<=cc)/\(Cs K ops false 0 ([(List.take (0+x.length) (List.drop 0 (x:List Int)))])))) (λhb=>?_)
 obtain⟨eT,fh⟩:=hp;rw[tQ];refine⟨⟨.inl rfl,by rw[Zf];omega⟩,?_⟩;refine Za ops (λr k=>∀(v:List (List Int))(z:Bool),v.length=k+1->(v.take k++(QV r (aq [] v k)).1,z||(QV r (aq [] v k)).2)=QV ops x->Cs (λr'=>r'=Cq (QV ops x)) ops z k v) ?_ ?_ [x] false rfl (by simp[aq])
 ·intro v z hv he;refine Qzq _ _ _ _ _ ⟨λh=>by simp at h,λ_=>au ?_⟩;rw[<- he,xx];simp only[QV,Bool.or_false];rw[AE [] hv]
 ·intro k o r hk aU hg ih v z hv he;refine Qzq _ _ _ _ _ ⟨λ_=>?_,λh=>by simp at h;omega⟩;rw[Int.toNat_natCast,hg,Nat.zero_add,dM (by omega),Q9];refine⟨⟨⟨by omega,aU⟩,⟨by omega,by omega⟩,by omega⟩,room (by omega),ih _ _ (Yd hv) ?_⟩;rw[Ty [] _ hv,Tz _ hv,<- he,QV];have:=AE [] hv;simp only[Bool.or_assoc];rw[List.append_cons,this]
theorem QBr:Qf Tryz.prog Cr:=Qi λx h=>QSu x.1 x.2.1 h
def Ct(t:(List (List Int)) × (List Int) × Bool):aB:=⟨(.tp [(.r [(.sl [TI])] 0 0 ((t.1).length)),(.r [TI] 1 0 ((t.2.1).length)),(bE t.2.2)]),[(.sl 106 [(.sl [TI])] (.dp 0 true []) t.1),(.sl 3 [TI] (.dp 0 true []) t.2.1)],[],false,[]⟩
def Mc:aI:=Qg 112 [(.c (.sl aM)),(.c (.sl [(.sl [TI])])),(.c (.sl [TI]))] λx=>(some (tP x.1 x.2.1 x.2.2.1),Ct (Q2 x.1 x.2.1 x.2.2.1))
def Cu:aF:=⟨[L4],true⟩
def Me:af :=
 (ag [(ag [(.ae [ab 21 11,aw 22 .geq 21 (ar 0)]),(.cond 22 .skip (.exit 0))]),(.block 1 (ag [(.draw [ab 26 0,ab 27 11,aZ 28 26 27 aM,a7 29 28 4,ab 30 1,ab 31 11,aZ 32 30 31 [(.sl [TI])],ak 33 32 0,an 34 33 1,ab 35 2,aD 36 197 [29,34,35],ab 25 36,bF 37 25 0,bF 38 25 1,bF 39 25 2,ab 12 37,ab 13 38,ab 14 39] []),(.ae [ab 40 9,ab 41 11,ab 42 13,aC 43 (.build [(.n [TI])] [(0,1,42)]),aZ 44 40 41 [(.sl [TI])],aT 44 43 1]),(.ae [ab 45 12,ab 2 45]),(.ae [ab 46 10,ab 47 46,.bt 47 false [ab 48 14] 49 48,ab 10 49])])),(.ae [ab 23 11,aw 24 .sub 23 (ar 1),ab 11 24])])
def Mf:List (Nat × Md):=[(0,.one .f),(1,.one .f),(2,.one .f),(9,.one .f),(10,.one .d),(11,.one .d)]
def Qv0:af :=
 (ag [(.ae [ab 50 9,ab 51 2,ab 52 10,ab 6 50,ab 7 51,ab 8 52]),.ret])
def QVT:af :=
 (ag [(.ae [ab 6 (.k (.n [(.sl [TI])])),ab 7 (.k (.n [TI])),ab 8 (a0 false)]),(.ae [ab 15 0,a9 16 15,aC 17 (.mk 106 [(.sl [TI])] [(.n [TI])] 16),ab 9 17]),(.ae [ab 10 (a0 false)]),(ag [(.ae [ab 18 0,a9 19 18,aw 20 .sub 19 (ar 1),ab 11 20]),(.block 0 (.loop Mf Me))]),Qv0])
def Qya:List (bm × Md):=[(.t 6,.one (.p 106)),(.t 7,.one (.p 3)),(.t 8,.one .d)]
def QBT:Qb:=TQ 0 0 Qya K
def QHA:Qb:=aY (aN Cu 0 Qv0 (QBT K)) (QBT K)
def QDh:Qb:=a6 0 (QHA K)
def Cv(ops:List aH)(rows:List (List Int))(out:Bool)(i:Int)(d1:List Int)(fw:List (List Int)):Prop:=Loop Cu 0 Mf Me (QDh K) ⟨[(0,(bc aM ops)),(1,(bc [(.sl [TI])] rows)),(2,(.r [TI] 0 0 d1.length)),(9,(.r [(.sl [TI])] 1 0 fw.length)),(10,(bE out)),(11,(aL i))],[(0,(.sl 3 [TI] (.dp 0 true []) d1)),(1,(.sl 106 [(.sl [TI])] (.dp 0 true []) fw))],2⟩
def Qwu(ops:List aH)(rows:List (List Int))(d:List Int):Prop:=Loop Cu 0 Mf Me (QDh K) ⟨[(0,(bc aM ops)),(1,(bc [(.sl [TI])] rows)),(2,(bc [TI] d)),(9,(.r [(.sl [TI])] 0 0 ((List.take (Int.toNat (ops.length:Int)) (List.replicate (Int.toNat (ops.length:Int)) ([]:List Int))).length))),(10,(bE false)),(11,(aL (aG ((ops.length:Int)-1))))],[(0,(.sl 106 [(.sl [TI])] (.dp 0 true []) (List.take (Int.toNat (ops.length:Int)) (List.replicate (Int.toNat (ops.length:Int)) ([]:List Int)))))],1⟩
theorem QEM(ops:List aH)(rows:List (List Int))(out:Bool)(i:Int)(d1:List Int)(fw:List (List Int)) (h :
 let z1:=ZY (aq b6 ops (Int.toNat i)) (aq ([]:List Int) rows (Int.toNat i)) (List.take d1.length (List.drop 0 d1))
 (aJ (decide (i>=0)) (((0<=i/\Int.toNat i<ops.length)/\(0<=i/\Int.toNat i<rows.length))/\(((0<=i/\Int.toNat i<fw.length)/\((0+(Int.toNat i))<fw.length))/\(Cv K ops rows (out||(z1.2.2)) (aG (i-1)) (List.take ((z1.1).length) (z1.1)) (List.take fw.length ((fw).set (0+(Int.toNat i)) (List.take ((z1.2.1).length) (List.drop 0 (z1.2.1)))))))) (K (Ct ((List.take fw.length fw),(List.take d1.length d1),out))))):Cv K ops rows out i d1 fw :=
 Loop.of h
theorem QVh(ops:List aH)(rows:List (List Int))(d:List Int) (h :
 let z1:=List.take (Int.toNat (ops.length:Int)) (List.replicate (Int.toNat (ops.length:Int)) ([]:List Int))
 let z3:=aG ((ops.length:Int)-1)
 let z2:=ZY (aq b6 ops (Int.toNat z3)) (aq ([]:List Int) rows (Int.toNat z3)) d
 (aJ (decide (z3>=0)) (((0<=aG ((ops.length:Int)-1)/\Int.toNat z3<ops.length)/\(0<=aG ((ops.length:Int)-1)/\Int.toNat z3<rows.length))/\(((0<=aG ((ops.length:Int)-1)/\Int.toNat z3<z1.length)/\((0+(Int.toNat z3))<z1.length))/\(Cv K ops rows (false||(z2.2.2)) (aG (z3-1)) (List.take ((z2.1).length) (z2.1)) (List.take (z1.length) ((z1).set (0+(Int.toNat z3)) (List.take ((z2.2.1).length) (List.drop 0 (z2.2.1)))))))) (K (⟨(.tp [(.r [(.sl [TI])] 0 0 ((List.take (z1.length) z1).length)),(bc [TI] d),(bE false)]),[(.sl 106 [(.sl [TI])] (.dp 0 true []) (List.take (z1.length) z1))],[],true,[]⟩)))):Qwu K ops rows d :=
 Loop.of h
theorem QQU(ops:List aH)(rows:List (List Int))(d:List Int)(hp:tP ops rows d):aK Tryz.prog 112 [(.c (.sl aM) ops),(.c (.sl [(.sl [TI])]) rows),(.c (.sl [TI]) d)] (Ct (Q2 ops rows d)):=by
 refine bw Cu QVT Qya 0 0 53 Mc (kc QLN kn) (λK =>
 ((0<=(ops.length:Int)/\(ops.length:Int)<=cc)/\(Qwu K ops rows d))) (λhb=>?_)
 obtain⟨⟨eT,fh⟩,hp3⟩:=hp;have zC:ops.length<=4294967296:=fh;refine⟨⟨by omega,by rw[gT];omega⟩,?_⟩;have key:∀ j,j<ops.length->Cv (λr'=>r'=Ct (Q2 ops rows d)) ops rows ((Q2 (ops.drop j) (rows.drop j) d).2.2) ((j:Int)-1) ((Q2 (ops.drop j) (rows.drop j) d).2.1) (List.replicate j ([]:List Int)++(Q2 (ops.drop j) (rows.drop j) d).1):=by
  intro j
  induction j with
  | zero =>
   intro _;refine QEM _ _ _ _ _ _ _ ⟨λh=>by simp at h,λ_=>au ?_⟩;simp
  | succ j ih =>
   intro hj;obtain⟨a,s,ha⟩:=Ys (l:=ops) (k:=j) (by omega);obtain⟨e,t,he⟩:=Ys (l:=rows) (k:=j) (by omega);have jb:(Q2 (ops.drop (j+1)) (rows.drop (j+1)) d).1.length=ops.length-(j+1):=by rw[Gz _ _ _ (by simp;omega)];simp
   refine QEM _ _ _ _ _ _ _ ⟨λ_=>?_,λh=>by simp at h⟩;simp only[List.drop_zero,List.take_length];rw[show Int.toNat (((j+1:Nat):Int)-1)=j by omega,Nat.zero_add,ZG ha,ZG he,QG (x:=((j+1:Nat):Int)-1-1) (by omega) (by omega),GI];have ih:=ih (by omega);rw[ha,he,<- Zz ha,<- Zz he,Q2]at ih;refine⟨⟨⟨by omega,by omega⟩,by omega,by omega⟩,⟨⟨by omega,by simp[jb];omega⟩,by simp[jb];omega⟩,?_⟩;rw[List.take_of_length_le (by simp[jb];omega),Bool.or_comm,show((j+1:Nat):Int)-1-1=(j:Int)-1 by omega];exact ih
 obtain⟨j,hj⟩:∃ j,ops.length=j+1:=⟨ops.length-1,by omega⟩
 have h0:=key j (by omega);obtain⟨a,s,ha⟩:=Ys (l:=ops) (k:=j) (by omega);obtain⟨e,t,he⟩:=Ys (l:=rows) (k:=j) (by omega);have hs:s=[]:=by rw[<- Zz ha];exact List.drop_eq_nil_of_le (by omega)
 rw[ha,hs,he]at h0;simp only[Q2,Bool.or_false]at h0;have hw:aG ((ops.length:Int)-1)=(j:Int):=by rw[QG (by omega) (by omega)];omega
 have hr:List.take ops.length (List.replicate ops.length ([]:List Int))=List.replicate (j+1) []++[]:=by rw[List.take_of_length_le (by simp),hj];simp
 refine QVh _ _ _ _ ?_
 conv=>zeta
 simp only[hw,Int.toNat_natCast,hr,Nat.zero_add,ZG ha,ZG he,GI,List.take_length,List.drop_zero,Bool.false_or];rw[QG (x:=(j:Int)-1) (by omega) (by omega)];refine⟨λ_=>?_,λh=>absurd h (by simp)⟩;refine⟨⟨⟨by omega,by omega⟩,by omega,by omega⟩,⟨⟨by omega,by simp⟩,by simp⟩,?_⟩;rw[List.take_of_length_le (by simp)];exact h0
theorem QPU:Qf Tryz.prog Mc:=Qi λx h=>QQU x.1 x.2.1 x.2.2.1 h
def Cw(t:(List (List Int)) × (List Int) × Bool):aB:=fQ (.tp [(bc [(.sl [TI])] t.1),(bc [TI] t.2.1),(bE t.2.2)])
def Mg:aI:=Qg 108 [(.c (.sl aM)),(.c (.sl [(.sl [TI])])),(.c (.sl [TI]))] λx=>(some (Gu x.1 x.2.1 x.2.2.1),Cw (Q2 x.1 x.2.1 x.2.2.1))
def Mh:aF:=⟨[L5],false⟩
def QAC:af :=
 (ag [(ag [(.ae [ab 21 11,aw 22 .geq 21 (ar 0)]),(.cond 22 .skip (.exit 0))]),(.block 1 (ag [(.draw [ab 26 0,ab 27 11,aZ 28 26 27 aM,a7 29 28 4,ab 30 1,ab 31 11,aZ 32 30 31 [(.sl [TI])],ak 33 32 0,an 34 33 1,ab 35 2,aD 36 193 [29,34,35],ab 25 36,bF 37 25 0,bF 38 25 1,bF 39 25 2,ab 12 37,ab 13 38,ab 14 39] []),(.ae [ab 40 9,ab 41 11,ab 42 13,aC 43 (.build [(.n [TI])] [(0,1,42)]),aZ 44 40 41 [(.sl [TI])],aT 44 43 1]),(.ae [ab 45 12,ab 2 45]),(.ae [ab 46 10,ab 47 46,.bt 47 false [ab 48 14] 49 48,ab 10 49])])),(.ae [ab 23 11,aw 24 .sub 23 (ar 1),ab 11 24])])
def Qzt:List (Nat × Md):=[(0,.one .d),(1,.one .d),(2,.one .d),(9,.one .f),(10,.one .d),(11,.one .d)]
def QrJ:af :=
 (ag [(.ae [ab 50 9,ab 51 2,ab 52 10,ab 6 50,ab 7 51,ab 8 52]),.ret])
def QWA:af :=
 (ag [(.ae [ab 6 (.k (.n [(.sl [TI])])),ab 7 (.k (.n [TI])),ab 8 (a0 false)]),(.ae [ab 15 0,a9 16 15,aC 17 (.mk 106 [(.sl [TI])] [(.n [TI])] 16),ab 9 17]),(.ae [ab 10 (a0 false)]),(ag [(.ae [ab 18 0,a9 19 18,aw 20 .sub 19 (ar 1),ab 11 20]),(.block 0 (.loop Qzt QAC))]),QrJ])
def QB4:List (bm × Md):=[(.t 6,.one .d),(.t 7,.one .d),(.t 8,.one .d)]
def QEB:Qb:=TQ 0 0 QB4 K
def QIH:Qb:=aY (aN Mh 0 QrJ (QEB K)) (QEB K)
def QTh:Qb:=a6 0 (QIH K)
def Cx(ops:List aH)(dn:List (List Int))(d1:List Int)(sat:Bool)(i:Int)(g:List (List Int)):Prop:=Loop Mh 0 Qzt QAC (QTh K) ⟨[(0,(bc aM ops)),(1,(bc [(.sl [TI])] dn)),(2,(bc [TI] d1)),(9,(.r [(.sl [TI])] 0 0 g.length)),(10,(bE sat)),(11,(aL i))],[(0,(.sl 106 [(.sl [TI])] .ow g))],1⟩
theorem QBJ(ops:List aH)(dn:List (List Int))(d1:List Int)(sat:Bool)(i:Int)(g:List (List Int)) (h :
 (aJ (decide (i>=0)) (((0<=i/\Int.toNat i<ops.length)/\(0<=i/\Int.toNat i<dn.length))/\(((0<=i/\Int.toNat i<g.length)/\((0+(Int.toNat i))<g.length))/\(Cx K ops dn ((ZY (aq b6 ops (Int.toNat i)) (aq ([]:List Int) dn (Int.toNat i)) d1).1) (sat||((ZY (aq b6 ops (Int.toNat i)) (aq ([]:List Int) dn (Int.toNat i)) d1).2.2)) (aG (i-1)) (List.take g.length ((g).set (0+(Int.toNat i)) ((ZY (aq b6 ops (Int.toNat i)) (aq ([]:List Int) dn (Int.toNat i)) d1).2.1)))))) (K (Cw ((List.take g.length (List.drop 0 g)),d1,sat))))):Cx K ops dn d1 sat i g :=
 Loop.of h
theorem QFC(ops:List aH)(dn:List (List Int))(d:List Int)(hp:Gu ops dn d):aK Tryz.prog 108 [(.c (.sl aM) ops),(.c (.sl [(.sl [TI])]) dn),(.c (.sl [TI]) d)] (Cw (Q2 ops dn d)):=by
 refine bw Mh QWA QB4 0 0 53 Mg (kc QHD kn) (λK =>
 ((0<=(ops.length:Int)/\(ops.length:Int)<=cc)/\(Cx K ops dn d false (aG ((ops.length:Int)-1)) (List.take (Int.toNat (ops.length:Int)) (List.replicate (Int.toNat (ops.length:Int)) ([]:List Int)))))) (λhb=>?_)
 obtain⟨eT,fh⟩:=hp;have zC:ops.length<=4294967296:=fh;refine⟨⟨by omega,by rw[gT];omega⟩,?_⟩;rw[QG (x:=(ops.length:Int)-1) (by omega) (by omega),Int.toNat_natCast,List.take_of_length_le (by simp)];have key:∀ j,j<=ops.length->Cx (λr'=>r'=Cw (Q2 ops dn d)) ops dn ((Q2 (ops.drop j) (dn.drop j) d).2.1) ((Q2 (ops.drop j) (dn.drop j) d).2.2) ((j:Int)-1) (List.replicate j ([]:List Int)++(Q2 (ops.drop j) (dn.drop j) d).1):=by
  intro j
  induction j with
  | zero =>
   intro _;refine QBJ _ _ _ _ _ _ _ ⟨λh=>by simp at h,λ_=>au ?_⟩;simp
  | succ j ih =>
   intro hj;obtain⟨a,s,ha⟩:=Ys (l:=ops) (k:=j) (by omega);obtain⟨e,t,he⟩:=Ys (l:=dn) (k:=j) (by omega);have jb:(Q2 (ops.drop (j+1)) (dn.drop (j+1)) d).1.length=ops.length-(j+1):=by rw[Gz _ _ _ (by simp;omega)];simp
   refine QBJ _ _ _ _ _ _ _ ⟨λ_=>?_,λh=>by simp at h⟩;rw[show Int.toNat (((j+1:Nat):Int)-1)=j by omega,Nat.zero_add,ZG ha,ZG he,QG (x:=((j+1:Nat):Int)-1-1) (by omega) (by omega),GI];have ih:=ih (by omega);rw[ha,he,<- Zz ha,<- Zz he,Q2]at ih;refine⟨⟨⟨by omega,by omega⟩,by omega,by omega⟩,⟨⟨by omega,by simp[jb];omega⟩,by simp[jb];omega⟩,?_⟩;rw[List.take_of_length_le (by simp[jb];omega),Bool.or_comm,show((j+1:Nat):Int)-1-1=(j:Int)-1 by omega];exact ih
 have h0:=key ops.length (Nat.le_refl _);rw[List.drop_length]at h0;simpa[Q2]using h0
theorem QUL:Qf Tryz.prog Mg:=Qi λx h=>QFC x.1 x.2.1 x.2.2.1 h
end
end Go.Proofs.YtdplaepmjogjjaaGreat.Am

set_option linter.all false
namespace Go.Proofs.YtdplaepmjogjjaaGreat.Am
open Go Sz
def uE(m:Zx)(cC:List Int)(s:Nat):Nat:=if s=0 then 0 else if s<=cC.length then(aq 0 cC (s-1)).toNat else m.length
def Cy(m:Zx)(cC:List Int)(s:Nat):List aH:=(m.drop (uE m cC s)).take (uE m cC (s+1)-uE m cC s)
section
variable {m:Zx} {cC:List Int} (hc:ru m cC=true)
include hc
end
def Cz(m:Zx)(cC:List Int)(x:List Int)(s:Nat):List Int:=J3 (m.take (uE m cC s)) x
def Qrf(m:Zx)(cC:List Int)(x:List Int)(s:Nat):List (List Int):=(QV (Cy m cC s) (Cz m cC x s)).1
def Mi(m:Zx)(cC:List Int)(x:List Int)(s:Nat):Bool:=(QV (Cy m cC s) (Cz m cC x s)).2
def QNj(m:Zx)(cC:List Int)(p:Qo)(s:Nat):List (List Int) × List Int × Bool :=
 Q2 (m.drop (uE m cC s)) (QV (m.drop (uE m cC s)) (Cz m cC p.1 s)).1 (QZ (J3 m p.1) p.2).1
def yx(m:Zx)(cC:List Int)(p:Qo)(s:Nat):List Int:=(QNj m cC p s).2.1
def QG8(m:Zx)(cC:List Int)(p:Qo)(s:Nat):List (List Int) × List Int × Bool:=Q2 (Cy m cC s) (Qrf m cC p.1 s) (yx m cC p (s+1))
section
variable {m:Zx} {cC:List Int} (hc:ru m cC=true)
include hc
end
end Go.Proofs.YtdplaepmjogjjaaGreat.Am
namespace Go.Proofs.YtdplaepmjogjjaaGreat.Am
open Go Sz
structure yy(c:ZJ)(b:List Qo):Prop where
 model:Zc (JT c)=true
 batch:QGx (JT c) b=true
 cC:ru (JT c) (JL c)=true
 Mj:(JL c).length+1<=4
 ds:1<=Gj c/\Gj c<=2
 nF:(SU c).length=(JL c).length+1
 axZ:QUt c=true
 Ml:QRD c b.length=true
def mb(c:ZJ):Nat:=(JL c).length+1
abbrev ig(b:List Qo)(k:Nat):Qo:=aq QW b k
section
variable {m:Zx} {cC:List Int} (hc:ru m cC=true)
include hc
variable {p:Qo} (hp:SV m p=true)
include hp
end
end Go.Proofs.YtdplaepmjogjjaaGreat.Am
namespace Go.Proofs.YtdplaepmjogjjaaGreat.Am
open Go Sz
section
variable (c:ZJ) (b:List Qo)
def Mm(s:Nat):Bool:=aq false (SU c) s
def yz(s:Nat):List bp:=QWE (Gj c) (mb c:Nat) s b.length (Mm c s)
abbrev opS(s:Nat):List aH:=Cy (JT c) (JL c) s
abbrev inS(s j:Nat):List Int:=Cz (JT c) (JL c) (ig b j).1 s
abbrev yA(s j:Nat):List (List Int):=Qrf (JT c) (JL c) (ig b j).1 s
abbrev doS(s j:Nat):List Int:=yx (JT c) (JL c) (ig b j) s
abbrev Mn(s j:Nat):=QG8 (JT c) (JL c) (ig b j) s
abbrev nY(j:Nat):List Int:=J3 (JT c) (ig b j).1
def CA(s:Nat):Bool:=decide (s+1=mb c)
def QFH(s:Nat)(r:List (List Int)):List (List Int):=if Mm c s then r.take 1 else r
def Mp(s:Nat):Nat->List (List Int)
 | 0=>(QYC (opS c s)).1
 | g+1=>(ZE (Mp s g) (Mn c b s g).1).1
def Mq:Nat->Int
 | 0=>0
 | f+1=>(Q5 (Mq f) (Z9 (nY c b f) (ig b f).2).1).1
def Mr(f:Nat):Bool:=(Z9 (nY c b f) (ig b f).2).2||(Q5 (Mq c b f) (Z9 (nY c b f) (ig b f).2).1).2
def QQ4(s j:Nat):Bool:=Mi (JT c) (JL c) (ig b j).1 s||(CA c s&&Mr c b j)
def QKE(s j:Nat):Bool:=(Mn c b s j).2.2||(ZE (Mp c b s j) (Mn c b s j).1).2||(CA c s&&(QZ (nY c b j) (ig b j).2).2)
def Ms(s f g:Nat):Bool:=(List.range f).any (QQ4 c b s)||(List.range g).any (QKE c b s)
def QTX(s f g:Nat):List QD:=(List.range' g (f-g)).map λj:Nat=>((j:Int),QFH c s (yA c b s j))
def QVg(s g:Nat)(k1:Int):List (List Int):=if k1=5 then yA c b s g else []
def vX(s f:Nat)(k1:Int):List Int:=if k1=1 then inS c b s f else []
def vY(s f:Nat)(k1:Int):List Int:=if k1=2/\s+1<mb c then inS c b (s+1) (f-1) else []
def vG(s g:Nat)(k1:Int):List Int:=if k1=4\/(k1=5/\s+1<mb c) then doS c b (s+1) g else []
def vD(s g:Nat)(k1:Int):List Int:=if k1=6/\0<s then doS c b s (g-1) else []
def st(s:Nat)(k f g:Nat)(k1:Int):Qc :=
 ((k:Int),yz c b s,opS c s,CA c s,Mm c s,QTX c b s f g,QVg c b s g k1,vX c b s f k1,vY c b s f k1,vG c b s g k1,vD c b s g k1,Mp c b s g,(if CA c s then Mq c b f else 0),Ms c b s f g)
end
structure ax5(M f g:Nat)(kk:Int):Prop where
 gf:g<=f
 fM:f<=M
 k1:kk=1->f<M
 k2:kk=2->1<=f
 k45:kk=4\/kk=5->g<f
 k6:kk=6->1<=g
section
variable {c:ZJ} {b:List Qo} (A:yy c b)
include A
end
end Go.Proofs.YtdplaepmjogjjaaGreat.Am
namespace Go.Proofs.YtdplaepmjogjjaaGreat.Am
open Go Sz
structure Loc(ds n M s:Int)(rd:Bool)(f g:Nat)(k1:Int)(i:bp)(last:Bool):Prop where
 c0:g<=f/\(f:Int)<=M/\1<=i.1/\i.1<=8/\0<=i.2/\i.2<M/\(i.1=8↔last=true)/\i≠(0,0)
 c1:i.1=1->0<s/\i.2=f/\k1≠1
 c2:i.1=2->i.2=f/\(0<s->k1=1)
 c3:i.1=3->s<n-1/\i.2=(f:Int)-1/\k1=2
 c4:i.1=4->s<n-1/\i.2=g
 c5:i.1=5->rd=true/\i.2=g/\g<f/\(s<n-1->k1=4)
 c6:i.1=6->i.2=g/\g<f/\(rd=true->k1=5)/\(rd=false->s<n-1->k1=4)
 c7:i.1=7->0<s/\i.2=(g:Int)-1/\k1=6
 c8:i.1=8->(f:Int)=M/\(g:Int)=M/\k1≠0
 c9:k1=1->i.1=2
 c10:k1=2->s<n-1->i.1=3
 c11:k1=4->i.1=5\/i.1=6
 c12:k1=5->i.1=6
 c13:k1=6->0<s->i.1=7
 c14:k1=5->rd=true
 c15:k1=6->1<=g
 c16:k1=2->1<=f
 c17:k1≠8
 c18:k1=4->s<n-1
 c19:k1=1->0<s
 c20:k1=4\/k1=5->g<f
 c21:k1=1->(f:Int)<M
 c22:s<n-1->(rJ f k1:Int)<M->tm ds n M s i<=tm ds n M s (3,(rJ f k1:Int))
 c23:0<s->(rI f k1:Int)<M->tm ds n M s i<=tm ds n M s (1,(rI f k1:Int))
 c24:s<n-1->(rK n s g k1:Int)<M->tm ds n M s i<=tm ds n M s (4,(rK n s g k1:Int))
 c25:0<s->(Gx g k1:Int)<M->tm ds n M s i<=tm ds n M s (7,(Gx g k1:Int))
 c26:ds=2->(f:Int)-g<=n-s
 c27:ds=2->i.1=2->(f:Int)-g<n-s
section
variable (c:ZJ) (b:List Qo)
def nZ(s:Nat):Nat:=(yz c b s).length
def F(s k:Nat):Nat:=cf ((yz c b s).take k)
def G(s k:Nat):Nat:=cg ((yz c b s).take k)
def K1(s k:Nat):Int:=QNL (yz c b s) k
def sc(s k:Nat):Nat:=rJ (F c b s k) (K1 c b s k)
def rc(s k:Nat):Nat:=rI (F c b s k) (K1 c b s k)
def rg(s k:Nat):Nat:=rK (mb c:Nat) (s:Int) (G c b s k) (K1 c b s k)
def sg(s k:Nat):Nat:=Gx (G c b s k) (K1 c b s k)
abbrev Qyw(s:Nat):Int:=aq 0 (QRC c) s
end
section
variable {c:ZJ} {b:List Qo} (A:yy c b)
include A
structure Ok(c:ZJ)(b:List Qo)(ks:Nat->Nat):Prop where
 le:∀ s,s<mb c->ks s<=nZ c b s
 qa:∀ s,s+1<mb c->rc c b (s+1) (ks (s+1))<=sc c b s (ks s)/\(sc c b s (ks s):Int)-rc c b (s+1) (ks (s+1))<=Qyw c s
 qb:∀ s,s+1<mb c->rg c b s (ks s)<=sg c b (s+1) (ks (s+1))/\(sg c b (s+1) (ks (s+1)):Int)-rg c b s (ks s)<=Qyw c s
 fl:(∃ s,s<mb c/\ks s=nZ c b s)->∀ s,s<mb c->nZ c b s<=ks s+1
end
end Go.Proofs.YtdplaepmjogjjaaGreat.Am

set_option linter.all false
namespace Go.Proofs.YtdplaepmjogjjaaGreat.Am
open Go Sz
def fW(ks:Nat->Nat)(s:Nat):Nat->Nat:=λj=>if j=s then ks j+1 else ks j
section
variable {c:ZJ} {b:List Qo} (A:yy c b)
include A
end
end Go.Proofs.YtdplaepmjogjjaaGreat.Am
namespace Go.Proofs.YtdplaepmjogjjaaGreat.Am
open Go Sz
section
variable {c:ZJ} {b:List Qo} (A:yy c b)
include A
def left(c:ZJ)(b:List Qo)(ks:Nat->Nat):Nat:=((List.range (mb c)).map λs=>nZ c b s-ks s).sum
end
end Go.Proofs.YtdplaepmjogjjaaGreat.Am
namespace Go.Proofs.YtdplaepmjogjjaaGreat.Am
open Go Sz
section
variable {c:ZJ} {b:List Qo} (A:yy c b)
include A
end
end Go.Proofs.YtdplaepmjogjjaaGreat.Am

set_option linter.all false
namespace Go.Proofs.YtdplaepmjogjjaaGreat.Am
open Go Sz
section
variable {m:Zx} {cC:List Int} (hc:ru m cC=true)
include hc
end
end Go.Proofs.YtdplaepmjogjjaaGreat.Am
namespace Go.Proofs.YtdplaepmjogjjaaGreat.Am
open Go Sz
end Go.Proofs.YtdplaepmjogjjaaGreat.Am
namespace Go.Proofs.YtdplaepmjogjjaaGreat.Am
open Go Sz
def QqN(r:List Int):Int:=if 0<r.length then aG (aq 0 r (r.length-1)+1) else 1
def ext(lim:Int)(r:List Int):List (List Int):=(List.range (lim+1-QqN r).toNat).map λj:Nat=>r++[QqN r+(j:Int)]
def fill(now:List Int)(i:Nat):Nat->List Int
 | 0=>now
 | f+1=>fill (now.set i (aG (aq 0 now (i-1)+1))) (i+1) f
end Go.Proofs.YtdplaepmjogjjaaGreat.Am

set_option linter.all false
namespace Go.Proofs.YtdplaepmjogjjaaGreat.Am
open Go Sz
def JX(s:Qc)(_:Int)(_ _:List Int):Prop:=sz s<=2147483648
def pq(s:Qc)(_:Int):Prop:=sz s<=2147483648
def pw(s:Qc)(_:Int)(_:List Int):Prop:=sz s<=2147483648
def px(p:Qk)(_:Int):Prop:=sz p<=1073741824
def sB(p:Qk)(_:List Int):Prop:=sz p<=536870912
def n0(l:List Int):List Int:=l.take 2000
theorem ZL(s:Qc):sz s=sz (Qt s)+sz (aE s)+sz (Qj s)+sz (QB s)+sz (sX s)+sz (sY s)+sz (sG s)+sz (sD s)+sz (Qy s):=by
 simp only[QR,QL,QY];((try simp only[bT,Qt,aE,Qn,Qp,Qj,QB,sX,sY,sG,sD,Qy,Qw,bf,QA,QC,Qq,Qr]at *);omega)
theorem uF(p:Qk):sz p=sz (QA p)+sz (QC p)+sz (Qq p)+sz (Qr p):=by
 simp only[QR];((try simp only[bT,Qt,aE,Qn,Qp,Qj,QB,sX,sY,sG,sD,Qy,Qw,bf,QA,QC,Qq,Qr]at *);omega)
theorem uG{α:Type}[Sz α](d:α)(v:α):∀(l:List α)(i:Nat),sz (l.set i v)+sz (aq d l i)<=sz l+sz v+sz d
 | [],i=>by simp[aq]
 | x::l,0=>by simp only[List.set_cons_zero,Jj,As];omega
 | x::l,i+1=>by
  have:=uG d v l i;simp only[List.set_cons_succ,Jj,QE7];omega
theorem n8{α:Type}[Sz α](d:α)(l:List α)(i:Nat):sz (aq d l i)<=sz l+sz d:=by
 by_cases h:i<l.length
 ·have:=Ap (JI h d);omega
 ·have:aq d l i=d:=by simp[aq,List.getD_eq_getElem?_getD,List.getElem?_eq_none (Nat.le_of_not_lt h)]
  rw[this];omega
theorem kT{v:List Int}(h:QK v=true):v.length<=6:=by
 simp only[QK,Bool.and_eq_true,Zb]at h;omega
theorem Jc{v:List Int}{n:Int}(h:QH v n=true):v.length<=6:=by
 simp only[QH,Bool.and_eq_true]at h;exact kT h.1
theorem Mt(f:Int->Int->Int × Bool):∀(a b:List Int),(vz f a b).1.length<=a.length
 | [],b=>by simp[vz]
 | a::aa,[]=>by simp[vz]
 | a::aa,b::bb=>by simp only[vz,List.length_cons];have:=Mt f aa bb;omega
theorem QrA(f:Int->Int × Bool):∀(a:List Int),(v1 f a).1.length<=a.length
 | []=>by simp[v1]
 | a::aa=>by simp only[v1,List.length_cons];have:=QrA f aa;omega
theorem QxS{a b:List Int}(h:ZA a b=true):a.length<=6:=by
 simp only[ZA,Bool.and_eq_true]at h;exact kT h.1
theorem Mu(a b:List Int):(Zd a b).1.length<=6:=by
 unfold Zd
 split
 ·rename_i h;have:=Mt Q5 a b;have:=QxS h;omega
 ·simp
theorem QtW(c:Int)(a:List Int):(Zy c a).1.length<=6:=by
 unfold Zy
 split
 ·rename_i h;simp only[Bool.and_eq_true]at h;have:=QrA (Q7 c) a;have:=kT h.2;omega
 ·simp
theorem QJW(a:List Int):(Z5 a).length<=6:=by
 unfold Z5
 split
 ·rename_i h;simp;exact kT h
 ·simp
theorem QNA(x d:List Int):(Z4 x d).length<=6:=by
 unfold Z4
 split
 ·rename_i h;have:=QxS h;simp;omega
 ·simp
theorem QNk(m:cd)(x:List Int):(Q6 m x).1.length<=6:=by
 unfold Q6
 split
 ·rename_i h;simp only[Bool.and_eq_true,Zo,Zb]at h;simp;omega
 ·simp
theorem QYQ(m:cd)(x:List Int):(Zr m x).1.length<=6:=by
 unfold Zr
 split
 ·rename_i h;simp only[Bool.and_eq_true,Zo,Zb]at h;simp;omega
 ·simp
theorem yB(o:aH)(x:List Int):(ZV o x).1.length<=6:=by
 unfold ZV
 split
 ·split
  ·exact QNk _ _
  ·split
   ·exact Mu _ _
   ·split
    ·exact QtW _ _
    ·split
     ·exact Mu _ _
     ·exact QJW _
 ·simp
theorem Mv(o:aH)(x d:List Int):(ZY o x d).1.length<=6:=by
 unfold ZY
 split
 ·rename_i h;simp only[Bool.and_eq_true]at h
  split
  ·exact QYQ _ _
  ·split
   ·exact Jc h.2
   ·split
    ·exact QtW _ _
    ·split
     ·exact Mu _ _
     ·exact QNA _ _
 ·simp
theorem QHG:∀(ops:List aH)(rows:List (List Int))(d:List Int),(Q2 ops rows d).2.1.length<=6+d.length
 | [],rows,d=>by simp[Q2]
 | o::os,[],d=>by simp[Q2]
 | o::os,r::rs,d=>by simp only[Q2];have:=Mv o r (Q2 os rs d).2.1;omega
theorem yC:∀(ops:List aH)(x:List Int),sz (QV ops x).1<=1+x.length+7*ops.length
 | [],x=>by simp only[QV,Jj,ZD,List.length_nil];have:sz ([]:List (List Int))=0:=rfl;omega
 | o::r,x=>by
  have h1:=yC r (ZV o x).1;have h2:=yB o x;simp only[QV,Jj,ZD,List.length_cons];omega
theorem Qwr:∀(a b:List (List Int)),sz (ZE a b).1<=sz a
 | [],b=>by simp[ZE]
 | a::aa,[]=>by simp only[ZE];exact Nat.zero_le _
 | a::aa,b::bb=>by
  have h1:=Qwr aa bb;have h2:=Mt Q5 a b;simp only[ZE,Jj,ZD];omega
theorem YZ{s:Qc}(h:QU s=true):Zc (aE s)=true:=by
 simp only[QU,Bool.and_eq_true]at h;exact h.1.1.1.1
theorem Qtl{s:Qc}(h:QU s=true):(aE s).length<=8:=(Yv (YZ h)).2
theorem QAs{s:Qc}(h:QU s=true):0<=bT s/\bT s<=(Qt s).length:=by
 simp only[QU,Bool.and_eq_true,Zb]at h;exact h.1.1.1.2
theorem Mw{s:Qc}(h:QU s=true):∀ x,x∈Qj s->Yi s x=true:=by
 simp only[QU,Bool.and_eq_true,List.all_eq_true]at h;exact h.1.2
theorem QBm{s:Qc}(h:QU s=true):(Qy s).length=(aE s).length/\YR (aE s) (Qy s)=true:=by
 simp only[QU,Bool.and_eq_true,Y0,beq_iff_eq]at h;exact h.1.1.2
theorem Mx{s:Qc}{x:QD}(h:QU s=true)(hx:Yi s x=true):1<=x.2.length/\(x.2.length:Int)=ZH s/\QH (aq [] x.2 0) (ZM (aE s))=true:=by
 simp only[Yi,Bool.and_eq_true,beq_iff_eq]at hx;obtain⟨h1,h2⟩:=hx;have h3:1<=x.2.length:=by unfold ZH at h1;split at h1 <;> omega
 refine⟨h3,h1,?_⟩;unfold ZS at h2;rw[<- h1,Int.toNat_natCast,List.take_length]at h2
 cases hr:x.2 with
 | nil=>rw[hr]at h3;simp at h3
 | cons r rs =>
  rw[hr]at h2;simp only[YF,Bool.and_eq_true]at h2;have hm:=YZ h;have hl:=Yv hm;have:YY (aE s) 0=ZM (aE s):=by
   unfold YY ZM;rw[if_pos (by omega),if_pos hm]
  rw[As,<- this];exact h2.1
theorem Qs0:∀(l:List QD)(m k:Int),0<=k->Ji l m k<k+l.length/\-1<=Ji l m k
 | [],m,k,hk=>by simp only[Ji,List.length_nil];omega
 | x::r,m,k,hk=>by
  have:=Qs0 r m (k+1) (by omega);simp only[Ji,List.length_cons]
  split <;> omega
theorem yD(l:List QD)(m:Int):QJ l m<l.length/\-1<=QJ l m:=by
 have:=Qs0 l m 0 (Int.le_refl _);unfold QJ;omega
theorem QIN(s:Qc)(m:Int)(x t:List Int):sz (ZZ s m x t)<=sz s+100:=by
 unfold ZZ
 split
 ·rename_i h;simp only[Y7,Bool.and_eq_true]at h;have h1:=Qtl h.1.1.1;have h2:=Jc h.1.1.2;have h3:=yC (aE s) x;have h4:=n8 [] (QV (aE s) x).1 (aE s).length;have h5:sz (if Qp s=true then List.take 1 (QV (aE s) x).1 else(QV (aE s) x).1)<=sz (QV (aE s) x).1:=by
   split
   ·exact Gh _ _
   ·exact Nat.le_refl _
  have h6:sz (if Qn s=true then sY s else aq [] (QV (aE s) x).1 (aE s).length)<=sz (sY s)+sz (aq [] (QV (aE s) x).1 (aE s).length):=by
   split <;> ((try simp only[bT,Qt,aE,Qn,Qp,Qj,QB,sX,sY,sG,sD,Qy,Qw,bf,QA,QC,Qq,Qr]at *);omega)
  have h7:(aq [] (QV (aE s) x).1 (aE s).length).length<=6:=by
   have:aq [] (QV (aE s) x).1 (aE s).length=J3 (aE s) x:=rfl;rw[this];have hv:∀(ops:List aH)(x:List Int),x.length<=6->(J3 ops x).length<=6:=by
    intro ops
    induction ops with
    | nil=>intro x hx;rw[QR5];exact hx
    | cons o r ih=>intro x hx;rw[QSw];exact ih _ (yB o x)
   exact hv _ _ h2
  have h8:=ZD (aq [] (QV (aE s) x).1 (aE s).length);have e:sz ([]:List Int)=0:=rfl;rw[ZL,ZL s];have e3:sz ([]:List QD)=0:=rfl;simp only[Qj,sX,Ao,Jj,YK,QL,e,e3];have e2:sz ([]:List QD)=0:=rfl
  ((try simp only[bT,Qt,aE,Qn,Qp,Qj,QB,sX,sY,sG,sD,Qy,Qw,bf,QA,QC,Qq,Qr]at *);omega)
 ·((try simp only[bT,Qt,aE,Qn,Qp,Qj,QB,sX,sY,sG,sD,Qy,Qw,bf,QA,QC,Qq,Qr]at *);omega)
theorem QTW(s:Qc)(m:Int):sz (Yp s m)<=sz s+100:=by
 unfold Yp;simp only
 split
 ·rename_i h;simp only[Bool.and_eq_true,decide_eq_true_eq]at h;have h1:=Qtl h.1;have hf:=yD (Qj s) m;have hk:(QJ (Qj s) m).toNat<(Qj s).length:=by((try simp only[bT,Qt,aE,Qn,Qp,Qj,QB,sX,sY,sG,sD,Qy,Qw,bf,QA,QC,Qq,Qr]at *);omega)
  have h2:=Jc (Mx h.1 (Mw h.1 _ (JI hk QT))).2.2;have h3:=yC (aE s) (aq [] (aq QT (Qj s) (QJ (Qj s) m).toNat).2 0);rw[ZL,ZL s]
  ((try simp only[bT,Qt,aE,Qn,Qp,Qj,QB,sX,sY,sG,sD,Qy,Qw,bf,QA,QC,Qq,Qr]at *);omega)
 ·((try simp only[bT,Qt,aE,Qn,Qp,Qj,QB,sX,sY,sG,sD,Qy,Qw,bf,QA,QC,Qq,Qr]at *);omega)
theorem QOo(s:Qc)(m:Int)(t:List Int):sz (ZB s m t)<=sz s+100:=by
 unfold ZB;simp only
 split
 ·rename_i h;simp only[Yw,Bool.and_eq_true]at h;have h1:=Jc h.2;have h2:=QHG (aE s) (Zq s (QJ (Qj s) m)) (eN s (QJ (Qj s) m) t).1;have h3:=Qwr (lY s).1 (Q2 (aE s) (Zq s (QJ (Qj s) m)) (eN s (QJ (Qj s) m) t).1).1;have h4:=Gg (Qj s) (QJ (Qj s) m).toNat
  have h5:sz (List.drop ((QJ (Qj s) m).toNat+1) (Qj s))<=sz (List.drop (QJ (Qj s) m).toNat (Qj s)):=by
   rw[<- List.drop_drop];exact QYO _ _
  have h6:=ZD (Q2 (aE s) (Zq s (QJ (Qj s) m)) (eN s (QJ (Qj s) m) t).1).2.1;have e:sz ([]:List Int)=0:=rfl;have e2:sz ([]:List (List Int))=0:=rfl;rw[ZL,ZL s];simp only[Qj,QB,sG,Qy,Ao,e,e2,Z1]
  ((try simp only[bT,Qt,aE,Qn,Qp,Qj,QB,sX,sY,sG,sD,Qy,Qw,bf,QA,QC,Qq,Qr]at *);omega)
 ·((try simp only[bT,Qt,aE,Qn,Qp,Qj,QB,sX,sY,sG,sD,Qy,Qw,bf,QA,QC,Qq,Qr]at *);omega)
theorem Qw0(q:Qd):sz (Zg q).1+sz (Zg q).2.1.2<=sz q:=by
 unfold Zg
 split
 ·rename_i h;simp only[Bool.and_eq_true,decide_eq_true_eq]at h;obtain⟨c,l⟩:=q
  cases l with
  | nil=>simp at h
  | cons x l=>simp only[List.tail_cons,As,YK,QL,Jj];rw[QR x,QL];((try simp only[bT,Qt,aE,Qn,Qp,Qj,QB,sX,sY,sG,sD,Qy,Qw,bf,QA,QC,Qq,Qr]at *);omega)
 ·have:sz ([]:List Int)=0:=rfl;simp only;((try simp only[bT,Qt,aE,Qn,Qp,Qj,QB,sX,sY,sG,sD,Qy,Qw,bf,QA,QC,Qq,Qr]at *);omega)
theorem QBf(q:Qd)(x:Qm):sz (Ya q x).1<=sz q+1+sz x.2:=by
 unfold Ya
 split
 ·have:sz ([]:List Qm)=0:=rfl;simp only[YK,Ao,Jj,QL];rw[QR q,QL,QR x,QL];((try simp only[bT,Qt,aE,Qn,Qp,Qj,QB,sX,sY,sG,sD,Qy,Qw,bf,QA,QC,Qq,Qr]at *);omega)
 ·simp only;((try simp only[bT,Qt,aE,Qn,Qp,Qj,QB,sX,sY,sG,sD,Qy,Qw,bf,QA,QC,Qq,Qr]at *);omega)
theorem QNK(p:Qk)(k:Nat)(x:Qc)(i:bp):sz (ZO p k x i).1+sz (ZO p k x i).2.1+sz (ZO p k x i).2.2<=sz x+sz (Qq p)+sz (Qr p)+100:=by
 have e:sz ([]:List Int)=0:=rfl;have ed:sz Qx=0:=rfl;unfold ZO;simp only
 split
 ·have h1:=Qw0 (aq Qx (Qq p) (k-1));have h2:=uG Qx (Zg (aq Qx (Qq p) (k-1))).1 (Qq p) (k-1);have h3:sz (kO x (Zg (aq Qx (Qq p) (k-1))).2.1.2)<=sz x+sz (Zg (aq Qx (Qq p) (k-1))).2.1.2:=by
   rw[ZL,ZL x];simp only[kO];((try simp only[bT,Qt,aE,Qn,Qp,Qj,QB,sX,sY,sG,sD,Qy,Qw,bf,QA,QC,Qq,Qr]at *);omega)
  simp only;((try simp only[bT,Qt,aE,Qn,Qp,Qj,QB,sX,sY,sG,sD,Qy,Qw,bf,QA,QC,Qq,Qr]at *);omega)
 split
 ·have h:=QIN x i.2 (if k=0 then(aq QW (QA p) i.2.toNat).1 else sX x) (aq QW (QA p) i.2.toNat).2;simp only;((try simp only[bT,Qt,aE,Qn,Qp,Qj,QB,sX,sY,sG,sD,Qy,Qw,bf,QA,QC,Qq,Qr]at *);omega)
 split
 ·have h1:=QBf (aq Qx (Qq p) k) (i.2,sY x);have h2:=uG Qx (Ya (aq Qx (Qq p) k) (i.2,sY x)).1 (Qq p) k;have h3:sz (kP x [])+sz (sY x)=sz x:=by rw[ZL,ZL x];simp only[kP,e];((try simp only[bT,Qt,aE,Qn,Qp,Qj,QB,sX,sY,sG,sD,Qy,Qw,bf,QA,QC,Qq,Qr]at *);omega)
  simp only at h1 ⊢;((try simp only[bT,Qt,aE,Qn,Qp,Qj,QB,sX,sY,sG,sD,Qy,Qw,bf,QA,QC,Qq,Qr]at *);omega)
 split
 ·have h1:=Qw0 (aq Qx (Qr p) k);have h2:=uG Qx (Zg (aq Qx (Qr p) k)).1 (Qr p) k;have h3:sz (kQ x (Zg (aq Qx (Qr p) k)).2.1.2)<=sz x+sz (Zg (aq Qx (Qr p) k)).2.1.2:=by
   rw[ZL,ZL x];simp only[kQ];((try simp only[bT,Qt,aE,Qn,Qp,Qj,QB,sX,sY,sG,sD,Qy,Qw,bf,QA,QC,Qq,Qr]at *);omega)
  simp only;((try simp only[bT,Qt,aE,Qn,Qp,Qj,QB,sX,sY,sG,sD,Qy,Qw,bf,QA,QC,Qq,Qr]at *);omega)
 split
 ·have h:=QTW x i.2;simp only;((try simp only[bT,Qt,aE,Qn,Qp,Qj,QB,sX,sY,sG,sD,Qy,Qw,bf,QA,QC,Qq,Qr]at *);omega)
 split
 ·have h:=QOo x i.2 (aq QW (QA p) i.2.toNat).2;have h3:∀ y:Qc,sz (gx y [])<=sz y:=by intro y;rw[ZL,ZL y];simp only[gx,e];((try simp only[bT,Qt,aE,Qn,Qp,Qj,QB,sX,sY,sG,sD,Qy,Qw,bf,QA,QC,Qq,Qr]at *);omega)
  have h4:=h3 (ZB x i.2 (aq QW (QA p) i.2.toNat).2);simp only
  split <;> ((try simp only[bT,Qt,aE,Qn,Qp,Qj,QB,sX,sY,sG,sD,Qy,Qw,bf,QA,QC,Qq,Qr]at *);omega)
 split
 ·have h1:=QBf (aq Qx (Qr p) (k-1)) (i.2,sD x);have h2:=uG Qx (Ya (aq Qx (Qr p) (k-1)) (i.2,sD x)).1 (Qr p) (k-1);have h3:sz (gx x [])+sz (sD x)=sz x:=by rw[ZL,ZL x];simp only[gx,e];((try simp only[bT,Qt,aE,Qn,Qp,Qj,QB,sX,sY,sG,sD,Qy,Qw,bf,QA,QC,Qq,Qr]at *);omega)
  simp only at h1 ⊢;((try simp only[bT,Qt,aE,Qn,Qp,Qj,QB,sX,sY,sG,sD,Qy,Qw,bf,QA,QC,Qq,Qr]at *);omega)
 ·simp only;((try simp only[bT,Qt,aE,Qn,Qp,Qj,QB,sX,sY,sG,sD,Qy,Qw,bf,QA,QC,Qq,Qr]at *);omega)
theorem My(p:Qk)(s:Int):sz (ZQ p s)<=sz p+100:=by
 unfold ZQ
 split
 ·have h1:=QNK p s.toNat (aq Qz (QC p) s.toNat) (Ql p s)
  have h2:=uG Qz (Gv (ZO p s.toNat (aq Qz (QC p) s.toNat) (Ql p s)).1 (bT (aq Qz (QC p) s.toNat)+1)) (QC p) s.toNat
  have h3:∀(y:Qc)(v:Int),sz (Gv y v)=sz y:=by intro y v;rw[ZL,ZL y];rfl
  rw[h3]at h2;have ed:sz Qz=0:=rfl;rw[uF,uF p];simp only
  ((try simp only[bT,Qt,aE,Qn,Qp,Qj,QB,sX,sY,sG,sD,Qy,Qw,bf,QA,QC,Qq,Qr]at *);omega)
 ·((try simp only[bT,Qt,aE,Qn,Qp,Qj,QB,sX,sY,sG,sD,Qy,Qw,bf,QA,QC,Qq,Qr]at *);omega)
theorem QD0:∀(l:List Int)(p:Qk),sz (rH l p)<=sz p+100*l.length
 | [],p=>by simp[rH]
 | s::r,p=>by
  have h1:=QD0 r (ZQ p s);have h2:=My p s;simp only[rH,List.length_cons];((try simp only[bT,Qt,aE,Qn,Qp,Qj,QB,sX,sY,sG,sD,Qy,Qw,bf,QA,QC,Qq,Qr]at *);omega)
theorem QYd(p:Qk)(l:List Int):sz (ZK p l)<=sz p+200000:=by
 unfold ZK;have:=QD0 (l.take 2000) p;have:(l.take 2000).length<=2000:=by simp;((try simp only[bT,Qt,aE,Qn,Qp,Qj,QB,sX,sY,sG,sD,Qy,Qw,bf,QA,QC,Qq,Qr]at *);omega)
 ((try simp only[bT,Qt,aE,Qn,Qp,Qj,QB,sX,sY,sG,sD,Qy,Qw,bf,QA,QC,Qq,Qr]at *);omega)
end Go.Proofs.YtdplaepmjogjjaaGreat.Am
namespace Go.Proofs.YtdplaepmjogjjaaGreat.Am
open Go Sz
theorem Mz(a b:Int):decide (a>=b) = !decide (a<b):=by
 rw[Bool.eq_iff_iff];simp
theorem MA{s:Qc}{m:Int}{x t:List Int}(h:¬ Y7 s m x t=true):ZZ s m x t=s:=by unfold ZZ;rw[if_neg h]
theorem QsQ{s:Qc}{m:Int}(h:¬ (QU s&&decide (0<=QJ (Qj s) m))=true):Yp s m=s:=by unfold Yp;simp only;rw[if_neg h]
theorem Qua{s:Qc}{m:Int}{t:List Int}(h:¬ Yw s (QJ (Qj s) m) t=true):ZB s m t=s:=by unfold ZB;simp only;rw[if_neg h]
theorem QSx{m:Zx}(h:Zc m=true):ZM m=(aq b6 m 0).2.1:=by unfold ZM;rw[if_pos h]
theorem QqT{m:Zx}(h:Zc m=true):Zu m=(aq b6 m (m.length-1)).2.2.1:=by unfold Zu;rw[if_pos h]
theorem QEt(s:Qc)(m:Int)(x t:List Int):Y7 s m x t=(!(((!(QU s))||(!(QH x (ZM (Zm s)))))||decide (QJ s.2.2.2.2.2.1 m>=0))&&!(s.2.2.2.1&&(!(QH t (Zu (Zm s)))))):=by
 unfold Y7;rw[Mz];show(QU s&&QH x (ZM (Zm s))&&decide (QJ s.2.2.2.2.2.1 m<0)&&(!s.2.2.2.1||QH t (Zu (Zm s))))=_
 cases QU s <;> cases QH x (ZM (Zm s)) <;> cases decide (QJ s.2.2.2.2.2.1 m<0) <;> cases s.2.2.2.1 <;> cases QH t (Zu (Zm s)) <;> rfl
theorem QKp(s:Qc)(m:Int)(x t:List Int)(k:Nat)(hk:QU s=true->k=s.2.2.1.length-1) :
  (((((!(QU s))||(!(QK x)))||((x.length:Int) != ((aq b6 s.2.2.1 0).2.1)))||decide (QJ s.2.2.2.2.2.1 m>=0))||(s.2.2.2.1&&((!(QK t))||((t.length:Int) != ((aq b6 s.2.2.1 k).2.2.1))))) = !Y7 s m x t:=by
 rw[QEt,Mz]
 cases hs:QU s
 ·rfl
 ·have hm:=YZ hs;rw[hk hs,show Zm s=s.2.2.1 from rfl,QSx hm,QqT hm];unfold QH;simp only[bne]
  cases QK x <;> cases((x.length:Int)==(aq b6 s.2.2.1 0).2.1) <;> cases decide (QJ s.2.2.2.2.2.1 m<0) <;> cases s.2.2.2.1 <;> cases QK t <;> cases((t.length:Int)==(aq b6 s.2.2.1 (s.2.2.1.length-1)).2.2.1) <;> rfl
theorem CB(s:Qc)(m:Int):((!(QU s))||decide (QJ s.2.2.2.2.2.1 m<0)) = !(QU s&&decide (0<=QJ s.2.2.2.2.2.1 m)):=by
 have:=Mz (QJ s.2.2.2.2.2.1 m) 0;rw[show decide (0<=QJ s.2.2.2.2.2.1 m)=decide (QJ s.2.2.2.2.2.1 m>=0) from rfl,this]
 cases QU s <;> cases decide (QJ s.2.2.2.2.2.1 m<0) <;> rfl
theorem QyP{s:Qc}{m:Int}{x t:List Int}(h:Y7 s m x t=true):ZZ s m x t =
  (bT s,Qt s,aE s,Qn s,Qp s,Qj s++[(m,if Qp s then(QV (aE s) x).1.take 1 else(QV (aE s) x).1)],QB s,[],(if Qn s then sY s else aq [] (QV (aE s) x).1 (aE s).length),sG s,sD s,Qy s,
   (if Qn s then(Q5 (Qw s) (Z9 (aq [] (QV (aE s) x).1 (aE s).length) t).1).1 else Qw s),
   (bf s||(QV (aE s) x).2||(Qn s&&((Z9 (aq [] (QV (aE s) x).1 (aE s).length) t).2||(Q5 (Qw s) (Z9 (aq [] (QV (aE s) x).1 (aE s).length) t).1).2)))):=by
 unfold ZZ;rw[if_pos h]
theorem yE{s:Qc}{m:Int}{t:List Int}{rows:List (List Int)}{d:List Int}{b:Bool}(h:Yw s (QJ (Qj s) m) t=true)(hr:rows=Zq s (QJ (Qj s) m))(hd:(d,b)=eN s (QJ (Qj s) m) t):ZB s m t =
  (bT s,Qt s,aE s,Qn s,Qp s,(Qj s).take (QJ (Qj s) m).toNat++(Qj s).drop ((QJ (Qj s) m).toNat+1),[],sX s,sY s,[],(Q2 (aE s) rows d).2.1,
   (Z1 (lY s) ((Q2 (aE s) rows d).1,0,b||(Q2 (aE s) rows d).2.2)).1,(Z1 (lY s) ((Q2 (aE s) rows d).1,0,b||(Q2 (aE s) rows d).2.2)).2.1,(Z1 (lY s) ((Q2 (aE s) rows d).1,0,b||(Q2 (aE s) rows d).2.2)).2.2):=by
 unfold ZB;simp only;rw[if_pos h,<- hr,<- hd]
theorem JF(s:Qc)(k:Int)(t:List Int):Yw s k t=(QU s&&decide (0<=k)&&((Zq s k).length==(aE s).length+1)&&ZS (aE s) (Zq s k) (aE s).length&&QH (eN s k t).1 (Zu (aE s))):=rfl
theorem yF{α:Type}{l:List α}{k:Nat}(hk:k<l.length):List.take (k+(List.take (l.length-(k+1)) (List.drop (k+1) l)).length) (List.take k l++List.take (l.length-(k+1)) (List.drop (k+1) l))=List.take k l++List.drop (k+1) l:=by
 have e:List.take (l.length-(k+1)) (List.drop (k+1) l)=List.drop (k+1) l:=List.take_of_length_le (by simp);rw[e];exact List.take_of_length_le (by simp;omega)
theorem QyM(f:Int->Int->Int)(x:List Int):∀ d:List Int,(d.flatMap λa=>x.map (f a)).length=d.length*x.length
 | []=>by simp
 | a::d=>by rw[List.flatMap_cons,List.length_append,QyM f x d,List.length_map,List.length_cons,Nat.add_mul];omega
theorem QsT(d x:List Int):(Zl d x).1.2.2.length<=36:=by
 unfold Zl
 split
 ·rename_i h;simp only[Bool.and_eq_true]at h;have h1:=kT h.1;have h2:=kT h.2;simp only;rw[QyM (λa b=>(Q7 a b).1) x d];exact Nat.le_trans (Nat.mul_le_mul h1 h2) (by omega)
 ·simp
theorem QKl(o:aH)(x d:List Int):(ZY o x d).2.1.length<=36:=by
 unfold ZY
 split
 ·rename_i h;simp only[Bool.and_eq_true]at h
  split
  ·exact QsT _ _
  ·split
   ·exact Nat.le_trans (Jc h.2) (by omega)
   ·split
    ·simp
    ·split
     ·exact QsT _ _
     ·simp
 ·simp
theorem uH:∀(ops:List aH)(rows:List (List Int))(d:List Int),sz (Q2 ops rows d).1<=37*ops.length
 | [],rows,d=>by simp[Q2]
 | o::os,[],d=>by simp only[Q2];exact Nat.zero_le _
 | o::os,r::rs,d=>by
  have h1:=QKl o r (Q2 os rs d).2.1;have h2:=uH os rs d;simp only[Q2,Jj,ZD,List.length_cons];omega
theorem QM6{ops:List aH}{rows:List (List Int)}{k:Nat}(hk:k<ops.length)(hr:k<rows.length) :
  YF ops k ((rows.drop k).take (ops.length-k))=(QH (aq [] rows k) (aq b6 ops k).2.1&&YF ops (k+1) ((rows.drop (k+1)).take (ops.length-(k+1)))):=by
 rw[List.drop_eq_getElem_cons hr,show ops.length-k=(ops.length-(k+1))+1 by omega,List.take_succ_cons,YF];have:aq [] rows k=rows[k]:=Ar (List.getElem?_eq_getElem hr) _;rw[<- this];unfold YY;rw[if_pos hk]
end Go.Proofs.YtdplaepmjogjjaaGreat.Am
namespace Go.Proofs.YtdplaepmjogjjaaGreat.Am
open Go Sz
theorem Qu2{nb:Int}:∀ {l:List Qc},Jd nb l=true->∀ x,x∈l->QU x=true/\∀ i,i∈x.2.1->0<=i.2/\i.2<nb
 | [],_,x,hx=>by cases hx
 | s::r,h,x,hx=>by
  simp only[Jd,Bool.and_eq_true,List.all_eq_true,Zb]at h
  rcases List.mem_cons.1 hx with rfl | hx
  ·exact⟨h.1.1.1,λi hi=>by have:=h.1.2 i hi;omega⟩
  ·exact Qu2 h.2 x hx
theorem QB5{p:Qk}{s:Int}(he:ZI p s=true):∃ k:Nat,s=k/\k<p.2.1.length/\p.2.1.length<=4/\p.2.2.1.length+1=p.2.1.length/\p.2.2.2.length+1=p.2.1.length/\QU (aq Qz p.2.1 k)=true/\
  0<=(Ql p s).2/\(Ql p s).2<p.1.length/\((Ql p s).1=1->0<k)/\((Ql p s).1=3->k+1<p.2.1.length)/\((Ql p s).1=4->k+1<p.2.1.length)/\((Ql p s).1=7->0<k)/\
  ((Ql p s).1=1\/(Ql p s).1=2\/(Ql p s).1=3\/(Ql p s).1=4\/(Ql p s).1=5\/(Ql p s).1=6\/(Ql p s).1=7\/(Ql p s).1=8):=by
 simp only[ZI,Bool.and_eq_true]at he;obtain⟨⟨h1,h2⟩,h3⟩:=he;simp only[Zk,Bool.and_eq_true,Zb,beq_iff_eq]at h1;have kD:=Zb.1 h2;obtain⟨k,rfl⟩:=Int.eq_ofNat_of_zero_le kD.1;have hk:k<p.2.1.length:=by omega
 have hg:=Qu2 h1.2.2 _ (JI hk Qz);have gU:(Ql p (k:Int)).1=1\/(Ql p (k:Int)).1=2\/(Ql p (k:Int)).1=3\/(Ql p (k:Int)).1=4\/(Ql p (k:Int)).1=5\/(Ql p (k:Int)).1=6\/(Ql p (k:Int)).1=7\/(Ql p (k:Int)).1=8:=by
  generalize(Ql p (k:Int)).1=kd at h3;unfold Jr at h3;simp only at h3
  split at h3
  ·omega
  split at h3
  ·omega
  split at h3
  ·omega
  split at h3
  ·omega
  split at h3
  ·omega
  split at h3
  ·omega
  ·cases h3
 have hM:0<=(Ql p (k:Int)).2/\(Ql p (k:Int)).2<p.1.length:=by
  have hn:Ql p (k:Int)=ry (aq Qz p.2.1 k):=by
   unfold Ql;rw[if_pos h2,Int.toNat_natCast]
  rw[hn]at gU ⊢;unfold ry at gU ⊢
  split
  ·rename_i py;have py:=Zb.1 py;exact hg.2 _ (JI (by omega) eG)
  ·rename_i py;rw[if_neg py]at gU;simp at gU
 refine⟨k,rfl,hk,by omega,by omega,by omega,hg.1,hM.1,hM.2,?_,?_,?_,?_,gU⟩
 all_goals
  intro zg;rw[zg]at h3;simp[Jr]at h3;omega
theorem QrR{p:Qk}{s:Int}(h:ZI p s=false):ZQ p s=p:=by unfold ZQ;rw[if_neg (by rw[h];simp)]
theorem Qrn{p:Qk}{k:Nat}{x y:Qc}{a b:List Qd}(h:ZI p (k:Int)=true)(hx:x=aq Qz p.2.1 k)(hy:ZO p k x (Ql p (k:Int))=(y,a,b))(py:y.1=x.1) :
  ZQ p (k:Int)=(p.1,p.2.1.set k (y.1+1,y.2),a,b):=by
 unfold ZQ;rw[if_pos h];simp only[Int.toNat_natCast];rw[show aq Qz (QC p) k=x from hx.symm,hy];simp only;rw[py];rfl
theorem MB(s:Qc)(m:Int)(x t:List Int):(ZZ s m x t).1=s.1:=by unfold ZZ;split <;> rfl
theorem QzN(s:Qc)(m:Int):(Yp s m).1=s.1:=by unfold Yp;simp only;split <;> rfl
theorem CC(s:Qc)(m:Int)(t:List Int):(ZB s m t).1=s.1:=by unfold ZB;simp only;split <;> rfl
theorem pi1{p:Qk}{k:Nat}{x:Qc}{i:bp}(h:i.1=1):ZO p k x i=(kO x (Zg (aq Qx (Qq p) (k-1))).2.1.2,(Qq p).set (k-1) (Zg (aq Qx (Qq p) (k-1))).1,Qr p):=by
 unfold ZO;simp only[h];simp
theorem MC{p:Qk}{k:Nat}{x:Qc}{i:bp}(h:i.1=2):ZO p k x i=(ZZ x i.2 (if k=0 then(aq QW (QA p) i.2.toNat).1 else sX x) (aq QW (QA p) i.2.toNat).2,Qq p,Qr p):=by
 unfold ZO;simp only[h];simp
theorem pi3{p:Qk}{k:Nat}{x:Qc}{i:bp}(h:i.1=3):ZO p k x i=(kP x [],(Qq p).set k (Ya (aq Qx (Qq p) k) (i.2,sY x)).1,Qr p):=by
 unfold ZO;simp only[h];simp
theorem pi4{p:Qk}{k:Nat}{x:Qc}{i:bp}(h:i.1=4):ZO p k x i=(kQ x (Zg (aq Qx (Qr p) k)).2.1.2,Qq p,(Qr p).set k (Zg (aq Qx (Qr p) k)).1):=by
 unfold ZO;simp only[h];simp
theorem pi5{p:Qk}{k:Nat}{x:Qc}{i:bp}(h:i.1=5):ZO p k x i=(Yp x i.2,Qq p,Qr p):=by
 unfold ZO;simp only[h];simp
theorem CD{p:Qk}{k:Nat}{x:Qc}{i:bp}(h:i.1=6):ZO p k x i=((if k=0 then gx (ZB x i.2 (aq QW (QA p) i.2.toNat).2) [] else ZB x i.2 (aq QW (QA p) i.2.toNat).2),Qq p,Qr p):=by
 unfold ZO;simp only[h];simp
theorem pi7{p:Qk}{k:Nat}{x:Qc}{i:bp}(h:i.1=7):ZO p k x i=(gx x [],Qq p,(Qr p).set (k-1) (Ya (aq Qx (Qr p) (k-1)) (i.2,sD x)).1):=by
 unfold ZO;simp only[h];simp
theorem pi8{p:Qk}{k:Nat}{x:Qc}{i:bp}(h:i.1=8):ZO p k x i=(x,Qq p,Qr p):=by
 unfold ZO;simp only[h];simp
end Go.Proofs.YtdplaepmjogjjaaGreat.Am

namespace Go.Proofs.YtdplaepmjogjjaaGreat.Am
open Go Go.RowKit Go.Proofs.YtdplaepmjogjjaaGreat
set_option linter.all false
set_option maxHeartbeats 2000000
noncomputable section
variable (K:aB->Prop)
def uI(t:Qc):aB:=⟨(.a [(aL t.1),(.r QQ 0 0 ((t.2.1).length)),(.r aM 1 0 ((t.2.2.1).length)),(bE t.2.2.2.1),(bE t.2.2.2.2.1),(.r QE 2 0 ((t.2.2.2.2.2.1).length)),(.r [(.sl [TI])] 3 0 ((t.2.2.2.2.2.2.1).length)),(.r [TI] 4 0 ((t.2.2.2.2.2.2.2.1).length)),(.r [TI] 5 0 ((t.2.2.2.2.2.2.2.2.1).length)),(.r [TI] 6 0 ((t.2.2.2.2.2.2.2.2.2.1).length)),(.r [TI] 7 0 ((t.2.2.2.2.2.2.2.2.2.2.1).length)),(.r [(.sl [TI])] 8 0 ((t.2.2.2.2.2.2.2.2.2.2.2.1).length)),(aL t.2.2.2.2.2.2.2.2.2.2.2.2.1),(bE t.2.2.2.2.2.2.2.2.2.2.2.2.2)]),[(.sl 175 QQ (.dp 0 true []) t.2.1),(.sl 134 aM (.dp 0 true []) t.2.2.1),(.sl 108 QE (.dp 0 true []) t.2.2.2.2.2.1),(.sl 106 [(.sl [TI])] (.dp 0 true []) t.2.2.2.2.2.2.1),(.sl 3 [TI] (.dp 0 true []) t.2.2.2.2.2.2.2.1),(.sl 3 [TI] (.dp 0 true []) t.2.2.2.2.2.2.2.2.1),(.sl 3 [TI] (.dp 0 true []) t.2.2.2.2.2.2.2.2.2.1),(.sl 3 [TI] (.dp 0 true []) t.2.2.2.2.2.2.2.2.2.2.1),(.sl 106 [(.sl [TI])] (.dp 0 true []) t.2.2.2.2.2.2.2.2.2.2.2.1)],[],false,[]⟩
def uJ:aI:=Qg 70 [(.a Qe)] λx=>(some (Qs (α:=Qc) x.1),uI (id (α:=Qc) x.1))
def MD:aF:=⟨[Kw,x4,JG,KG],true⟩
def Qw6:af :=
 (ag [(.ae [aw 24 .lss 23 22]),(.cond 24 .skip (.exit 0)),(.block 1 (ag [(.ae [aZ 25 21 23 QE,a7 26 25 2,aC 5 (.new 108 (bG QE)),aT 5 26 2]),(.draw [ak 27 3 5,an 28 27 1,ak 29 5 0,an 30 29 1,ak 31 5 1,an 32 31 1,aD 33 103 [32],aC 34 (.build (bG QE) [(0,1,30),(1,1,33)]),aC 35 (.bW 108 QE [34]),aC 36 (.app 28 35 108 QE),ak 37 3 5,aT 37 36 1] [(0,6),(1,6),(2,6),(3,6),(0,8),(1,8)])])),(.ae [aw 38 .add 23 (ar 1),ab 23 38])])
def Qu7:List (Nat × Md):=[(1,.b (dH 14)),(2,.b [.d,.f,.f,.d,.d,.f,.f,.f,.f,.f,.f,.f,.d,.d]),(3,.b [.d,.f,.f,.d,.d,.p 108,.f,.f,.f,.f,.f,.f,.d,.d]),(21,.one .d),(22,.one .d),(23,.one .d)]
def QqE:af :=
 (ag [(.ae [ak 39 1 6,an 40 39 1,aD 41 103 [40],ak 42 3 6,aT 42 41 1]),(.draw [ak 43 1 7,an 44 43 1,aD 45 104 [44],ak 46 1 8,an 47 46 1,aD 48 104 [47],ak 49 1 9,an 50 49 1,aD 51 104 [50],ak 52 1 10,an 53 52 1,aD 54 104 [53],ak 55 3 7,aT 55 45 1,ak 56 3 8,aT 56 48 1,ak 57 3 9,aT 57 51 1,ak 58 3 10,aT 58 54 1] [(2,3),(2,4),(2,6),(5,6),(2,7),(5,7),(2,9),(5,9),(8,9),(2,10),(5,10),(8,10),(5,12),(8,12),(11,12)]),(.ae [ak 59 1 11,a7 60 59 3,aD 61 166 [60],ak 62 3 11,aT 62 61 3]),(.ae [a7 63 3 14,aT 2 63 14]),.ret])
def QLC:af :=
 (ag [(.ae [aC 1 (.box 39 0 14),aC 2 (.new 39 (bG Qe))]),(.draw [ak 6 1 0,an 7 6 1,aC 8 (.bW 175 QQ []),ak 9 1 1,an 10 9 1,aC 11 (.app 8 10 175 QQ),ak 12 1 2,an 13 12 1,aD 14 165 [13],ak 15 1 3,an 16 15 1,ak 17 1 4,an 18 17 1,aC 19 (.build (bG Qe) [(0,1,7),(1,1,11),(2,1,14),(3,1,16),(4,1,18)]),aC 3 (.new 39 (bG Qe)),aT 3 19 14] [(0,2),(1,2),(2,3),(2,4),(0,5),(1,5),(2,6),(5,6),(2,7),(5,7),(0,8),(1,8),(2,9),(5,9),(8,9),(2,10),(5,10),(8,10),(2,11),(5,11),(8,11),(2,12),(5,12),(8,12),(0,14),(1,14),(2,14),(3,14),(4,14),(5,14),(6,14),(7,14),(8,14),(9,14),(10,14),(11,14),(12,14)]),(ag [(.ae [ak 20 1 5,an 21 20 1,a9 22 21,ab 23 (ar 0)]),(.block 0 (.loop Qu7 Qw6))]),QqE])
def QDz:List (bm × Md):=[(.l 2 14 true,.b [.d,.p 175,.p 134,.d,.d,.p 108,.p 106,.p 3,.p 3,.p 3,.p 3,.p 106,.d,.d])]
def Quv:Qb:=TQ 0 0 QDz K
def QX1:Qb:=aY (aN MD 0 QqE (Quv K)) (Quv K)
def QKW:Qb:=a6 0 (QX1 K)
def CE(s:Qc)(x:Int)(t1:List bp)(t2:List aH)(t5:List QD):Prop:=Loop MD 0 Qu7 Qw6 (QKW K) ⟨[(1,(.p 0 0 0)),(2,(.p 1 0 0)),(3,(.p 5 0 0)),(21,(bc QE s.2.2.2.2.2.1)),(22,(aL ((s.2.2.2.2.2.1).length:Int))),(23,(aL x))],[(0,(.box (aR.cells Qe s))),(1,(.box [(aL 0),(.n QQ),(.n aM),(bE false),(bE false),(.n QE),(.n [(.sl [TI])]),(.n [TI]),(.n [TI]),(.n [TI]),(.n [TI]),(.n [(.sl [TI])]),(aL 0),(bE false)])),(2,(.sl 175 QQ (.dp 0 true []) t1)),(3,(.sl 134 aM (.dp 0 true []) t2)),(4,(.sl 108 QE (.dp 0 true []) t5)),(5,(.box [(aL s.1),(.r QQ 2 0 t1.length),(.r aM 3 0 t2.length),(bE s.2.2.2.1),(bE s.2.2.2.2.1),(.r QE 4 0 t5.length),(.n [(.sl [TI])]),(.n [TI]),(.n [TI]),(.n [TI]),(.n [TI]),(.n [(.sl [TI])]),(aL 0),(bE false)]))],6⟩
theorem Qt3(s:Qc)(x:Int)(t1:List bp)(t2:List aH)(t5:List QD) (h :
 (aJ (decide (x<((s.2.2.2.2.2.1).length:Int))) ((0<=x/\Int.toNat x<(s.2.2.2.2.2.1).length)/\(((Qs (α:=List (List Int)) ((aq QT s.2.2.2.2.2.1 (Int.toNat x)).2))/\((t5.length=t5.length\/t5.length+1<=t5.length)/\t5.length+1<=cc))/\(CE K s (aG (x+1)) (List.take t1.length t1) (List.take t2.length t2) (List.take (t5.length+1) ((List.take t5.length t5)++([((aq QT s.2.2.2.2.2.1 (Int.toNat x)).1,(List.take ((id (α:=List (List Int)) ((aq QT s.2.2.2.2.2.1 (Int.toNat x)).2)).length) (List.drop 0 (id (α:=List (List Int)) ((aq QT s.2.2.2.2.2.1 (Int.toNat x)).2)))))])))))) ((Qs (α:=List (List Int)) s.2.2.2.2.2.2.1)/\(((Qs (α:=List Int) s.2.2.2.2.2.2.2.1)/\((Qs (α:=List Int) s.2.2.2.2.2.2.2.2.1)/\((Qs (α:=List Int) s.2.2.2.2.2.2.2.2.2.1)/\(Qs (α:=List Int) s.2.2.2.2.2.2.2.2.2.2.1))))/\((Qs (α:=QO) s.2.2.2.2.2.2.2.2.2.2.2)/\K (uI (s.1,(List.take t1.length t1),(List.take t2.length t2),s.2.2.2.1,s.2.2.2.2.1,(List.take t5.length t5),(List.take ((id (α:=List (List Int)) s.2.2.2.2.2.2.1).length) (id (α:=List (List Int)) s.2.2.2.2.2.2.1)),(List.take ((id (α:=List Int) s.2.2.2.2.2.2.2.1).length) (id (α:=List Int) s.2.2.2.2.2.2.2.1)),(List.take ((id (α:=List Int) s.2.2.2.2.2.2.2.2.1).length) (id (α:=List Int) s.2.2.2.2.2.2.2.2.1)),(List.take ((id (α:=List Int) s.2.2.2.2.2.2.2.2.2.1).length) (id (α:=List Int) s.2.2.2.2.2.2.2.2.2.1)),(List.take ((id (α:=List Int) s.2.2.2.2.2.2.2.2.2.2.1).length) (id (α:=List Int) s.2.2.2.2.2.2.2.2.2.2.1)),(List.take (((id (α:=QO) s.2.2.2.2.2.2.2.2.2.2.2).1).length) ((id (α:=QO) s.2.2.2.2.2.2.2.2.2.2.2).1)),(id (α:=QO) s.2.2.2.2.2.2.2.2.2.2.2).2.1,(id (α:=QO) s.2.2.2.2.2.2.2.2.2.2.2).2.2))))))):CE K s x t1 t2 t5 :=
 Loop.of h
theorem QVw(s:Qc)(hp:Qs (α:=Qc) s):aK Tryz.prog 70 [(.a (aR.cells Qe s))] (uI (id (α:=Qc) s)):=by
 refine bw MD QLC QDz 0 0 64 uJ (kc QQ8 (kc KB (kc nT (kc QSI kn)))) (λK =>
 ((((0=0\/0+(s.2.1).length<=0)/\0+(s.2.1).length<=cc)/\(Qs (α:=List aH) s.2.2.1))/\(CE K s 0 (List.take (0+(s.2.1).length) (s.2.1:List bp)) (List.take ((id (α:=List aH) s.2.2.1).length) (id (α:=List aH) s.2.2.1)) ([]:List QD)))) (λhb=>?_)
 have il:Sz.sz s<=2147483648:=hp;have hs:=ZL s;have l1:=Yl (Qt s);simp only[id,List.drop_zero,List.take_length,true_or,true_and,Nat.zero_add];refine⟨⟨by rw[Zf];((try simp only[bT,Qt,aE,Qn,Qp,Qj,QB,sX,sY,sG,sD,Qy,Qw,bf,QA,QC,Qq,Qr]at *);omega),by unfold Qs;((try simp only[bT,Qt,aE,Qn,Qp,Qj,QB,sX,sY,sG,sD,Qy,Qw,bf,QA,QC,Qq,Qr]at *);omega)⟩,?_⟩;refine YE (l:=s.2.2.2.2.2.1) (A:=λi v=>CE (λr'=>r'=uI (id (α:=Qc) s)) s i s.2.1 s.2.2.1 v) (Q:=λz=>uI (s.1,s.2.1,s.2.2.1,s.2.2.2.1,s.2.2.2.2.1,z,s.2.2.2.2.2.2)=uI (id (α:=Qc) s)) (by((try simp only[bT,Qt,aE,Qn,Qp,Qj,QB,sX,sY,sG,sD,Qy,Qw,bf,QA,QC,Qq,Qr]at *);omega)) (λk x v hk hl hg hv hx ih=>?_) (λhq=>?_) (au rfl)
 ·refine Qt3 _ _ _ _ _ _ ⟨λ_=>?_,λh=>by simp at h;omega⟩;simp only[QR,QL]at hx;rw[Int.toNat_natCast,hg,dM (by omega),Q9,rM,List.take_length,List.take_length];exact⟨⟨by omega,hk⟩,⟨by unfold Qs;omega,room (by omega)⟩,ih⟩
 ·refine Qt3 _ _ _ _ _ _ ⟨λh=>by simp at h,λ_=>?_⟩;simp only[id,List.drop_zero,List.take_length,true_or,true_and,Nat.zero_add];exact⟨by unfold Qs;((try simp only[bT,Qt,aE,Qn,Qp,Qj,QB,sX,sY,sG,sD,Qy,Qw,bf,QA,QC,Qq,Qr]at *);omega),⟨by unfold Qs;((try simp only[bT,Qt,aE,Qn,Qp,Qj,QB,sX,sY,sG,sD,Qy,Qw,bf,QA,QC,Qq,Qr]at *);omega),by unfold Qs;((try simp only[bT,Qt,aE,Qn,Qp,Qj,QB,sX,sY,sG,sD,Qy,Qw,bf,QA,QC,Qq,Qr]at *);omega),by unfold Qs;((try simp only[bT,Qt,aE,Qn,Qp,Qj,QB,sX,sY,sG,sD,Qy,Qw,bf,QA,QC,Qq,Qr]at *);omega),by unfold Qs;((try simp only[bT,Qt,aE,Qn,Qp,Qj,QB,sX,sY,sG,sD,Qy,Qw,bf,QA,QC,Qq,Qr]at *);omega)⟩,by unfold Qs;simp only[QR,QL,QY];((try simp only[bT,Qt,aE,Qn,Qp,Qj,QB,sX,sY,sG,sD,Qy,Qw,bf,QA,QC,Qq,Qr]at *);omega),by first | exact hq | trivial⟩
theorem CF:Qf Tryz.prog uJ:=Qi λx h=>QVw x.1 h
def uK(t:Qc):aB:=⟨(.a [(aL t.1),(bc QQ t.2.1),(bc aM t.2.2.1),(bE t.2.2.2.1),(bE t.2.2.2.2.1),(.r QE 0 0 ((t.2.2.2.2.2.1).length)),(bc [(.sl [TI])] t.2.2.2.2.2.2.1),(bc [TI] t.2.2.2.2.2.2.2.1),(bc [TI] t.2.2.2.2.2.2.2.2.1),(bc [TI] t.2.2.2.2.2.2.2.2.2.1),(bc [TI] t.2.2.2.2.2.2.2.2.2.2.1),(bc [(.sl [TI])] t.2.2.2.2.2.2.2.2.2.2.2.1),(aL t.2.2.2.2.2.2.2.2.2.2.2.2.1),(bE t.2.2.2.2.2.2.2.2.2.2.2.2.2)]),[(.sl 108 QE .ow t.2.2.2.2.2.1)],[],true,[]⟩
def uL:aI:=Qg 61 [(.a Qe)] λx=>(some (Qs (α:=Qc) x.1),uK (id (α:=Qc) x.1))
def ME:aF:=⟨[KH,KK],false⟩
def QCH:af :=
 (ag [(ag [(.ae [ab 17 4,ak 18 1 5,an 19 18 1,a9 20 19,aw 21 .lss 17 20]),(.cond 21 .skip (.exit 0))]),(.block 1 (.draw [ak 24 3 5,an 25 24 1,ak 26 1 5,an 27 26 1,ab 28 4,aZ 29 27 28 QE,ak 30 29 0,an 31 30 1,ak 32 1 5,an 33 32 1,ab 34 4,aZ 35 33 34 QE,ak 36 35 1,an 37 36 1,aD 38 156 [37],aC 39 (.build (bG QE) [(0,1,31),(1,1,38)]),aC 40 (.bW 108 QE [39]),aC 41 (.app 25 40 108 QE),ak 42 3 5,aT 42 41 1] [(0,14),(1,14),(2,14),(3,14),(5,14),(6,14),(7,14),(0,16),(1,16)])),(.ae [ab 22 4,aw 23 .add 22 (ar 1),ab 4 23])])
def Qv8:List (Nat × Md):=[(1,.b (dH 14)),(2,.b (dH 14)),(3,.b [.d,.d,.d,.d,.d,.f,.d,.d,.d,.d,.d,.d,.d,.d]),(4,.one .d)]
def QBY:af :=
 (ag [(.ae [ak 43 1 6,an 44 43 1,aD 45 156 [44],ak 46 3 6,aT 46 45 1]),(.ae [aC 47 (.bW 3 [TI] []),ak 48 1 7,an 49 48 1,aC 50 (.app 47 49 3 [TI]),ak 51 3 7,aT 51 50 1]),(.ae [aC 52 (.bW 3 [TI] []),ak 53 1 8,an 54 53 1,aC 55 (.app 52 54 3 [TI]),ak 56 3 8,aT 56 55 1]),(.ae [aC 57 (.bW 3 [TI] []),ak 58 1 9,an 59 58 1,aC 60 (.app 57 59 3 [TI]),ak 61 3 9,aT 61 60 1]),(.ae [aC 62 (.bW 3 [TI] []),ak 63 1 10,an 64 63 1,aC 65 (.app 62 64 3 [TI]),ak 66 3 10,aT 66 65 1]),(.ae [ak 67 1 11,ak 68 67 0,an 69 68 1,aD 70 156 [69],ak 71 3 11,ak 72 71 0,aT 72 70 1]),(.ae [a7 73 3 14,aT 2 73 14]),.ret])
def QIX:af :=
 (ag [(.ae [aC 1 (.box 39 0 14),aC 2 (.new 39 (bG Qe))]),(.ae [a7 5 1 14,aC 3 (.new 39 (bG Qe)),aT 3 5 14]),(.ae [ak 6 1 2,an 7 6 1,aD 8 155 [7],ak 9 3 2,aT 9 8 1]),(.ae [aC 10 (.bW 175 QQ []),ak 11 1 1,an 12 11 1,aC 13 (.app 10 12 175 QQ),ak 14 3 1,aT 14 13 1]),(.ae [aC 15 (.bW 108 QE []),ak 16 3 5,aT 16 15 1]),(ag [(.ae [ab 4 (ar 0)]),(.block 0 (.loop Qv8 QCH))]),QBY])
def Qxc:List (bm × Md):=[(.l 2 14 true,.b [.d,.d,.d,.d,.d,.o 108,.d,.d,.d,.d,.d,.d,.d,.d])]
def Qrc:Qb:=TQ 0 0 Qxc K
def QTN:Qb:=aY (aN ME 0 QBY (Qrc K)) (Qrc K)
def QIb:Qb:=a6 0 (QTN K)
def CG(s:Qc)(i:Int)(x5:List QD):Prop:=Loop ME 0 Qv8 QCH (QIb K) ⟨[(1,(.p 0 0 0)),(2,(.p 1 0 0)),(3,(.p 3 0 0)),(4,(aL i))],[(0,(.box (aR.cells Qe s))),(1,(.box (aR.cells Qe ((0:Int),[],[],false,false,[],[],[],[],[],[],[],(0:Int),false)))),(2,(.sl 108 QE .ow x5)),(3,(.box [(aL s.1),(bc QQ (List.take (0+(s.2.1).length) (List.drop 0 (s.2.1:List bp)))),(bc aM (id (α:=List aH) s.2.2.1)),(bE s.2.2.2.1),(bE s.2.2.2.2.1),(.r QE 2 0 x5.length),(bc [(.sl [TI])] s.2.2.2.2.2.2.1),(bc [TI] s.2.2.2.2.2.2.2.1),(bc [TI] s.2.2.2.2.2.2.2.2.1),(bc [TI] s.2.2.2.2.2.2.2.2.2.1),(bc [TI] s.2.2.2.2.2.2.2.2.2.2.1),(bc [(.sl [TI])] s.2.2.2.2.2.2.2.2.2.2.2.1),(aL s.2.2.2.2.2.2.2.2.2.2.2.2.1),(bE s.2.2.2.2.2.2.2.2.2.2.2.2.2)]))],4⟩
theorem QEO(s:Qc)(i:Int)(x5:List QD) (h :
 (aJ (decide (i<((s.2.2.2.2.2.1).length:Int))) (((0<=i/\Int.toNat i<(s.2.2.2.2.2.1).length)/\((0<=i/\Int.toNat i<(s.2.2.2.2.2.1).length)/\((Qs (α:=List (List Int)) ((aq QT s.2.2.2.2.2.1 (Int.toNat i)).2))/\((x5.length=x5.length\/x5.length+1<=x5.length)/\x5.length+1<=cc))))/\(CG K s (aG (i+1)) (List.take (x5.length+1) ((List.take x5.length x5)++([((aq QT s.2.2.2.2.2.1 (Int.toNat i)).1,(id (α:=List (List Int)) ((aq QT s.2.2.2.2.2.1 (Int.toNat i)).2)))]))))) ((Qs (α:=List (List Int)) s.2.2.2.2.2.2.1)/\(((0=0\/0+(s.2.2.2.2.2.2.2.1).length<=0)/\0+(s.2.2.2.2.2.2.2.1).length<=cc)/\(((0=0\/0+(s.2.2.2.2.2.2.2.2.1).length<=0)/\0+(s.2.2.2.2.2.2.2.2.1).length<=cc)/\(((0=0\/0+(s.2.2.2.2.2.2.2.2.2.1).length<=0)/\0+(s.2.2.2.2.2.2.2.2.2.1).length<=cc)/\(((0=0\/0+(s.2.2.2.2.2.2.2.2.2.2.1).length<=0)/\0+(s.2.2.2.2.2.2.2.2.2.2.1).length<=cc)/\((Qs (α:=List (List Int)) s.2.2.2.2.2.2.2.2.2.2.2.1)/\K (uK (s.1,(List.take (0+(s.2.1).length) (List.drop 0 (s.2.1:List bp))),(id (α:=List aH) s.2.2.1),s.2.2.2.1,s.2.2.2.2.1,(List.take x5.length x5),(id (α:=List (List Int)) s.2.2.2.2.2.2.1),(List.take (0+(s.2.2.2.2.2.2.2.1).length) (List.drop 0 (s.2.2.2.2.2.2.2.1:List Int))),(List.take (0+(s.2.2.2.2.2.2.2.2.1).length) (List.drop 0 (s.2.2.2.2.2.2.2.2.1:List Int))),(List.take (0+(s.2.2.2.2.2.2.2.2.2.1).length) (List.drop 0 (s.2.2.2.2.2.2.2.2.2.1:List Int))),(List.take (0+(s.2.2.2.2.2.2.2.2.2.2.1).length) (List.drop 0 (s.2.2.2.2.2.2.2.2.2.2.1:List Int))),(id (α:=List (List Int)) s.2.2.2.2.2.2.2.2.2.2.2.1),s.2.2.2.2.2.2.2.2.2.2.2.2.1,s.2.2.2.2.2.2.2.2.2.2.2.2.2)))))))))):CG K s i x5 :=
 Loop.of h
theorem QMQ(s:Qc)(hp:Qs (α:=Qc) s):aK Tryz.prog 61 [(.a (aR.cells Qe s))] (uK (id (α:=Qc) s)):=by
 refine bw ME QIX Qxc 0 0 74 uL (kc QN4 (kc QYH kn)) (λK =>
 ((Qs (α:=List aH) s.2.2.1)/\(((0=0\/0+(s.2.1).length<=0)/\0+(s.2.1).length<=cc)/\(CG K s 0 ([]:List QD))))) (λhb=>?_)
 have il:Sz.sz s<=2147483648:=hp;have hs:=ZL s;have l1:=Yl (Qt s);have l2:=ZD (sX s);have l3:=ZD (sY s);have l4:=ZD (sG s);have l5:=ZD (sD s);simp only[id,List.drop_zero,List.take_length,true_or,true_and,Nat.zero_add];refine⟨by unfold Qs;((try simp only[bT,Qt,aE,Qn,Qp,Qj,QB,sX,sY,sG,sD,Qy,Qw,bf,QA,QC,Qq,Qr]at *);omega),by rw[Zf];((try simp only[bT,Qt,aE,Qn,Qp,Qj,QB,sX,sY,sG,sD,Qy,Qw,bf,QA,QC,Qq,Qr]at *);omega),?_⟩;refine YE (l:=s.2.2.2.2.2.1) (A:=λi v=>CG (λr'=>r'=uK (id (α:=Qc) s)) s i v) (Q:=λz=>uK (s.1,s.2.1,s.2.2.1,s.2.2.2.1,s.2.2.2.2.1,z,s.2.2.2.2.2.2)=uK (id (α:=Qc) s)) (by((try simp only[bT,Qt,aE,Qn,Qp,Qj,QB,sX,sY,sG,sD,Qy,Qw,bf,QA,QC,Qq,Qr]at *);omega)) (λk x v hk hl hg hv hx ih=>?_) (λhq=>?_) (au rfl)
 ·refine QEO _ _ _ _ ⟨λ_=>?_,λh=>by simp at h;omega⟩;simp only[QR,QL]at hx;rw[Int.toNat_natCast,hg,dM (by omega),Q9];exact⟨⟨⟨by omega,hk⟩,⟨by omega,hk⟩,by unfold Qs;omega,room (by omega)⟩,ih⟩
 ·refine QEO _ _ _ _ ⟨λh=>by simp at h,λ_=>?_⟩;simp only[id,List.drop_zero,List.take_length,true_or,true_and,Nat.zero_add];exact⟨by unfold Qs;((try simp only[bT,Qt,aE,Qn,Qp,Qj,QB,sX,sY,sG,sD,Qy,Qw,bf,QA,QC,Qq,Qr]at *);omega),by rw[Zf];((try simp only[bT,Qt,aE,Qn,Qp,Qj,QB,sX,sY,sG,sD,Qy,Qw,bf,QA,QC,Qq,Qr]at *);omega),by rw[Zf];((try simp only[bT,Qt,aE,Qn,Qp,Qj,QB,sX,sY,sG,sD,Qy,Qw,bf,QA,QC,Qq,Qr]at *);omega),by rw[Zf];((try simp only[bT,Qt,aE,Qn,Qp,Qj,QB,sX,sY,sG,sD,Qy,Qw,bf,QA,QC,Qq,Qr]at *);omega),by rw[Zf];((try simp only[bT,Qt,aE,Qn,Qp,Qj,QB,sX,sY,sG,sD,Qy,Qw,bf,QA,QC,Qq,Qr]at *);omega),by unfold Qs;((try simp only[bT,Qt,aE,Qn,Qp,Qj,QB,sX,sY,sG,sD,Qy,Qw,bf,QA,QC,Qq,Qr]at *);omega),by first | exact hq | trivial⟩
theorem CH:Qf Tryz.prog uL:=Qi λx h=>QMQ x.1 h
def pz(t:Qc):aB:=⟨(.a [(aL t.1),(.r QQ 0 0 ((t.2.1).length)),(.r aM 1 0 ((t.2.2.1).length)),(bE t.2.2.2.1),(bE t.2.2.2.2.1),(.r QE 2 0 ((t.2.2.2.2.2.1).length)),(.r [(.sl [TI])] 3 0 ((t.2.2.2.2.2.2.1).length)),(.r [TI] 4 0 ((t.2.2.2.2.2.2.2.1).length)),(.r [TI] 5 0 ((t.2.2.2.2.2.2.2.2.1).length)),(.r [TI] 6 0 ((t.2.2.2.2.2.2.2.2.2.1).length)),(.r [TI] 7 0 ((t.2.2.2.2.2.2.2.2.2.2.1).length)),(.r [(.sl [TI])] 8 0 ((t.2.2.2.2.2.2.2.2.2.2.2.1).length)),(aL t.2.2.2.2.2.2.2.2.2.2.2.2.1),(bE t.2.2.2.2.2.2.2.2.2.2.2.2.2)]),[(.sl 175 QQ (.dp 0 true []) t.2.1),(.sl 134 aM (.dp 0 true []) t.2.2.1),(.sl 108 QE (.dp 0 true []) t.2.2.2.2.2.1),(.sl 106 [(.sl [TI])] (.dp 0 true []) t.2.2.2.2.2.2.1),(.sl 3 [TI] (.dp 0 true []) t.2.2.2.2.2.2.2.1),(.sl 3 [TI] (.dp 0 true []) t.2.2.2.2.2.2.2.2.1),(.sl 3 [TI] (.dp 0 true []) t.2.2.2.2.2.2.2.2.2.1),(.sl 3 [TI] (.dp 0 true []) t.2.2.2.2.2.2.2.2.2.2.1),(.sl 106 [(.sl [TI])] (.dp 0 true []) t.2.2.2.2.2.2.2.2.2.2.2.1)],[],false,[]⟩
def MF:aI:=Qg 30 [(.a Qe),(.c TI),(.c (.sl [TI])),(.c (.sl [TI]))] λx=>(some (JX x.1 x.2.1 x.2.2.1 x.2.2.2.1),pz (ZZ x.1 x.2.1 x.2.2.1 x.2.2.2.1))
def QR3:aF:=⟨[uJ,uj,uq,xQ,Ju,yh,xR,Co,x4,JG,L7,ui],true⟩
def QHc:af :=
 (ag [(.ae [aC 4 (.box 39 0 14),aC 8 (.new 39 (bG Qe))]),(.ae [a7 19 4 14,aD 20 70 [19],aC 9 (.new 39 (bG Qe)),aT 9 20 14]),(.ae [a7 21 4 14,aD 22 74 [21],aC 10 (.new 77 [(.n aM)]),aT 10 22 1]),(ag [(.ae [a7 23 4 14,aD 24 72 [23],bL 25 24,ab 26 25,.bt 26 false [ab 27 2,a7 28 10 1,aD 29 101 [28],aD 30 100 [27,29],bL 31 30] 32 31,ab 33 32,.bt 33 false [ak 34 4 5,an 35 34 1,ab 36 1,aD 37 71 [35,36],aw 38 .geq 37 (ar 0)] 39 38]),(.cond 39 (ag [(.ae [a7 40 9 14,aT 8 40 14]),.ret]) .skip)]),(ag [(.ae [ak 41 4 3,an 42 41 1,ab 43 42,.bt 43 true [ab 44 3,a7 45 10 1,aD 46 102 [45],aD 47 100 [44,46],bL 48 47] 49 48]),(.cond 49 (ag [(.ae [a7 50 9 14,aT 8 50 14]),.ret]) .skip)]),(.ae [a7 52 10 1,ab 53 2,aD 54 73 [52,53],ab 51 54,bF 55 51 0,bF 56 51 1,ab 11 55,ab 12 56]),(.ae [ab 57 11,ak 58 4 2,an 59 58 1,a9 60 59,aZ 61 57 60 [(.sl [TI])],ak 62 61 0,an 63 62 1,ab 13 63]),(.ae [ab 64 11,ab 14 64]),(ag [(.ae [ak 65 4 4,an 66 65 1]),(.cond 66 (.ae [ab 67 11,aC 68 (.fx 67 none (some (ar 1)) [(.sl [TI])]),ab 14 68]) .skip)]),(.draw [ak 69 9 5,an 70 69 1,ab 71 1,ab 72 14,aD 73 103 [72],aC 74 (.build (bG QE) [(0,1,71),(1,1,73)]),aC 75 (.bW 108 QE [74]),aC 76 (.app 70 75 108 QE),ak 77 9 5,aT 77 76 1] [(0,4),(1,4),(0,6),(1,6)]),(.ae [ak 78 9 7,aT 78 (.k (.n [TI])) 1]),(.ae [ak 79 9 11,ak 80 79 2,an 81 80 1,ab 82 81,.bt 82 false [ab 83 12] 84 83,ak 85 9 11,ak 86 85 2,aT 86 84 1]),(ag [(.ae [ak 87 4 3,an 88 87 1,bL 89 88]),(.cond 89 (ag [(.ae [ab 90 13,aD 91 104 [90],ak 92 9 8,aT 92 91 1]),(.ae [a7 93 9 14,aT 8 93 14]),.ret]) .skip)]),(.ae [ab 95 13,ab 96 3,aD 97 105 [95,96],ab 94 97,bF 98 94 0,bF 99 94 1,ab 15 98,ab 16 99]),(.ae [ak 101 9 11,ak 102 101 1,an 103 102 1,ab 104 15,aD 105 106 [103,104],ab 100 105,bF 106 100 0,bF 107 100 1,ab 17 106,ab 18 107]),(.ae [ab 108 17,ak 109 9 11,ak 110 109 1,aT 110 108 1]),(.ae [ak 111 9 11,ak 112 111 2,an 113 112 1,ab 114 113,.bt 114 false [ab 115 16] 116 115,ab 117 116,.bt 117 false [ab 118 18] 119 118,ak 120 9 11,ak 121 120 2,aT 121 119 1]),(.ae [a7 122 9 14,aT 8 122 14]),.ret])
def QGs:List (bm × Md):=[(.l 8 14 true,.b [.d,.p 175,.p 134,.d,.d,.p 108,.p 106,.p 3,.p 3,.p 3,.p 3,.p 106,.d,.d])]
theorem QPF(s:Qc)(m:Int)(x:List Int)(t:List Int)(hp:JX s m x t):aK Tryz.prog 30 [(.a (aR.cells Qe s)),(.c TI m),(.c (.sl [TI]) x),(.c (.sl [TI]) t)] (pz (ZZ s m x t)):=by
 refine bw QR3 QHc QGs 0 0 123 MF (kc CF (kc Bk (kc Br (kc Ka (kc JU (kc Lb (kc Kb (kc Qrj (kc KB (kc nT (kc QJe (kc Bc kn)))))))))))) (λK =>
 let z1:=id (α:=Qc) s
 let z3:=JK (Zm s) x
 let z2:=aq ([]:List Int) (z3.1) (0+(Int.toNat ((s.2.2.1).length:Int)))
 let z4:=List.take ((z1.2.2.2.2.2.2.2.2.2.2.2.1).length) (z1.2.2.2.2.2.2.2.2.2.2.2.1)
 let z5:=List.take ((z1.2.2.2.2.2.2.2.2.2.2.1).length) (z1.2.2.2.2.2.2.2.2.2.2.1)
 let z6:=List.take ((z1.2.2.2.2.2.2.2.2.2.1).length) (z1.2.2.2.2.2.2.2.2.2.1)
 let z8:=List.take ((z1.2.2.2.2.2.2.1).length) (z1.2.2.2.2.2.2.1)
 let z9:=List.take ((z1.2.2.2.2.2.1).length) (z1.2.2.2.2.2.1)
 let eX:=List.take ((z1.2.2.1).length) (z1.2.2.1)
 let dR:=List.take ((z1.2.2.2.2.2.2.2.2.1).length) (z1.2.2.2.2.2.2.2.2.1)
 let fS:=List.take ((z1.2.1).length) (z1.2.1)
 let f4:=Q5 (z1.2.2.2.2.2.2.2.2.2.2.2.2.1) ((Z9 z2 t).1)
 let gz:=List.take (Int.toNat 1-Int.toNat 0) (List.drop 0 (z3.1))
 let z7:=id (α:=List (List Int)) gz
 let gV:=List.take ((id (α:=List Int) z2).length) (id (α:=List Int) z2)
 let kU:=List.take ((z1.2.2.2.2.2.2.2.1).length) (z1.2.2.2.2.2.2.2.1)
 let kV:=List.take ((z3.1).length) (List.drop 0 (z3.1))
 let eY:=id (α:=List (List Int)) kV
 ((Qs (α:=Qc) s)/\(aJ (((!(QU s))||(!(QH x (ZM (Zm s)))))||(decide ((QJ s.2.2.2.2.2.1 m)>=0))) (K (pz (z1.1,fS,eX,z1.2.2.2.1,z1.2.2.2.2.1,z9,z8,kU,dR,z6,z5,z4,z1.2.2.2.2.2.2.2.2.2.2.2.2.1,z1.2.2.2.2.2.2.2.2.2.2.2.2.2))) (aJ (s.2.2.2.1&&(!(QH t (Zu (Zm s))))) (K (pz (z1.1,fS,eX,z1.2.2.2.1,z1.2.2.2.2.1,z9,z8,kU,dR,z6,z5,z4,z1.2.2.2.2.2.2.2.2.2.2.2.2.1,z1.2.2.2.2.2.2.2.2.2.2.2.2.2))) (((0<=((s.2.2.1).length:Int)/\Int.toNat ((s.2.2.1).length:Int)<(z3.1).length)/\((0+(Int.toNat ((s.2.2.1).length:Int)))<(z3.1).length))/\(aJ s.2.2.2.2.1 (((0:Int)<=0/\(0:Int)<=1/\1<=(((z3.1).length:Nat):Int))/\(((Qs (α:=List (List Int)) gz)/\(((z1.2.2.2.2.2.1).length=(z1.2.2.2.2.2.1).length\/(z1.2.2.2.2.2.1).length+1<=(z1.2.2.2.2.2.1).length)/\(z1.2.2.2.2.2.1).length+1<=cc))/\(aJ (!s.2.2.2.1) ((Qs (α:=List Int) z2)/\K (pz (z1.1,fS,eX,z1.2.2.2.1,z1.2.2.2.2.1,(List.take ((z1.2.2.2.2.2.1).length+1) (z9++([(m,(List.take (z7.length) (List.drop 0 z7)))]))),z8,([]:List Int),gV,z6,z5,z4,z1.2.2.2.2.2.2.2.2.2.2.2.2.1,((z1.2.2.2.2.2.2.2.2.2.2.2.2.2)||(z3.2))))) (K (pz (z1.1,fS,eX,z1.2.2.2.1,z1.2.2.2.2.1,(List.take ((z1.2.2.2.2.2.1).length+1) (z9++([(m,(List.take (z7.length) (List.drop 0 z7)))]))),z8,([]:List Int),dR,z6,z5,z4,f4.1,((((z1.2.2.2.2.2.2.2.2.2.2.2.2.2)||(z3.2))||((Z9 z2 t).2))||(f4.2)))))))) (((Qs (α:=List (List Int)) kV)/\(((z1.2.2.2.2.2.1).length=(z1.2.2.2.2.2.1).length\/(z1.2.2.2.2.2.1).length+1<=(z1.2.2.2.2.2.1).length)/\(z1.2.2.2.2.2.1).length+1<=cc))/\(aJ (!s.2.2.2.1) ((Qs (α:=List Int) z2)/\K (pz (z1.1,fS,eX,z1.2.2.2.1,z1.2.2.2.2.1,(List.take ((z1.2.2.2.2.2.1).length+1) (z9++([(m,(List.take (eY.length) (List.drop 0 eY)))]))),z8,([]:List Int),gV,z6,z5,z4,z1.2.2.2.2.2.2.2.2.2.2.2.2.1,((z1.2.2.2.2.2.2.2.2.2.2.2.2.2)||(z3.2))))) (K (pz (z1.1,fS,eX,z1.2.2.2.1,z1.2.2.2.2.1,(List.take ((z1.2.2.2.2.2.1).length+1) (z9++([(m,(List.take (eY.length) (List.drop 0 eY)))]))),z8,([]:List Int),dR,z6,z5,z4,f4.1,((((z1.2.2.2.2.2.2.2.2.2.2.2.2.2)||(z3.2))||((Z9 z2 t).2))||(f4.2))))))))))))) (λhb=>?_)
 conv=>zeta
 have il:Sz.sz s<=2147483648:=hp;have hs:=ZL s;have l1:=Yl (Qj s);have e:=QEt s m x t;simp only[id,List.drop_zero,List.take_length,true_or,true_and,Nat.zero_add,Int.toNat_natCast];refine⟨hp,λh=>au ?_,λh=>⟨λh2=>au ?_,λh2=>?_⟩⟩
 ·rw[h]at e;rw[MA (by rw[e];simp)]
 ·rw[h2]at e;rw[MA (by rw[e];simp)]
 rw[h,h2]at e;have e:Y7 s m x t=true:=by simpa using e
 have e2:=e;simp only[Y7,Bool.and_eq_true]at e2;have hm:=YZ e2.1.1.1;have cX:=Yv hm;have ei:JK (Zm s) x=QV (aE s) x:=GJ hm e2.1.1.2;have tG:=Gy (aE s) x;have hx6:=Jc e2.1.1.2;have bV:=yC (aE s) x;have db:=QyP e;have oE:=n8 [] (QV (aE s) x).1 (aE s).length;have e0:Sz.sz ([]:List Int)=0:=rfl;have t10:Int.toNat 1-Int.toNat 0=1:=rfl;rw[ei];simp only[t10,Q9,List.drop_zero,List.take_length];refine⟨⟨by((try simp only[bT,Qt,aE,Qn,Qp,Qj,QB,sX,sY,sG,sD,Qy,Qw,bf,QA,QC,Qq,Qr]at *);omega),by((try simp only[bT,Qt,aE,Qn,Qp,Qj,QB,sX,sY,sG,sD,Qy,Qw,bf,QA,QC,Qq,Qr]at *);omega)⟩,λhr=>⟨by((try simp only[bT,Qt,aE,Qn,Qp,Qj,QB,sX,sY,sG,sD,Qy,Qw,bf,QA,QC,Qq,Qr]at *);omega),?_⟩,λhr=>?_⟩
 ·have zD:Sz.sz ((QV (aE s) x).1.take 1)<=Sz.sz (QV (aE s) x).1:=by
   first
    | exact Gh _ _
    | exact Nat.le_refl _
  rw[if_pos (show Qp s=true from hr)]at db;refine⟨⟨by unfold Qs;((try simp only[bT,Qt,aE,Qn,Qp,Qj,QB,sX,sY,sG,sD,Qy,Qw,bf,QA,QC,Qq,Qr]at *);omega),by rw[Zf];((try simp only[bT,Qt,aE,Qn,Qp,Qj,QB,sX,sY,sG,sD,Qy,Qw,bf,QA,QC,Qq,Qr]at *);omega)⟩,λhl=>⟨by unfold Qs;((try simp only[bT,Qt,aE,Qn,Qp,Qj,QB,sX,sY,sG,sD,Qy,Qw,bf,QA,QC,Qq,Qr]at *);omega),au ?_⟩,λhl=>au ?_⟩
  ·have hl:s.2.2.2.1=false:=by simpa using hl
   rw[db];simp only[Qn,hl];simp[List.take_of_length_le]
  ·have hl:s.2.2.2.1=true:=by simpa using hl
   rw[db];simp only[Qn,hl];simp[Bool.or_assoc,List.take_of_length_le]
 ·have zD:Sz.sz ((QV (aE s) x).1)<=Sz.sz (QV (aE s) x).1:=by
   first
    | exact Gh _ _
    | exact Nat.le_refl _
  rw[if_neg (by rw[show Qp s=false from hr];simp)]at db;refine⟨⟨by unfold Qs;((try simp only[bT,Qt,aE,Qn,Qp,Qj,QB,sX,sY,sG,sD,Qy,Qw,bf,QA,QC,Qq,Qr]at *);omega),by rw[Zf];((try simp only[bT,Qt,aE,Qn,Qp,Qj,QB,sX,sY,sG,sD,Qy,Qw,bf,QA,QC,Qq,Qr]at *);omega)⟩,λhl=>⟨by unfold Qs;((try simp only[bT,Qt,aE,Qn,Qp,Qj,QB,sX,sY,sG,sD,Qy,Qw,bf,QA,QC,Qq,Qr]at *);omega),au ?_⟩,λhl=>au ?_⟩
  ·have hl:s.2.2.2.1=false:=by simpa using hl
   rw[db];simp only[Qn,hl];simp[List.take_of_length_le]
  ·have hl:s.2.2.2.1=true:=by simpa using hl
   rw[db];simp only[Qn,hl];simp[Bool.or_assoc,List.take_of_length_le]
theorem QPj:Qf Tryz.prog MF:=Qi λx h=>QPF x.1 x.2.1 x.2.2.1 x.2.2.2.1 h
def uM(t:Qc):aB:=fQ (.a (aR.cells Qe t))
def MG:aI:=Qg 28 [(.a Qe),(.c TI),(.c (.sl [TI])),(.c (.sl [TI]))] λx=>(some (JX x.1 x.2.1 x.2.2.1 x.2.2.2.1),uM (ZZ x.1 x.2.1 x.2.2.1 x.2.2.2.1))
def MH:aF:=⟨[uL,ur,Yy,yf,Cr,L9,sm],false⟩
def QDg:af :=
 (ag [(.ae [ak 130 9 5,an 131 130 1,ab 132 1,ab 133 10,aC 134 (.build (bG QE) [(0,1,132),(1,1,133)]),aC 135 (.bW 108 QE [134]),aC 136 (.app 131 135 108 QE),ak 137 9 5,aT 137 136 1]),(.ae [a7 138 9 14,aT 8 138 14]),.ret])
def QOz:List (Nat × Md):=[(1,.one .d),(8,.b (dH 14)),(9,.b [.d,.d,.d,.d,.d,.f,.d,.d,.d,.d,.d,.d,.d,.d]),(10,.one .d)]
def QGz:af:=.wk QOz QDg
def QB9:af :=
 (ag [(ag [(.ae [ak 126 4 4,an 127 126 1]),(.cond 127 (.ae [ab 128 10,aC 129 (.fx 128 none (some (ar 1)) [(.sl [TI])]),ab 10 129]) .skip)]),QGz])
def QQ0:List (Nat × Md):=[(1,.one .d),(4,.b (dH 14)),(8,.b (dH 14)),(9,.b [.d,.d,.d,.d,.d,.f,.d,.d,.d,.d,.d,.d,.d,.d]),(10,.one .d)]
def QJX:af:=.wk QQ0 QB9
def QO8:af :=
 (ag [(.ae [aC 4 (.box 39 0 14),aC 8 (.new 39 (bG Qe))]),(.ae [a7 17 4 14,aD 18 61 [17],aC 9 (.new 39 (bG Qe)),aT 9 18 14]),(ag [(.ae [a7 19 4 14,aD 20 63 [19],bL 21 20,ab 22 21,.bt 22 false [ab 23 2,aD 24 97 [23],bL 25 24] 26 25,ab 27 26,.bt 27 false [ab 28 2,a9 29 28,ak 30 4 2,an 31 30 1,aZ 32 31 (ar 0) aM,ak 33 32 1,an 34 33 1,aw 35 .neq 29 34] 36 35,ab 37 36,.bt 37 false [ak 38 4 5,an 39 38 1,ab 40 1,aD 41 62 [39,40],aw 42 .geq 41 (ar 0)] 43 42,ab 44 43,.bt 44 false [ak 45 4 3,an 46 45 1,ab 47 46,.bt 47 true [ab 48 3,aD 49 97 [48],bL 50 49,ab 51 50,.bt 51 false [ab 52 3,a9 53 52,ak 54 4 2,an 55 54 1,ak 56 4 2,an 57 56 1,a9 58 57,aw 59 .sub 58 (ar 1),aZ 60 55 59 aM,ak 61 60 2,an 62 61 1,aw 63 .neq 53 62] 64 63] 65 64] 66 65]),(.cond 66 (ag [(.ae [a7 67 9 14,aT 8 67 14]),.ret]) .skip)]),(.ae [ak 69 4 2,an 70 69 1,ab 71 2,aD 72 64 [70,71],ab 68 72,bF 73 68 0,bF 74 68 1,ab 10 73,ab 11 74]),(.ae [ab 75 10,ab 76 10,a9 77 76,aw 78 .sub 77 (ar 1),aZ 79 75 78 [(.sl [TI])],ak 80 79 0,an 81 80 1,ab 12 81]),(.ae [aC 82 (.bW 3 [TI] []),ak 83 9 7,aT 83 82 1]),(.ae [ak 84 4 11,ak 85 84 2,an 86 85 1,ab 87 86,.bt 87 false [ab 88 11] 89 88,ak 90 9 11,ak 91 90 2,aT 91 89 1]),(ag [(.ae [ak 92 4 3,an 93 92 1]),(.cond 93 (ag [(.ae [ab 95 12,ab 96 3,aD 97 98 [95,96],ab 94 97,bF 98 94 0,bF 99 94 1,ab 13 98,ab 14 99]),(.ae [ak 101 4 11,ak 102 101 1,an 103 102 1,ab 104 13,aD 105 99 [103,104],ab 100 105,bF 106 100 0,bF 107 100 1,ab 15 106,ab 16 107]),(.ae [ab 108 15,ak 109 9 11,ak 110 109 1,aT 110 108 1]),(.ae [ak 111 9 11,ak 112 111 2,an 113 112 1,ab 114 113,.bt 114 false [ab 115 14] 116 115,ab 117 116,.bt 117 false [ab 118 16] 119 118,ak 120 9 11,ak 121 120 2,aT 121 119 1])]) (.ae [aC 122 (.bW 3 [TI] []),ab 123 12,aC 124 (.app 122 123 3 [TI]),ak 125 9 8,aT 125 124 1]))]),QJX])
def QDX:List (bm × Md):=[(.l 8 14 true,.b (dH 14))]
def QC3:Qb:=TQ 0 0 QDX K
@[irreducible] def CI(s:Qc)(m:Int)(y8:List Int)(jT:Int)(jU:Bool)(r:List (List Int)):Prop:=let z1:=id (α:=Qc) s
 let z2:=List.take ((z1.2.2.2.2.2.1).length) (z1.2.2.2.2.2.1)
 aN MH 0 QDg (QC3 K) ⟨[(1,(aL m)),(8,(.p 0 0 0)),(9,(.p 2 0 0)),(10,(bc [(.sl [TI])] r))],[(0,(.box (aR.cells Qe ((0:Int),[],[],false,false,[],[],[],[],[],[],[],(0:Int),false)))),(1,(.sl 108 QE .ow (List.take (z2.length) z2))),(2,(.box [(aL (z1.1)),(bc QQ (z1.2.1)),(bc aM (z1.2.2.1)),(bE (z1.2.2.2.1)),(bE (z1.2.2.2.2.1)),(.r QE 1 0 ((List.take (z2.length) z2).length)),(bc [(.sl [TI])] (z1.2.2.2.2.2.2.1)),(bc [TI] ([]:List Int)),(bc [TI] y8),(bc [TI] (z1.2.2.2.2.2.2.2.2.2.1)),(bc [TI] (z1.2.2.2.2.2.2.2.2.2.2.1)),(bc [(.sl [TI])] (z1.2.2.2.2.2.2.2.2.2.2.2.1)),(aL jT),(bE jU)]))],3⟩
@[irreducible] def CJ(s:Qc)(m:Int)(x:List Int)(y8:List Int)(jT:Int)(jU:Bool):Prop:=let z1:=id (α:=Qc) s
 let z2:=List.take ((z1.2.2.2.2.2.1).length) (z1.2.2.2.2.2.1)
 aN MH 0 QB9 (QC3 K) ⟨[(1,(aL m)),(4,(.p 0 0 0)),(8,(.p 1 0 0)),(9,(.p 3 0 0)),(10,(bc [(.sl [TI])] ((QV s.2.2.1 x).1)))],[(0,(.box (aR.cells Qe s))),(1,(.box (aR.cells Qe ((0:Int),[],[],false,false,[],[],[],[],[],[],[],(0:Int),false)))),(2,(.sl 108 QE .ow z2)),(3,(.box [(aL (z1.1)),(bc QQ (z1.2.1)),(bc aM (z1.2.2.1)),(bE (z1.2.2.2.1)),(bE (z1.2.2.2.2.1)),(.r QE 2 0 (z2.length)),(bc [(.sl [TI])] (z1.2.2.2.2.2.2.1)),(bc [TI] ([]:List Int)),(bc [TI] y8),(bc [TI] (z1.2.2.2.2.2.2.2.2.2.1)),(bc [TI] (z1.2.2.2.2.2.2.2.2.2.2.1)),(bc [(.sl [TI])] (z1.2.2.2.2.2.2.2.2.2.2.2.1)),(aL jT),(bE jU)]))],4⟩
theorem QQ9(s:Qc)(m:Int)(y8:List Int)(jT:Int)(jU:Bool)(r:List (List Int)) (h :
 let z2:=id (α:=Qc) s
 let z3:=List.take ((z2.2.2.2.2.2.1).length) (z2.2.2.2.2.2.1)
 let z1:=List.take (z3.length) z3
 (((z1.length=z1.length\/z1.length+1<=z1.length)/\z1.length+1<=cc)/\K (uM (z2.1,z2.2.1,z2.2.2.1,z2.2.2.2.1,z2.2.2.2.2.1,(List.take (z1.length+1) (List.drop 0 ((List.take (z1.length) z1)++([(m,r)])))),z2.2.2.2.2.2.2.1,([]:List Int),y8,z2.2.2.2.2.2.2.2.2.2.1,z2.2.2.2.2.2.2.2.2.2.2.1,z2.2.2.2.2.2.2.2.2.2.2.2.1,jT,jU)))):du (CI K s m y8 jT jU r) :=
 du.of h
theorem QHj(s:Qc)(m:Int)(x:List Int)(y8:List Int)(jT:Int)(jU:Bool) (h :
 (aJ s.2.2.2.2.1 (((0:Int)<=0/\(0:Int)<=1/\1<=(((QV s.2.2.1 x).1).length:Int))/\(CI K s m y8 jT jU (List.take (Int.toNat 1-Int.toNat 0) (List.drop (Int.toNat 0) ((QV s.2.2.1 x).1))))) (CI K s m y8 jT jU ((QV s.2.2.1 x).1)))):du (CJ K s m x y8 jT jU) :=
 du.of h
theorem QI3(s:Qc)(m:Int)(x:List Int)(t:List Int)(hp:JX s m x t):aK Tryz.prog 28 [(.a (aR.cells Qe s)),(.c TI m),(.c (.sl [TI]) x),(.c (.sl [TI]) t)] (uM (ZZ s m x t)):=by
 refine bw MH QO8 QDX 0 0 139 MG (kc CH (kc Bw (kc YL (kc K9 (kc QBr (kc QHY (kc xV kn))))))) (λK =>
 let z2:=id (α:=Qc) s
 let z3:=QV s.2.2.1 x
 let z1:=aq ([]:List Int) (z3.1) (Int.toNat (aG (((z3.1).length:Int)-1)))
 let z4:=Q5 s.2.2.2.2.2.2.2.2.2.2.2.2.1 ((Z9 z1 t).1)
 let z5:=aG (((s.2.2.1).length:Int)-1)
 ((Qs (α:=Qc) s)/\((((!((!(QU s))||(!(QK x))))=true->((0:Int)<=0/\Int.toNat 0<(s.2.2.1).length))/\((!((((!(QU s))||(!(QK x)))||((x.length:Int) != ((aq b6 s.2.2.1 (Int.toNat 0)).2.1)))||(decide ((QJ s.2.2.2.2.2.1 m)>=0))))=true->(s.2.2.2.1=true->((!(!(QK t)))=true->(0<=aG (((s.2.2.1).length:Int)-1)/\Int.toNat z5<(s.2.2.1).length)))))/\(aJ (((((!(QU s))||(!(QK x)))||((x.length:Int) != ((aq b6 s.2.2.1 (Int.toNat 0)).2.1)))||(decide ((QJ s.2.2.2.2.2.1 m)>=0)))||(s.2.2.2.1&&((!(QK t))||((t.length:Int) != ((aq b6 s.2.2.1 (Int.toNat z5)).2.2.1))))) (K (uM (z2.1,z2.2.1,z2.2.2.1,z2.2.2.2.1,z2.2.2.2.2.1,(List.take ((z2.2.2.2.2.2.1).length) (List.drop 0 (z2.2.2.2.2.2.1))),z2.2.2.2.2.2.2.1,z2.2.2.2.2.2.2.2.1,z2.2.2.2.2.2.2.2.2.1,z2.2.2.2.2.2.2.2.2.2.1,z2.2.2.2.2.2.2.2.2.2.2.1,z2.2.2.2.2.2.2.2.2.2.2.2.1,z2.2.2.2.2.2.2.2.2.2.2.2.2.1,z2.2.2.2.2.2.2.2.2.2.2.2.2.2))) ((Az s.2.2.1 x)/\((0<=aG (((z3.1).length:Int)-1)/\Int.toNat (aG (((z3.1).length:Int)-1))<(z3.1).length)/\(aJ s.2.2.2.1 (CJ K s m x (z2.2.2.2.2.2.2.2.2.1) (z4.1) (((s.2.2.2.2.2.2.2.2.2.2.2.2.2||(z3.2))||((Z9 z1 t).2))||(z4.2))) (((0=0\/0+z1.length<=0)/\0+z1.length<=cc)/\(CJ K s m x (List.take (0+z1.length) (List.drop 0 z1)) (z2.2.2.2.2.2.2.2.2.2.2.2.2.1) (s.2.2.2.2.2.2.2.2.2.2.2.2.2||(z3.2))))))))))) (λhb=>?_)
 conv=>zeta
 have il:Sz.sz s<=2147483648:=hp;have hs:=ZL s;have l1:=Yl (Qj s);simp only[id,List.drop_zero,List.take_length,true_or,true_and,Nat.zero_add];have ot:QU s=true->Int.toNat (aG ((s.2.2.1.length:Int)-1))=s.2.2.1.length-1/\0<=aG ((s.2.2.1.length:Int)-1)/\1<=s.2.2.1.length:=by
  intro h;have:=Yv (YZ h);rw[QG (by((try simp only[bT,Qt,aE,Qn,Qp,Qj,QB,sX,sY,sG,sD,Qy,Qw,bf,QA,QC,Qq,Qr]at *);omega)) (by((try simp only[bT,Qt,aE,Qn,Qp,Qj,QB,sX,sY,sG,sD,Qy,Qw,bf,QA,QC,Qq,Qr]at *);omega))];((try simp only[bT,Qt,aE,Qn,Qp,Qj,QB,sX,sY,sG,sD,Qy,Qw,bf,QA,QC,Qq,Qr]at *);omega)
 have e:=QKp s m x t (Int.toNat (aG ((s.2.2.1.length:Int)-1))) (λh=>(ot h).1);have hb:∀ {b x:Bool},(!((!b)||x))=true->b=true:=by intro b x h;cases b <;> simp_all
 refine⟨hp,⟨λh=>⟨by omega,?_⟩,λh _ _=>?_⟩,λh=>au ?_,λh=>?_⟩
 ·have:=ot (hb h);simp;((try simp only[bT,Qt,aE,Qn,Qp,Qj,QB,sX,sY,sG,sD,Qy,Qw,bf,QA,QC,Qq,Qr]at *);omega)
 ·have h:QU s=true:=by
   cases hh:QU s
   ·rw[hh]at h;simp at h
   ·rfl
  have:=ot h;exact⟨this.2.1,by((try simp only[bT,Qt,aE,Qn,Qp,Qj,QB,sX,sY,sG,sD,Qy,Qw,bf,QA,QC,Qq,Qr]at *);omega)⟩
 ·have e:(!Y7 s m x t)=true:=e ▸ h;simp only[Bool.not_eq_true']at e;rw[MA (by rw[e];simp)]
 have e:(!Y7 s m x t)=false:=e ▸ h;have e:Y7 s m x t=true:=by simpa using e
 have e2:=e;simp only[Y7,Bool.and_eq_true]at e2;have hm:=YZ e2.1.1.1;have cX:=Yv hm;have tG:=Gy (aE s) x;have hx6:=Jc e2.1.1.2;have bV:=yC (aE s) x;have db:=QyP e;have hw:aG (((QV (aE s) x).1.length:Int)-1)=((aE s).length:Nat):=by rw[tG,QG (by((try simp only[bT,Qt,aE,Qn,Qp,Qj,QB,sX,sY,sG,sD,Qy,Qw,bf,QA,QC,Qq,Qr]at *);omega)) (by((try simp only[bT,Qt,aE,Qn,Qp,Qj,QB,sX,sY,sG,sD,Qy,Qw,bf,QA,QC,Qq,Qr]at *);omega))];((try simp only[bT,Qt,aE,Qn,Qp,Qj,QB,sX,sY,sG,sD,Qy,Qw,bf,QA,QC,Qq,Qr]at *);omega)
 have oE:=n8 [] (QV (aE s) x).1 (aE s).length;have hgi:=ZD (aq [] (QV (aE s) x).1 (aE s).length);have e0:Sz.sz ([]:List Int)=0:=rfl;have k1:∀ y8 jT jU,y8=(if Qn s then sY s else aq [] (QV (aE s) x).1 (aE s).length)->
   jT=(if Qn s then(Q5 (Qw s) (Z9 (aq [] (QV (aE s) x).1 (aE s).length) t).1).1 else Qw s)->
   jU=(bf s||(QV (aE s) x).2||(Qn s&&((Z9 (aq [] (QV (aE s) x).1 (aE s).length) t).2||(Q5 (Qw s) (Z9 (aq [] (QV (aE s) x).1 (aE s).length) t).1).2)))->CJ (λr'=>r'=uM (ZZ s m x t)) s m x y8 jT jU:=by
  intro y8 jT jU h1 h2 h3;have k2:∀ r,r=(if Qp s then(QV (aE s) x).1.take 1 else(QV (aE s) x).1)->CI (λr'=>r'=uM (ZZ s m x t)) s m y8 jT jU r:=by
   intro r hr;refine(QQ9 _ _ _ _ _ _ _ ?_).h
   conv=>zeta
   simp only[id,List.drop_zero,List.take_length,true_or,true_and,Nat.zero_add,Q9];refine⟨by rw[Zf];((try simp only[bT,Qt,aE,Qn,Qp,Qj,QB,sX,sY,sG,sD,Qy,Qw,bf,QA,QC,Qq,Qr]at *);omega),au ?_⟩;rw[db,<- hr,<- h1,<- h2,<- h3];simp[List.take_of_length_le]
  refine(QHj _ _ _ _ _ _ _ ⟨λhr=>⟨by((try simp only[bT,Qt,aE,Qn,Qp,Qj,QB,sX,sY,sG,sD,Qy,Qw,bf,QA,QC,Qq,Qr]at *);omega),k2 _ ?_⟩,λhr=>k2 _ ?_⟩).h
  ·rw[if_pos hr];rfl
  ·rw[if_neg (by rw[show Qp s=false from hr];simp)]
 rw[hw];refine⟨⟨by((try simp only[bT,Qt,aE,Qn,Qp,Qj,QB,sX,sY,sG,sD,Qy,Qw,bf,QA,QC,Qq,Qr]at *);omega),by omega⟩,⟨by omega,by rw[Int.toNat_natCast];((try simp only[bT,Qt,aE,Qn,Qp,Qj,QB,sX,sY,sG,sD,Qy,Qw,bf,QA,QC,Qq,Qr]at *);omega)⟩,λhl=>k1 _ _ _ ?_ ?_ ?_,λhl=>⟨?_,k1 _ _ _ ?_ ?_ ?_⟩⟩
 ·rw[if_pos hl]
 ·rw[if_pos hl,Int.toNat_natCast]
 ·rw[show Qn s=true from hl,Int.toNat_natCast];simp[Bool.or_assoc]
 ·rw[Int.toNat_natCast,Zf];((try simp only[bT,Qt,aE,Qn,Qp,Qj,QB,sX,sY,sG,sD,Qy,Qw,bf,QA,QC,Qq,Qr]at *);omega)
 ·rw[if_neg (by rw[show Qn s=false from hl];simp),Int.toNat_natCast]
 ·rw[if_neg (by rw[show Qn s=false from hl];simp)]
 ·rw[show Qn s=false from hl];simp
theorem QSn:Qf Tryz.prog MG:=Qi λx h=>QI3 x.1 x.2.1 x.2.2.1 x.2.2.2.1 h
def CK(t:Qc):aB:=⟨(.a [(aL t.1),(.r QQ 0 0 ((t.2.1).length)),(.r aM 1 0 ((t.2.2.1).length)),(bE t.2.2.2.1),(bE t.2.2.2.2.1),(.r QE 2 0 ((t.2.2.2.2.2.1).length)),(.r [(.sl [TI])] 3 0 ((t.2.2.2.2.2.2.1).length)),(.r [TI] 4 0 ((t.2.2.2.2.2.2.2.1).length)),(.r [TI] 5 0 ((t.2.2.2.2.2.2.2.2.1).length)),(.r [TI] 6 0 ((t.2.2.2.2.2.2.2.2.2.1).length)),(.r [TI] 7 0 ((t.2.2.2.2.2.2.2.2.2.2.1).length)),(.r [(.sl [TI])] 8 0 ((t.2.2.2.2.2.2.2.2.2.2.2.1).length)),(aL t.2.2.2.2.2.2.2.2.2.2.2.2.1),(bE t.2.2.2.2.2.2.2.2.2.2.2.2.2)]),[(.sl 175 QQ (.dp 0 true []) t.2.1),(.sl 134 aM (.dp 0 true []) t.2.2.1),(.sl 108 QE (.dp 0 true []) t.2.2.2.2.2.1),(.sl 106 [(.sl [TI])] (.dp 0 true []) t.2.2.2.2.2.2.1),(.sl 3 [TI] (.dp 0 true []) t.2.2.2.2.2.2.2.1),(.sl 3 [TI] (.dp 0 true []) t.2.2.2.2.2.2.2.2.1),(.sl 3 [TI] (.dp 0 true []) t.2.2.2.2.2.2.2.2.2.1),(.sl 3 [TI] (.dp 0 true []) t.2.2.2.2.2.2.2.2.2.2.1),(.sl 106 [(.sl [TI])] (.dp 0 true []) t.2.2.2.2.2.2.2.2.2.2.2.1)],[],false,[]⟩
def MI:aI:=Qg 15 [(.a Qe),(.c TI)] λx=>(some (pq x.1 x.2.1),CK (Yp x.1 x.2.1))
def QSy:aF:=⟨[uJ,yh,uq,uj,Co],true⟩
def QOW:af :=
 (ag [(.ae [aC 2 (.box 39 0 14),aC 4 (.new 39 (bG Qe))]),(.ae [a7 7 2 14,aD 8 70 [7],aC 5 (.new 39 (bG Qe)),aT 5 8 14]),(.ae [ak 9 2 5,an 10 9 1,ab 11 1,aD 12 71 [10,11],ab 6 12]),(ag [(.ae [a7 13 2 14,aD 14 72 [13],bL 15 14,ab 16 15,.bt 16 false [ab 17 6,aw 18 .lss 17 (ar 0)] 19 18]),(.cond 19 (ag [(.ae [a7 20 5 14,aT 4 20 14]),.ret]) .skip)]),(.draw [a7 22 2 14,aD 23 74 [22],ak 24 2 5,an 25 24 1,ab 26 6,aZ 27 25 26 QE,ak 28 27 1,an 29 28 1,aZ 30 29 (ar 0) [(.sl [TI])],ak 31 30 0,an 32 31 1,aD 33 73 [23,32],ab 21 33,bF 34 21 0,bF 35 21 1,ak 36 5 6,aT 36 34 1] [(1,2),(1,3),(1,5),(1,6),(1,7),(1,8),(1,9),(1,10)]),(.ae [a7 37 5 14,aT 4 37 14]),.ret])
def QKv:List (bm × Md):=[(.l 4 14 true,.b [.d,.p 175,.p 134,.d,.d,.p 108,.p 106,.p 3,.p 3,.p 3,.p 3,.p 106,.d,.d])]
theorem QHV(s:Qc)(m:Int)(hp:pq s m):aK Tryz.prog 15 [(.a (aR.cells Qe s)),(.c TI m)] (CK (Yp s m)):=by
 refine bw QSy QOW QKv 0 0 38 MI (kc CF (kc Lb (kc Br (kc Bk (kc Qrj kn))))) (λK =>
 let z1:=id (α:=Qc) s
 let z3:=QJ s.2.2.2.2.2.1 m
 let z2:=JK (Zm s) (aq ([]:List Int) ((aq QT s.2.2.2.2.2.1 (Int.toNat z3)).2) (Int.toNat 0))
 let z4:=List.take ((z1.2.2.2.2.2.2.2.2.2.2.2.1).length) (z1.2.2.2.2.2.2.2.2.2.2.2.1)
 let z5:=List.take ((z1.2.2.2.2.2.2.2.2.2.2.1).length) (z1.2.2.2.2.2.2.2.2.2.2.1)
 let z6:=List.take ((z1.2.2.2.2.2.2.2.2.2.1).length) (z1.2.2.2.2.2.2.2.2.2.1)
 let z7:=List.take ((z1.2.2.2.2.2.2.2.2.1).length) (z1.2.2.2.2.2.2.2.2.1)
 let z8:=List.take ((z1.2.2.2.2.2.2.2.1).length) (z1.2.2.2.2.2.2.2.1)
 let z9:=List.take ((z1.2.2.2.2.2.1).length) (z1.2.2.2.2.2.1)
 ((Qs (α:=Qc) s)/\(aJ ((!(QU s))||(decide (z3<0))) (K (CK (z1.1,(List.take ((z1.2.1).length) (z1.2.1)),(List.take ((z1.2.2.1).length) (z1.2.2.1)),z1.2.2.2.1,z1.2.2.2.2.1,z9,(List.take ((z1.2.2.2.2.2.2.1).length) (z1.2.2.2.2.2.2.1)),z8,z7,z6,z5,z4,z1.2.2.2.2.2.2.2.2.2.2.2.2.1,z1.2.2.2.2.2.2.2.2.2.2.2.2.2))) (((0<=z3/\Int.toNat z3<(s.2.2.2.2.2.1).length)/\((0:Int)<=0/\Int.toNat 0<((aq QT s.2.2.2.2.2.1 (Int.toNat z3)).2).length))/\K (CK (z1.1,(List.take ((z1.2.1).length) (z1.2.1)),(List.take ((z1.2.2.1).length) (z1.2.2.1)),z1.2.2.2.1,z1.2.2.2.2.1,z9,(List.take ((z2.1).length) (z2.1)),z8,z7,z6,z5,z4,z1.2.2.2.2.2.2.2.2.2.2.2.2.1,z1.2.2.2.2.2.2.2.2.2.2.2.2.2)))))) (λhb=>?_)
 conv=>zeta
 have il:Sz.sz s<=2147483648:=hp;simp only[id,List.drop_zero,List.take_length];rw[CB];refine⟨hp,λh=>au ?_,λh=>?_⟩
 ·simp only[Bool.not_eq_true']at h;rw[QsQ (by rw[h];simp)]
 have h:(QU s&&decide (0<=QJ (Qj s) m))=true:=by simpa using h
 have h':=h;simp only[Bool.and_eq_true,decide_eq_true_eq]at h';have hf:=yD (Qj s) m;have hk:(QJ (Qj s) m).toNat<(Qj s).length:=by omega
 have hr:=Mx h'.1 (Mw h'.1 _ (JI hk QT));have ei:JK (Zm s) (aq [] (aq QT s.2.2.2.2.2.1 (QJ s.2.2.2.2.2.1 m).toNat).2 0)=QV (aE s) (aq [] (aq QT s.2.2.2.2.2.1 (QJ s.2.2.2.2.2.1 m).toNat).2 0):=GJ (YZ h'.1) hr.2.2;refine⟨⟨⟨h'.2,hk⟩,⟨by omega,hr.1⟩⟩,au ?_⟩;rw[show Int.toNat 0=0 from rfl,ei];unfold Yp;simp only;rw[if_pos h]
theorem QXx:Qf Tryz.prog MI:=Qi λx h=>QHV x.1 x.2.1 h
def CL(t:Qc):aB:=fQ (.a (aR.cells Qe t))
def MJ:aI:=Qg 13 [(.a Qe),(.c TI)] λx=>(some (pq x.1 x.2.1),CL (Yp x.1 x.2.1))
def QX7:aF:=⟨[uL,yf,ur,Cr],false⟩
def QVP:af :=
 (ag [(.ae [aC 2 (.box 39 0 14),aC 4 (.new 39 (bG Qe))]),(.ae [a7 9 2 14,aD 10 61 [9],aC 5 (.new 39 (bG Qe)),aT 5 10 14]),(.ae [ak 11 2 5,an 12 11 1,ab 13 1,aD 14 62 [12,13],ab 6 14]),(ag [(.ae [a7 15 2 14,aD 16 63 [15],bL 17 16,ab 18 17,.bt 18 false [ab 19 6,aw 20 .lss 19 (ar 0)] 21 20]),(.cond 21 (ag [(.ae [a7 22 5 14,aT 4 22 14]),.ret]) .skip)]),(.draw [ak 24 2 2,an 25 24 1,ak 26 2 5,an 27 26 1,ab 28 6,aZ 29 27 28 QE,ak 30 29 1,an 31 30 1,aZ 32 31 (ar 0) [(.sl [TI])],ak 33 32 0,an 34 33 1,aD 35 64 [25,34],ab 23 35,bF 36 23 0,bF 37 23 1,ab 7 36,ab 8 37] []),(.ae [ab 38 7,ak 39 5 6,aT 39 38 1]),(.ae [a7 40 5 14,aT 4 40 14]),.ret])
def QJA:List (bm × Md):=[(.l 4 14 true,.b (dH 14))]
theorem QUw(s:Qc)(m:Int)(hp:pq s m):aK Tryz.prog 13 [(.a (aR.cells Qe s)),(.c TI m)] (CL (Yp s m)):=by
 refine bw QX7 QVP QJA 0 0 41 MJ (kc CH (kc K9 (kc Bw (kc QBr kn)))) (λK =>
 let z1:=id (α:=Qc) s
 let z2:=QJ s.2.2.2.2.2.1 m
 let z3:=aq ([]:List Int) ((aq QT s.2.2.2.2.2.1 (Int.toNat z2)).2) (Int.toNat 0)
 let z4:=List.take ((z1.2.2.2.2.2.1).length) (List.drop 0 (z1.2.2.2.2.2.1))
 ((Qs (α:=Qc) s)/\(aJ ((!(QU s))||(decide (z2<0))) (K (CL (z1.1,z1.2.1,z1.2.2.1,z1.2.2.2.1,z1.2.2.2.2.1,z4,z1.2.2.2.2.2.2.1,z1.2.2.2.2.2.2.2.1,z1.2.2.2.2.2.2.2.2.1,z1.2.2.2.2.2.2.2.2.2.1,z1.2.2.2.2.2.2.2.2.2.2.1,z1.2.2.2.2.2.2.2.2.2.2.2.1,z1.2.2.2.2.2.2.2.2.2.2.2.2.1,z1.2.2.2.2.2.2.2.2.2.2.2.2.2))) (((0<=z2/\Int.toNat z2<(s.2.2.2.2.2.1).length)/\(((0:Int)<=0/\Int.toNat 0<((aq QT s.2.2.2.2.2.1 (Int.toNat z2)).2).length)/\(Az s.2.2.1 z3)))/\K (CL (z1.1,z1.2.1,z1.2.2.1,z1.2.2.2.1,z1.2.2.2.2.1,z4,(QV s.2.2.1 z3).1,z1.2.2.2.2.2.2.2.1,z1.2.2.2.2.2.2.2.2.1,z1.2.2.2.2.2.2.2.2.2.1,z1.2.2.2.2.2.2.2.2.2.2.1,z1.2.2.2.2.2.2.2.2.2.2.2.1,z1.2.2.2.2.2.2.2.2.2.2.2.2.1,z1.2.2.2.2.2.2.2.2.2.2.2.2.2)))))) (λhb=>?_)
 conv=>zeta
 have il:Sz.sz s<=2147483648:=hp;simp only[id,List.drop_zero,List.take_length];rw[CB];refine⟨hp,λh=>au ?_,λh=>?_⟩
 ·simp only[Bool.not_eq_true']at h;rw[QsQ (by rw[h];simp)]
 have h:(QU s&&decide (0<=QJ (Qj s) m))=true:=by simpa using h
 have h':=h;simp only[Bool.and_eq_true,decide_eq_true_eq]at h';have hf:=yD (Qj s) m;have hk:(QJ (Qj s) m).toNat<(Qj s).length:=by omega
 have hr:=Mx h'.1 (Mw h'.1 _ (JI hk QT));have hv:=Jc hr.2.2;have cX:=Yv (YZ h'.1);refine⟨⟨⟨h'.2,hk⟩,⟨by omega,hr.1⟩,⟨by((try simp only[bT,Qt,aE,Qn,Qp,Qj,QB,sX,sY,sG,sD,Qy,Qw,bf,QA,QC,Qq,Qr]at *);omega),Nat.le_trans hv (by omega)⟩⟩,au ?_⟩;rw[show Int.toNat 0=0 from rfl];unfold Yp;simp only;rw[if_pos h]
theorem QOB:Qf Tryz.prog MJ:=Qi λx h=>QUw x.1 x.2.1 h
def Jb(t:Qc):aB:=⟨(.a [(aL t.1),(.r QQ 0 0 ((t.2.1).length)),(.r aM 1 0 ((t.2.2.1).length)),(bE t.2.2.2.1),(bE t.2.2.2.2.1),(.r QE 2 0 ((t.2.2.2.2.2.1).length)),(.r [(.sl [TI])] 3 0 ((t.2.2.2.2.2.2.1).length)),(.r [TI] 4 0 ((t.2.2.2.2.2.2.2.1).length)),(.r [TI] 5 0 ((t.2.2.2.2.2.2.2.2.1).length)),(.r [TI] 6 0 ((t.2.2.2.2.2.2.2.2.2.1).length)),(.r [TI] 7 0 ((t.2.2.2.2.2.2.2.2.2.2.1).length)),(.r [(.sl [TI])] 8 0 ((t.2.2.2.2.2.2.2.2.2.2.2.1).length)),(aL t.2.2.2.2.2.2.2.2.2.2.2.2.1),(bE t.2.2.2.2.2.2.2.2.2.2.2.2.2)]),[(.sl 175 QQ (.dp 0 true []) t.2.1),(.sl 134 aM (.dp 0 true []) t.2.2.1),(.sl 108 QE (.dp 0 true []) t.2.2.2.2.2.1),(.sl 106 [(.sl [TI])] (.dp 0 true []) t.2.2.2.2.2.2.1),(.sl 3 [TI] (.dp 0 true []) t.2.2.2.2.2.2.2.1),(.sl 3 [TI] (.dp 0 true []) t.2.2.2.2.2.2.2.2.1),(.sl 3 [TI] (.dp 0 true []) t.2.2.2.2.2.2.2.2.2.1),(.sl 3 [TI] (.dp 0 true []) t.2.2.2.2.2.2.2.2.2.2.1),(.sl 106 [(.sl [TI])] (.dp 0 true []) t.2.2.2.2.2.2.2.2.2.2.2.1)],[],false,[]⟩
def MK:aI:=Qg 32 [(.a Qe),(.c TI),(.c (.sl [TI]))] λx=>(some (pw x.1 x.2.1 x.2.2.1),Jb (ZB x.1 x.2.1 x.2.2.1))
def QLq:aF:=⟨[uJ,yh,uq,Bm,BH,uj,xR,Ju,Mc,KQ],true⟩
def QGX:af :=
 (ag [(.ae [aC 3 (.box 39 0 14),aC 6 (.new 39 (bG Qe))]),(.ae [a7 15 3 14,aD 16 70 [15],aC 7 (.new 39 (bG Qe)),aT 7 16 14]),(.ae [ak 17 3 5,an 18 17 1,ab 19 1,aD 20 71 [18,19],ab 8 20]),(ag [(.ae [a7 21 3 14,aD 22 72 [21],bL 23 22,ab 24 23,.bt 24 false [ab 25 8,aw 26 .lss 25 (ar 0)] 27 26]),(.cond 27 (ag [(.ae [a7 28 7 14,aT 6 28 14]),.ret]) .skip)]),(.ae [ak 29 7 5,an 30 29 1,ab 31 8,aZ 32 30 31 QE,ak 33 32 1,an 34 33 1,ab 9 34]),(ag [(.ae [ak 35 3 4,an 36 35 1]),(.cond 36 (.ae [ak 37 7 6,an 38 37 1,ab 9 38]) .skip)]),(.ae [ak 39 3 2,an 40 39 1,a9 41 40,ab 10 41]),(ag [(.ae [ab 42 9,a9 43 42,ab 44 10,aw 45 .add 44 (ar 1),aw 46 .neq 43 45,ab 47 46,.bt 47 false [ak 48 3 2,an 49 48 1,ab 50 9,ab 51 10,aD 52 110 [49,50,51],bL 53 52] 54 53]),(.cond 54 (ag [(.ae [a7 55 7 14,aT 6 55 14]),.ret]) .skip)]),(.ae [ak 56 7 9,an 57 56 1,ab 11 57,ab 12 (a0 false)]),(ag [(.ae [ak 58 3 3,an 59 58 1]),(.cond 59 (.ae [ab 61 9,ab 62 10,aZ 63 61 62 [(.sl [TI])],ak 64 63 0,an 65 64 1,ab 66 2,aD 67 111 [65,66],ab 60 67,bF 68 60 0,bF 69 60 1,ab 11 68,ab 12 69]) .skip)]),(ag [(.ae [ab 70 11,a7 71 3 14,aD 72 74 [71],aD 73 102 [72],aD 74 100 [70,73],bL 75 74]),(.cond 75 (ag [(.ae [a7 76 7 14,aT 6 76 14]),.ret]) .skip)]),(.ae [ak 78 3 2,an 79 78 1,ab 80 9,ab 81 11,aD 82 112 [79,80,81],ab 77 82,bF 83 77 0,bF 84 77 1,bF 85 77 2,ab 13 83,ab 11 84,ab 14 85]),(.ae [ak 86 7 11,a7 87 86 3,ab 88 13,ab 89 12,ab 90 89,.bt 90 false [ab 91 14] 92 91,aC 93 (.build (bG Zj) [(0,1,88),(2,1,92)]),aD 94 113 [87,93],ak 95 7 11,aT 95 94 3]),(.ae [ab 96 11,ak 97 7 10,aT 97 96 1]),(.ae [ak 98 7 9,aT 98 (.k (.n [TI])) 1]),(.ae [ak 99 7 6,aT 99 (.k (.n [(.sl [TI])])) 1]),(.draw [ak 100 7 5,an 101 100 1,ab 102 8,aC 103 (.fx 101 none (some 102) QE),ak 104 7 5,an 105 104 1,ab 106 8,aw 107 .add 106 (ar 1),aC 108 (.fx 105 (some 107) none QE),aC 109 (.app 103 108 108 QE),ak 110 7 5,aT 110 109 1] []),(.ae [a7 111 7 14,aT 6 111 14]),.ret])
def QJD:List (bm × Md):=[(.l 6 14 true,.b [.d,.p 175,.p 134,.d,.d,.p 108,.p 106,.p 3,.p 3,.p 3,.p 3,.p 106,.d,.d])]
theorem QFY(s:Qc)(m:Int)(t:List Int)(hp:pw s m t):aK Tryz.prog 32 [(.a (aR.cells Qe s)),(.c TI m),(.c (.sl [TI]) t)] (Jb (ZB s m t)):=by
 refine bw QLq QGX QJD 0 0 112 MK (kc CF (kc Lb (kc Br (kc XD (kc Qul (kc Bk (kc Kb (kc JU (kc QPU (kc QOm kn)))))))))) (λK =>
 let z1:=id (α:=Qc) s
 let z5:=List.take ((z1.2.2.2.2.2.2.2.2.2.1).length) (List.drop 0 (z1.2.2.2.2.2.2.2.2.2.1))
 let z7:=List.take ((z1.2.2.2.2.2.2.2.2.2.2.2.1).length) (List.drop 0 (z1.2.2.2.2.2.2.2.2.2.2.2.1))
 let z8:=List.take ((z1.2.2.2.2.2.2.1).length) (List.drop 0 (z1.2.2.2.2.2.2.1))
 let dR:=QJ s.2.2.2.2.2.1 m
 let z6:=aq QT (z1.2.2.2.2.2.1) (0+(Int.toNat dR))
 let z9:=Int.toNat dR-Int.toNat 0
 let gz:=List.take ((z1.2.2.2.2.2.2.2.2.1).length) (z1.2.2.2.2.2.2.2.2.1)
 let gV:=List.take ((z1.2.2.2.2.2.2.2.1).length) (z1.2.2.2.2.2.2.2.1)
 let kW:=List.take ((z1.2.2.2.2.2.2.2.2.2.2.2.1).length) (z1.2.2.2.2.2.2.2.2.2.2.2.1)
 let mE:=List.take ((z1.2.2.2.2.2.2.2.2.2.2.1).length) (z1.2.2.2.2.2.2.2.2.2.2.1)
 let kX:=List.take ((z1.2.2.2.2.2.2.2.2.2.1).length) (z1.2.2.2.2.2.2.2.2.2.1)
 let kh:=List.take ((z1.2.2.1).length) (z1.2.2.1)
 let ki:=List.take ((z1.2.1).length) (z1.2.1)
 let mF:=List.take ((z1.2.2.2.2.2.2.1).length) (z1.2.2.2.2.2.2.1)
 let mG:=List.take ((z1.2.2.2.2.2.1).length) (z1.2.2.2.2.2.1)
 let uN:=Q2 s.2.2.1 (z6.2) z5
 let uO:=Q2 s.2.2.1 z8 z5
 let CM:=aG (((s.2.2.1).length:Int)+1)
 let uP:=aG (dR+1)
 let z4:=List.take (Int.toNat (((z1.2.2.2.2.2.1).length:Nat):Int)-Int.toNat uP) (List.drop (0+Int.toNat uP) (z1.2.2.2.2.2.1))
 let sC:=List.take (z9+z4.length) ((List.take z9 (z1.2.2.2.2.2.1))++z4)
 let ML:=Int.toNat ((s.2.2.1).length:Int)
 let eY:=QZ (aq ([]:List Int) (z1.2.2.2.2.2.2.1) (0+ML)) t
 let eX:=QZ (aq ([]:List Int) (z6.2) ML) t
 let MM:=List.take ((eY.1).length) (List.drop 0 (eY.1))
 let z3:=Q2 s.2.2.1 z8 MM
 let MN:=List.take ((eX.1).length) (List.drop 0 (eX.1))
 let z2:=Q2 s.2.2.1 (z6.2) MN
 let CN:=Zu (Zm s)
 let z35:=List.take ((uO.1).length) (List.drop 0 (uO.1))
 let f4:=Z1 (z7,z1.2.2.2.2.2.2.2.2.2.2.2.2.1,z1.2.2.2.2.2.2.2.2.2.2.2.2.2) (z35,(0:Int),(false||(uO.2.2)))
 let z36:=List.take ((uN.1).length) (List.drop 0 (uN.1))
 let fS:=Z1 (z7,z1.2.2.2.2.2.2.2.2.2.2.2.2.1,z1.2.2.2.2.2.2.2.2.2.2.2.2.2) (z36,(0:Int),(false||(uN.2.2)))
 let z37:=List.take ((z3.1).length) (List.drop 0 (z3.1))
 let kU:=Z1 (z7,z1.2.2.2.2.2.2.2.2.2.2.2.2.1,z1.2.2.2.2.2.2.2.2.2.2.2.2.2) (z37,(0:Int),((eY.2)||(z3.2.2)))
 let z38:=List.take ((z2.1).length) (List.drop 0 (z2.1))
 let kV:=Z1 (z7,z1.2.2.2.2.2.2.2.2.2.2.2.2.1,z1.2.2.2.2.2.2.2.2.2.2.2.2.2) (z38,(0:Int),((eX.2)||(z2.2.2)))
 ((Qs (α:=Qc) s)/\(aJ ((!(QU s))||(decide (dR<0))) (K (Jb (z1.1,ki,kh,z1.2.2.2.1,z1.2.2.2.2.1,mG,mF,gV,gz,kX,mE,kW,z1.2.2.2.2.2.2.2.2.2.2.2.2.1,z1.2.2.2.2.2.2.2.2.2.2.2.2.2))) (((0<=dR/\Int.toNat dR<(z1.2.2.2.2.2.1).length)/\((0+(Int.toNat dR))<(z1.2.2.2.2.2.1).length))/\(aJ s.2.2.2.2.1 (((!((((z1.2.2.2.2.2.2.1).length:Nat):Int) != CM))=true->(xt s.2.2.1 z8 ((s.2.2.1).length:Int)))/\(aJ (((((z1.2.2.2.2.2.2.1).length:Nat):Int) != CM)||(!(ZS s.2.2.1 z8 ((s.2.2.1).length:Int)))) (K (Jb (z1.1,ki,kh,z1.2.2.2.1,z1.2.2.2.2.1,mG,mF,gV,gz,kX,mE,kW,z1.2.2.2.2.2.2.2.2.2.2.2.2.1,z1.2.2.2.2.2.2.2.2.2.2.2.2.2))) (aJ s.2.2.2.1 (((0<=((s.2.2.1).length:Int)/\Int.toNat ((s.2.2.1).length:Int)<(z1.2.2.2.2.2.2.1).length)/\((0+ML)<(z1.2.2.2.2.2.2.1).length))/\(aJ (!(QH MM CN)) (K (Jb (z1.1,ki,kh,z1.2.2.2.1,z1.2.2.2.2.1,mG,mF,gV,gz,kX,mE,kW,z1.2.2.2.2.2.2.2.2.2.2.2.2.1,z1.2.2.2.2.2.2.2.2.2.2.2.2.2))) ((tP s.2.2.1 z8 MM)/\((Zp (α:=QO) (β:=QO) (z7,z1.2.2.2.2.2.2.2.2.2.2.2.2.1,z1.2.2.2.2.2.2.2.2.2.2.2.2.2) (z37,(0:Int),((eY.2)||(z3.2.2))))/\((((0:Int)<=0/\0<=dR/\dR<=(((z1.2.2.2.2.2.1).length:Nat):Int))/\((0<=aG (dR+1)/\aG (dR+1)<=(((z1.2.2.2.2.2.1).length:Nat):Int)/\(((z1.2.2.2.2.2.1).length:Nat):Int)<=(((z1.2.2.2.2.2.1).length:Nat):Int))/\(((z9=(z1.2.2.2.2.2.1).length\/z9+z4.length<=(z1.2.2.2.2.2.1).length)/\z9+z4.length<=cc)/\(z9<=(0+Int.toNat uP)))))/\K (Jb (z1.1,ki,kh,z1.2.2.2.1,z1.2.2.2.2.1,sC,([]:List (List Int)),gV,gz,([]:List Int),(List.take ((z3.2.1).length) (z3.2.1)),(List.take ((kU.1).length) (kU.1)),kU.2.1,kU.2.2))))))) (aJ (!(QH z5 CN)) (K (Jb (z1.1,ki,kh,z1.2.2.2.1,z1.2.2.2.2.1,mG,mF,gV,gz,kX,mE,kW,z1.2.2.2.2.2.2.2.2.2.2.2.2.1,z1.2.2.2.2.2.2.2.2.2.2.2.2.2))) ((tP s.2.2.1 z8 z5)/\((Zp (α:=QO) (β:=QO) (z7,z1.2.2.2.2.2.2.2.2.2.2.2.2.1,z1.2.2.2.2.2.2.2.2.2.2.2.2.2) (z35,(0:Int),(false||(uO.2.2))))/\((((0:Int)<=0/\0<=dR/\dR<=(((z1.2.2.2.2.2.1).length:Nat):Int))/\((0<=aG (dR+1)/\aG (dR+1)<=(((z1.2.2.2.2.2.1).length:Nat):Int)/\(((z1.2.2.2.2.2.1).length:Nat):Int)<=(((z1.2.2.2.2.2.1).length:Nat):Int))/\(((z9=(z1.2.2.2.2.2.1).length\/z9+z4.length<=(z1.2.2.2.2.2.1).length)/\z9+z4.length<=cc)/\(z9<=(0+Int.toNat uP)))))/\K (Jb (z1.1,ki,kh,z1.2.2.2.1,z1.2.2.2.2.1,sC,([]:List (List Int)),gV,gz,([]:List Int),(List.take ((uO.2.1).length) (uO.2.1)),(List.take ((f4.1).length) (f4.1)),f4.2.1,f4.2.2))))))))) (((!(((z6.2).length:Int) != CM))=true->(xt s.2.2.1 (z6.2) ((s.2.2.1).length:Int)))/\(aJ ((((z6.2).length:Int) != CM)||(!(ZS s.2.2.1 (z6.2) ((s.2.2.1).length:Int)))) (K (Jb (z1.1,ki,kh,z1.2.2.2.1,z1.2.2.2.2.1,mG,mF,gV,gz,kX,mE,kW,z1.2.2.2.2.2.2.2.2.2.2.2.2.1,z1.2.2.2.2.2.2.2.2.2.2.2.2.2))) (aJ s.2.2.2.1 ((0<=((s.2.2.1).length:Int)/\Int.toNat ((s.2.2.1).length:Int)<(z6.2).length)/\(aJ (!(QH MN CN)) (K (Jb (z1.1,ki,kh,z1.2.2.2.1,z1.2.2.2.2.1,mG,mF,gV,gz,kX,mE,kW,z1.2.2.2.2.2.2.2.2.2.2.2.2.1,z1.2.2.2.2.2.2.2.2.2.2.2.2.2))) ((tP s.2.2.1 (z6.2) MN)/\((Zp (α:=QO) (β:=QO) (z7,z1.2.2.2.2.2.2.2.2.2.2.2.2.1,z1.2.2.2.2.2.2.2.2.2.2.2.2.2) (z38,(0:Int),((eX.2)||(z2.2.2))))/\((((0:Int)<=0/\0<=dR/\dR<=(((z1.2.2.2.2.2.1).length:Nat):Int))/\((0<=aG (dR+1)/\aG (dR+1)<=(((z1.2.2.2.2.2.1).length:Nat):Int)/\(((z1.2.2.2.2.2.1).length:Nat):Int)<=(((z1.2.2.2.2.2.1).length:Nat):Int))/\(((z9=(z1.2.2.2.2.2.1).length\/z9+z4.length<=(z1.2.2.2.2.2.1).length)/\z9+z4.length<=cc)/\(z9<=(0+Int.toNat uP)))))/\K (Jb (z1.1,ki,kh,z1.2.2.2.1,z1.2.2.2.2.1,sC,([]:List (List Int)),gV,gz,([]:List Int),(List.take ((z2.2.1).length) (z2.2.1)),(List.take ((kV.1).length) (kV.1)),kV.2.1,kV.2.2))))))) (aJ (!(QH z5 CN)) (K (Jb (z1.1,ki,kh,z1.2.2.2.1,z1.2.2.2.2.1,mG,mF,gV,gz,kX,mE,kW,z1.2.2.2.2.2.2.2.2.2.2.2.2.1,z1.2.2.2.2.2.2.2.2.2.2.2.2.2))) ((tP s.2.2.1 (z6.2) z5)/\((Zp (α:=QO) (β:=QO) (z7,z1.2.2.2.2.2.2.2.2.2.2.2.2.1,z1.2.2.2.2.2.2.2.2.2.2.2.2.2) (z36,(0:Int),(false||(uN.2.2))))/\((((0:Int)<=0/\0<=dR/\dR<=(((z1.2.2.2.2.2.1).length:Nat):Int))/\((0<=aG (dR+1)/\aG (dR+1)<=(((z1.2.2.2.2.2.1).length:Nat):Int)/\(((z1.2.2.2.2.2.1).length:Nat):Int)<=(((z1.2.2.2.2.2.1).length:Nat):Int))/\(((z9=(z1.2.2.2.2.2.1).length\/z9+z4.length<=(z1.2.2.2.2.2.1).length)/\z9+z4.length<=cc)/\(z9<=(0+Int.toNat uP)))))/\K (Jb (z1.1,ki,kh,z1.2.2.2.1,z1.2.2.2.2.1,sC,([]:List (List Int)),gV,gz,([]:List Int),(List.take ((uN.2.1).length) (uN.2.1)),(List.take ((fS.1).length) (fS.1)),fS.2.1,fS.2.2)))))))))))))) (λhb=>?_)
 conv=>zeta
 have il:Sz.sz s<=2147483648:=hp;have hs:=ZL s;have l1:=Yl (Qj s);obtain⟨kf,fT⟩:∃ kf,QJ s.2.2.2.2.2.1 m=kf:=⟨_,rfl⟩
 have hf:=yD (Qj s) m;rw[show QJ (Qj s) m=kf from fT]at hf;have fm:Yw s kf t=false->(ZB s m t)=s:=λh=>Qua (by rw[show QJ (Qj s) m=kf from fT,h];simp);simp only[id,List.drop_zero,List.take_length,true_or,true_and,Nat.zero_add,Int.toNat_natCast];rw[CB,show QJ (Qj s) m=kf from fT];refine⟨hp,λh=>au ?_,λh=>?_⟩
 ·rw[fm];simp only[Bool.not_eq_true']at h;rw[JF,h];rfl
 simp only[Bool.not_eq_false',Bool.and_eq_true,decide_eq_true_eq]at h;obtain⟨h1,h2⟩:=h;obtain⟨kn,rfl⟩:∃ kn:Nat,kf=kn:=⟨kf.toNat,by omega⟩
 have cX:1<=s.2.2.1.length/\s.2.2.1.length<=8:=Yv (YZ h1);have fG:=QBm h1;have yG:Sz.sz (α:=QO) s.2.2.2.2.2.2.2.2.2.2.2<=296:=TB (YZ h1) ⟨fG.1,fG.2⟩;have adH:Sz.sz s.2.2.2.2.2.2.2.2.2.2.2.1<=296:=by have h:=yG;simp only[QR,QL,QY]at h;omega
 have hk:kn<s.2.2.2.2.2.1.length:=by((try simp only[bT,Qt,aE,Qn,Qp,Qj,QB,sX,sY,sG,sD,Qy,Qw,bf,QA,QC,Qq,Qr]at *);omega)
 have oY:(List.take (s.2.2.2.2.2.1.length-(kn+1)) (List.drop (kn+1) s.2.2.2.2.2.1)).length=s.2.2.2.2.2.1.length-(kn+1):=by simp
 rw[dM (k:=s.2.2.1.length) (by omega),dM (k:=kn) (by((try simp only[bT,Qt,aE,Qn,Qp,Qj,QB,sX,sY,sG,sD,Qy,Qw,bf,QA,QC,Qq,Qr]at *);omega))];simp only[Int.toNat_natCast,show Int.toNat 0=0 from rfl,Nat.sub_zero];refine⟨⟨⟨h2,by((try simp only[bT,Qt,aE,Qn,Qp,Qj,QB,sX,sY,sG,sD,Qy,Qw,bf,QA,QC,Qq,Qr]at *);omega)⟩,by((try simp only[bT,Qt,aE,Qn,Qp,Qj,QB,sX,sY,sG,sD,Qy,Qw,bf,QA,QC,Qq,Qr]at *);omega)⟩,λjV=>?_,λjV=>?_⟩
 ·have sE:(s.2.2.2.2.2.2.1)=Zq s (kn:Int):=by unfold Zq;rw[if_pos (show Qp s=true from jV)];try rfl
  refine⟨λh=>?_,λh=>au ?_,λh=>?_⟩
  ·simp at h;exact⟨by omega,by omega,by omega⟩
  ·rw[fm];rw[JF,<- sE];simp only[Bool.or_eq_true,bne_iff_ne,Bool.not_eq_true']at h
   rcases h with h | h
   ·have:((s.2.2.2.2.2.2.1).length==s.2.2.1.length+1)=false:=by rw[beq_eq_false_iff_ne];omega
    simp[this]
   ·have h':ZS (aE s) (s.2.2.2.2.2.2.1) (aE s).length=false:=h;simp[h']
  ·simp only[Bool.or_eq_false_iff,bne_eq_false_iff_eq,Bool.not_eq_false']at h;have h3:((Zq s (kn:Int)).length==(aE s).length+1)=true:=by rw[<- sE,beq_iff_eq];have:=h.1;((try simp only[bT,Qt,aE,Qn,Qp,Qj,QB,sX,sY,sG,sD,Qy,Qw,bf,QA,QC,Qq,Qr]at *);omega)
   have h4:ZS (aE s) (Zq s (kn:Int)) (aE s).length=true:=by rw[<- sE];exact h.2
   refine⟨λhl=>⟨⟨⟨by omega,by have:=h.1;omega⟩,by have:=h.1;omega⟩,?_⟩,λhl=>?_⟩
   ·have hr:(s.2.2.2.2.2.2.1)=Zq s (kn:Int):=by unfold Zq;rw[if_pos (show Qp s=true from jV)];try rfl
    have hd:(((QZ (aq [] (s.2.2.2.2.2.2.1) s.2.2.1.length) t).1),((QZ (aq [] (s.2.2.2.2.2.2.1) s.2.2.1.length) t).2))=eN s (kn:Int) t:=by unfold eN;rw[if_pos (show Qn s=true from hl),<- hr];try rfl
    have hb:Yw s (kn:Int) t=QH ((QZ (aq [] (s.2.2.2.2.2.2.1) s.2.2.1.length) t).1) (Zu (Zm s)):=by
     rw[JF,<- hd,h1,h3,h4,decide_eq_true h2];rfl
    refine⟨λh=>au ?_,λh=>?_⟩
    ·rw[fm (by rw[hb];simpa using h)]
    ·have hv:QH ((QZ (aq [] (s.2.2.2.2.2.2.1) s.2.2.1.length) t).1) (Zu (Zm s))=true:=by simpa using h
     have cI:Yw s (kn:Int) t=true:=by rw[hb,hv]
     have CO:=Jc hv;have db:=yE (t:=t) (rows:=s.2.2.2.2.2.2.1) (d:=(QZ (aq [] (s.2.2.2.2.2.2.1) s.2.2.1.length) t).1) (b:=(QZ (aq [] (s.2.2.2.2.2.2.1) s.2.2.1.length) t).2) (by rw[show QJ (Qj s) m=(kn:Int) from fT];exact cI) (by rw[show QJ (Qj s) m=(kn:Int) from fT] ;exact hr) (by rw[show QJ (Qj s) m=(kn:Int) from fT] ;exact hd);have jx:(s.2.2.2.2.2.2.1).length=s.2.2.1.length+1:=by rw[hr];rw[beq_iff_eq]at h3;exact h3
     have ld:=uH s.2.2.1 (s.2.2.2.2.2.2.1) ((QZ (aq [] (s.2.2.2.2.2.2.1) s.2.2.1.length) t).1);refine⟨⟨⟨by omega,by rw[Zf];((try simp only[bT,Qt,aE,Qn,Qp,Qj,QB,sX,sY,sG,sD,Qy,Qw,bf,QA,QC,Qq,Qr]at *);omega)⟩,by omega⟩,?_,⟨⟨by omega,by omega,by omega⟩,⟨by omega,by omega,by omega⟩,?_,by omega⟩,au ?_⟩
     ·unfold Zp;simp only[YK,QL,QY]
      ((try simp only[bT,Qt,aE,Qn,Qp,Qj,QB,sX,sY,sG,sD,Qy,Qw,bf,QA,QC,Qq,Qr]at *);omega)
     ·rw[oY,Zf];((try simp only[bT,Qt,aE,Qn,Qp,Qj,QB,sX,sY,sG,sD,Qy,Qw,bf,QA,QC,Qq,Qr]at *);omega)
     ·rw[yF hk,db,show QJ (Qj s) m=(kn:Int) from fT,Int.toNat_natCast]
   ·have hr:(s.2.2.2.2.2.2.1)=Zq s (kn:Int):=by unfold Zq;rw[if_pos (show Qp s=true from jV)];try rfl
    have hd:((s.2.2.2.2.2.2.2.2.2.1),(false))=eN s (kn:Int) t:=by unfold eN;rw[if_neg (by rw[show Qn s=false from hl];simp)];try rfl
    have hb:Yw s (kn:Int) t=QH (s.2.2.2.2.2.2.2.2.2.1) (Zu (Zm s)):=by
     rw[JF,<- hd,h1,h3,h4,decide_eq_true h2];rfl
    refine⟨λh=>au ?_,λh=>?_⟩
    ·rw[fm (by rw[hb];simpa using h)]
    ·have hv:QH (s.2.2.2.2.2.2.2.2.2.1) (Zu (Zm s))=true:=by simpa using h
     have cI:Yw s (kn:Int) t=true:=by rw[hb,hv]
     have CO:=Jc hv;have db:=yE (t:=t) (rows:=s.2.2.2.2.2.2.1) (d:=s.2.2.2.2.2.2.2.2.2.1) (b:=false) (by rw[show QJ (Qj s) m=(kn:Int) from fT];exact cI) (by rw[show QJ (Qj s) m=(kn:Int) from fT] ;exact hr) (by rw[show QJ (Qj s) m=(kn:Int) from fT] ;exact hd);have jx:(s.2.2.2.2.2.2.1).length=s.2.2.1.length+1:=by rw[hr];rw[beq_iff_eq]at h3;exact h3
     have ld:=uH s.2.2.1 (s.2.2.2.2.2.2.1) (s.2.2.2.2.2.2.2.2.2.1);refine⟨⟨⟨by omega,by rw[Zf];((try simp only[bT,Qt,aE,Qn,Qp,Qj,QB,sX,sY,sG,sD,Qy,Qw,bf,QA,QC,Qq,Qr]at *);omega)⟩,by omega⟩,?_,⟨⟨by omega,by omega,by omega⟩,⟨by omega,by omega,by omega⟩,?_,by omega⟩,au ?_⟩
     ·unfold Zp;simp only[YK,QL,QY]
      ((try simp only[bT,Qt,aE,Qn,Qp,Qj,QB,sX,sY,sG,sD,Qy,Qw,bf,QA,QC,Qq,Qr]at *);omega)
     ·rw[oY,Zf];((try simp only[bT,Qt,aE,Qn,Qp,Qj,QB,sX,sY,sG,sD,Qy,Qw,bf,QA,QC,Qq,Qr]at *);omega)
     ·rw[yF hk,db,show QJ (Qj s) m=(kn:Int) from fT,Int.toNat_natCast]
 ·have sE:((aq QT s.2.2.2.2.2.1 kn).2)=Zq s (kn:Int):=by unfold Zq;rw[if_neg (by rw[show Qp s=false from jV];simp)];try rfl
  refine⟨λh=>?_,λh=>au ?_,λh=>?_⟩
  ·simp at h;exact⟨by omega,by omega,by omega⟩
  ·rw[fm];rw[JF,<- sE];simp only[Bool.or_eq_true,bne_iff_ne,Bool.not_eq_true']at h
   rcases h with h | h
   ·have:(((aq QT s.2.2.2.2.2.1 kn).2).length==s.2.2.1.length+1)=false:=by rw[beq_eq_false_iff_ne];omega
    simp[this]
   ·have h':ZS (aE s) ((aq QT s.2.2.2.2.2.1 kn).2) (aE s).length=false:=h;simp[h']
  ·simp only[Bool.or_eq_false_iff,bne_eq_false_iff_eq,Bool.not_eq_false']at h;have h3:((Zq s (kn:Int)).length==(aE s).length+1)=true:=by rw[<- sE,beq_iff_eq];have:=h.1;((try simp only[bT,Qt,aE,Qn,Qp,Qj,QB,sX,sY,sG,sD,Qy,Qw,bf,QA,QC,Qq,Qr]at *);omega)
   have h4:ZS (aE s) (Zq s (kn:Int)) (aE s).length=true:=by rw[<- sE];exact h.2
   refine⟨λhl=>⟨⟨by omega,by have:=h.1;omega⟩,?_⟩,λhl=>?_⟩
   ·have hr:((aq QT s.2.2.2.2.2.1 kn).2)=Zq s (kn:Int):=by unfold Zq;rw[if_neg (by rw[show Qp s=false from jV];simp)];try rfl
    have hd:(((QZ (aq [] ((aq QT s.2.2.2.2.2.1 kn).2) s.2.2.1.length) t).1),((QZ (aq [] ((aq QT s.2.2.2.2.2.1 kn).2) s.2.2.1.length) t).2))=eN s (kn:Int) t:=by unfold eN;rw[if_pos (show Qn s=true from hl),<- hr];try rfl
    have hb:Yw s (kn:Int) t=QH ((QZ (aq [] ((aq QT s.2.2.2.2.2.1 kn).2) s.2.2.1.length) t).1) (Zu (Zm s)):=by
     rw[JF,<- hd,h1,h3,h4,decide_eq_true h2];rfl
    refine⟨λh=>au ?_,λh=>?_⟩
    ·rw[fm (by rw[hb];simpa using h)]
    ·have hv:QH ((QZ (aq [] ((aq QT s.2.2.2.2.2.1 kn).2) s.2.2.1.length) t).1) (Zu (Zm s))=true:=by simpa using h
     have cI:Yw s (kn:Int) t=true:=by rw[hb,hv]
     have CO:=Jc hv;have db:=yE (t:=t) (rows:=(aq QT s.2.2.2.2.2.1 kn).2) (d:=(QZ (aq [] ((aq QT s.2.2.2.2.2.1 kn).2) s.2.2.1.length) t).1) (b:=(QZ (aq [] ((aq QT s.2.2.2.2.2.1 kn).2) s.2.2.1.length) t).2) (by rw[show QJ (Qj s) m=(kn:Int) from fT];exact cI) (by rw[show QJ (Qj s) m=(kn:Int) from fT] ;exact hr) (by rw[show QJ (Qj s) m=(kn:Int) from fT] ;exact hd);have jx:((aq QT s.2.2.2.2.2.1 kn).2).length=s.2.2.1.length+1:=by rw[hr];rw[beq_iff_eq]at h3;exact h3
     have ld:=uH s.2.2.1 ((aq QT s.2.2.2.2.2.1 kn).2) ((QZ (aq [] ((aq QT s.2.2.2.2.2.1 kn).2) s.2.2.1.length) t).1);refine⟨⟨⟨by omega,by rw[Zf];((try simp only[bT,Qt,aE,Qn,Qp,Qj,QB,sX,sY,sG,sD,Qy,Qw,bf,QA,QC,Qq,Qr]at *);omega)⟩,by omega⟩,?_,⟨⟨by omega,by omega,by omega⟩,⟨by omega,by omega,by omega⟩,?_,by omega⟩,au ?_⟩
     ·unfold Zp;simp only[YK,QL,QY]
      ((try simp only[bT,Qt,aE,Qn,Qp,Qj,QB,sX,sY,sG,sD,Qy,Qw,bf,QA,QC,Qq,Qr]at *);omega)
     ·rw[oY,Zf];((try simp only[bT,Qt,aE,Qn,Qp,Qj,QB,sX,sY,sG,sD,Qy,Qw,bf,QA,QC,Qq,Qr]at *);omega)
     ·rw[yF hk,db,show QJ (Qj s) m=(kn:Int) from fT,Int.toNat_natCast]
   ·have hr:((aq QT s.2.2.2.2.2.1 kn).2)=Zq s (kn:Int):=by unfold Zq;rw[if_neg (by rw[show Qp s=false from jV];simp)];try rfl
    have hd:((s.2.2.2.2.2.2.2.2.2.1),(false))=eN s (kn:Int) t:=by unfold eN;rw[if_neg (by rw[show Qn s=false from hl];simp)];try rfl
    have hb:Yw s (kn:Int) t=QH (s.2.2.2.2.2.2.2.2.2.1) (Zu (Zm s)):=by
     rw[JF,<- hd,h1,h3,h4,decide_eq_true h2];rfl
    refine⟨λh=>au ?_,λh=>?_⟩
    ·rw[fm (by rw[hb];simpa using h)]
    ·have hv:QH (s.2.2.2.2.2.2.2.2.2.1) (Zu (Zm s))=true:=by simpa using h
     have cI:Yw s (kn:Int) t=true:=by rw[hb,hv]
     have CO:=Jc hv;have db:=yE (t:=t) (rows:=(aq QT s.2.2.2.2.2.1 kn).2) (d:=s.2.2.2.2.2.2.2.2.2.1) (b:=false) (by rw[show QJ (Qj s) m=(kn:Int) from fT];exact cI) (by rw[show QJ (Qj s) m=(kn:Int) from fT] ;exact hr) (by rw[show QJ (Qj s) m=(kn:Int) from fT] ;exact hd);have jx:((aq QT s.2.2.2.2.2.1 kn).2).length=s.2.2.1.length+1:=by rw[hr];rw[beq_iff_eq]at h3;exact h3
     have ld:=uH s.2.2.1 ((aq QT s.2.2.2.2.2.1 kn).2) (s.2.2.2.2.2.2.2.2.2.1);refine⟨⟨⟨by omega,by rw[Zf];((try simp only[bT,Qt,aE,Qn,Qp,Qj,QB,sX,sY,sG,sD,Qy,Qw,bf,QA,QC,Qq,Qr]at *);omega)⟩,by omega⟩,?_,⟨⟨by omega,by omega,by omega⟩,⟨by omega,by omega,by omega⟩,?_,by omega⟩,au ?_⟩
     ·unfold Zp;simp only[YK,QL,QY]
      ((try simp only[bT,Qt,aE,Qn,Qp,Qj,QB,sX,sY,sG,sD,Qy,Qw,bf,QA,QC,Qq,Qr]at *);omega)
     ·rw[oY,Zf];((try simp only[bT,Qt,aE,Qn,Qp,Qj,QB,sX,sY,sG,sD,Qy,Qw,bf,QA,QC,Qq,Qr]at *);omega)
     ·rw[yF hk,db,show QJ (Qj s) m=(kn:Int) from fT,Int.toNat_natCast]
theorem QNl:Qf Tryz.prog MK:=Qi λx h=>QFY x.1 x.2.1 x.2.2.1 h
def JD(t:Qc):aB:=fQ (.a (aR.cells Qe t))
def MO:aI:=Qg 31 [(.a Qe),(.c TI),(.c (.sl [TI]))] λx=>(some (pw x.1 x.2.1 x.2.2.1),JD (ZB x.1 x.2.1 x.2.2.1))
def yH:aF:=⟨[uL,yf,ur,Yy,BK,Mg,KU],false⟩
def QEd:af :=
 (ag [(ag [(.ae [ab 53 12,ak 54 3 2,an 55 54 1,a9 56 55,aw 57 .lss 53 56]),(.cond 57 .skip (.exit 0))]),(.block 1 (ag [(.draw [ab 60 9,ab 61 12,aZ 62 60 61 [(.sl [TI])],ak 63 62 0,an 64 63 1,aD 65 97 [64],bL 66 65,ab 67 66,.bt 67 false [ab 68 9,ab 69 12,aZ 70 68 69 [(.sl [TI])],ak 71 70 0,an 72 71 1,a9 73 72,ak 74 3 2,an 75 74 1,ab 76 12,aZ 77 75 76 aM,ak 78 77 1,an 79 78 1,aw 80 .neq 73 79] 81 80] []),(.cond 81 (ag [(.ae [a7 82 7 14,aT 6 82 14]),.ret]) .skip)])),(.ae [ab 58 12,aw 59 .add 58 (ar 1),ab 12 59])])
def QCt:List (Nat × Md):=[(2,.one .d),(3,.b (dH 14)),(6,.b (dH 14)),(7,.b [.d,.d,.d,.d,.d,.f,.d,.d,.d,.d,.d,.d,.d,.d]),(8,.one .d),(9,.one .d),(10,.one .d),(11,.one .d),(12,.one .d)]
def QAu:af :=
 (ag [(ag [(.ae [ab 99 10,a9 100 99,ak 101 3 2,an 102 101 1,ak 103 3 2,an 104 103 1,a9 105 104,aw 106 .sub 105 (ar 1),aZ 107 102 106 aM,ak 108 107 2,an 109 108 1,aw 110 .neq 100 109,ab 111 110,.bt 111 false [ab 112 10,aD 113 97 [112],bL 114 113] 115 114]),(.cond 115 (ag [(.ae [a7 116 7 14,aT 6 116 14]),.ret]) .skip)]),(.ae [ak 118 3 2,an 119 118 1,ab 120 9,ab 121 10,aD 122 108 [119,120,121],ab 117 122,bF 123 117 0,bF 124 117 1,bF 125 117 2,ab 15 123,ab 16 124,ab 17 125]),(.ae [ak 126 3 11,a7 127 126 3,ab 128 15,ab 129 11,ab 130 129,.bt 130 false [ab 131 17] 132 131,aC 133 (.build (bG Zj) [(0,1,128),(2,1,132)]),aD 134 109 [127,133],aC 18 (.new 37 (bG Zj)),aT 18 134 3]),(.ae [a7 135 18 3,ak 136 7 11,aT 136 135 3]),(.ae [ab 137 16,ak 138 7 10,aT 138 137 1]),(.ae [aC 139 (.bW 3 [TI] []),ak 140 7 9,aT 140 139 1]),(.ae [aC 141 (.bW 106 [(.sl [TI])] []),ak 142 7 6,aT 142 141 1]),(.draw [ak 143 7 5,an 144 143 1,ab 145 8,aC 146 (.fx 144 none (some 145) QE),ak 147 7 5,an 148 147 1,ab 149 8,aw 150 .add 149 (ar 1),aC 151 (.fx 148 (some 150) none QE),aC 152 (.app 146 151 108 QE),ak 153 7 5,aT 153 152 1] []),(.ae [a7 154 7 14,aT 6 154 14]),.ret])
def QKD:List (Nat × Md):=[(3,.b (dH 14)),(6,.b (dH 14)),(7,.b [.d,.d,.d,.d,.d,.f,.d,.d,.d,.d,.d,.d,.d,.d]),(8,.one .d),(9,.one .d),(10,.one .d),(11,.one .d)]
def QHw:af:=.wk QKD QAu
def QE2:af :=
 (ag [(ag [(.ae [ak 83 3 3,an 84 83 1]),(.cond 84 (ag [(.ae [ab 86 9,ak 87 3 2,an 88 87 1,a9 89 88,aZ 90 86 89 [(.sl [TI])],ak 91 90 0,an 92 91 1,ab 93 2,aD 94 107 [92,93],ab 85 94,bF 95 85 0,bF 96 85 1,ab 13 95,ab 14 96]),(.ae [ab 97 13,ab 10 97]),(.ae [ab 98 14,ab 11 98])]) .skip)]),QHw])
def Quy:af :=
 (ag [(.ae [ak 43 3 9,an 44 43 1,ab 10 44]),(.ae [ab 11 (a0 false)]),(ag [(.ae [ab 45 9,a9 46 45,ak 47 3 2,an 48 47 1,a9 49 48,aw 50 .add 49 (ar 1),aw 51 .neq 46 50]),(.cond 51 (ag [(.ae [a7 52 7 14,aT 6 52 14]),.ret]) .skip)]),(ag [(.ae [ab 12 (ar 0)]),(.block 0 (.loop QCt QEd))]),QE2])
def QRU:List (Nat × Md):=[(2,.one .d),(3,.b (dH 14)),(6,.b (dH 14)),(7,.b [.d,.d,.d,.d,.d,.f,.d,.d,.d,.d,.d,.d,.d,.d]),(8,.one .d),(9,.one .d)]
def QNF:af:=.wk QRU Quy
def QTE:af :=
 (ag [(.ae [aC 3 (.box 39 0 14),aC 6 (.new 39 (bG Qe))]),(.ae [a7 19 3 14,aD 20 61 [19],aC 7 (.new 39 (bG Qe)),aT 7 20 14]),(.ae [ak 21 3 5,an 22 21 1,ab 23 1,aD 24 62 [22,23],ab 8 24]),(ag [(.ae [a7 25 3 14,aD 26 63 [25],bL 27 26,ab 28 27,.bt 28 false [ab 29 8,aw 30 .lss 29 (ar 0)] 31 30]),(.cond 31 (ag [(.ae [a7 32 7 14,aT 6 32 14]),.ret]) .skip)]),(.ae [ak 33 3 5,an 34 33 1,ab 35 8,aZ 36 34 35 QE,ak 37 36 1,an 38 37 1,ab 9 38]),(ag [(.ae [ak 39 3 4,an 40 39 1]),(.cond 40 (.ae [ak 41 3 6,an 42 41 1,ab 9 42]) .skip)]),QNF])
def QuY:List (bm × Md):=[(.l 6 14 true,.b (dH 14))]
def CP:Qb:=TQ 0 0 QuY K
@[irreducible] def CQ(s:Qc)(m:Int)(dn:List (List Int))(y5:List QD)(d:List Int)(sat:Bool):Prop:=let z1:=id (α:=Qc) s
 aN yH 0 QAu (CP K) ⟨[(3,(.p 0 0 0)),(6,(.p 1 0 0)),(7,(.p 3 0 0)),(8,(aL (QJ s.2.2.2.2.2.1 m))),(9,(bc [(.sl [TI])] dn)),(10,(bc [TI] d)),(11,(bE sat))],[(0,(.box (aR.cells Qe s))),(1,(.box (aR.cells Qe ((0:Int),[],[],false,false,[],[],[],[],[],[],[],(0:Int),false)))),(2,(.sl 108 QE .ow (List.take y5.length y5))),(3,(.box [(aL (z1.1)),(bc QQ (z1.2.1)),(bc aM (z1.2.2.1)),(bE (z1.2.2.2.1)),(bE (z1.2.2.2.2.1)),(.r QE 2 0 ((List.take y5.length y5).length)),(bc [(.sl [TI])] (z1.2.2.2.2.2.2.1)),(bc [TI] (z1.2.2.2.2.2.2.2.1)),(bc [TI] (z1.2.2.2.2.2.2.2.2.1)),(bc [TI] (z1.2.2.2.2.2.2.2.2.2.1)),(bc [TI] (z1.2.2.2.2.2.2.2.2.2.2.1)),(bc [(.sl [TI])] (z1.2.2.2.2.2.2.2.2.2.2.2.1)),(aL (z1.2.2.2.2.2.2.2.2.2.2.2.2.1)),(bE (z1.2.2.2.2.2.2.2.2.2.2.2.2.2))]))],4⟩
def QUo:Qb:=aY (aN yH 0 QE2 (CP K)) (CP K)
def QQy:Qb:=a6 0 (QUo K)
def yI(s:Qc)(m:Int)(t:List Int)(dn:List (List Int))(i:Int)(y5:List QD):Prop:=let z1:=id (α:=Qc) s
 Loop yH 0 QCt QEd (QQy K) ⟨[(2,(bc [TI] t)),(3,(.p 0 0 0)),(6,(.p 1 0 0)),(7,(.p 3 0 0)),(8,(aL (QJ s.2.2.2.2.2.1 m))),(9,(bc [(.sl [TI])] dn)),(10,(bc [TI] s.2.2.2.2.2.2.2.2.2.1)),(11,(bE false)),(12,(aL i))],[(0,(.box (aR.cells Qe s))),(1,(.box (aR.cells Qe ((0:Int),[],[],false,false,[],[],[],[],[],[],[],(0:Int),false)))),(2,(.sl 108 QE .ow y5)),(3,(.box [(aL (z1.1)),(bc QQ (z1.2.1)),(bc aM (z1.2.2.1)),(bE (z1.2.2.2.1)),(bE (z1.2.2.2.2.1)),(.r QE 2 0 y5.length),(bc [(.sl [TI])] (z1.2.2.2.2.2.2.1)),(bc [TI] (z1.2.2.2.2.2.2.2.1)),(bc [TI] (z1.2.2.2.2.2.2.2.2.1)),(bc [TI] (z1.2.2.2.2.2.2.2.2.2.1)),(bc [TI] (z1.2.2.2.2.2.2.2.2.2.2.1)),(bc [(.sl [TI])] (z1.2.2.2.2.2.2.2.2.2.2.2.1)),(aL (z1.2.2.2.2.2.2.2.2.2.2.2.2.1)),(bE (z1.2.2.2.2.2.2.2.2.2.2.2.2.2))]))],4⟩
@[irreducible] def CS(s:Qc)(m:Int)(t:List Int)(dn:List (List Int)):Prop:=let z1:=id (α:=Qc) s
 let z2:=List.take ((z1.2.2.2.2.2.1).length) (z1.2.2.2.2.2.1)
 aN yH 0 Quy (CP K) ⟨[(2,(bc [TI] t)),(3,(.p 0 0 0)),(6,(.p 1 0 0)),(7,(.p 3 0 0)),(8,(aL (QJ s.2.2.2.2.2.1 m))),(9,(bc [(.sl [TI])] dn))],[(0,(.box (aR.cells Qe s))),(1,(.box (aR.cells Qe ((0:Int),[],[],false,false,[],[],[],[],[],[],[],(0:Int),false)))),(2,(.sl 108 QE .ow z2)),(3,(.box [(aL (z1.1)),(bc QQ (z1.2.1)),(bc aM (z1.2.2.1)),(bE (z1.2.2.2.1)),(bE (z1.2.2.2.2.1)),(.r QE 2 0 (z2.length)),(bc [(.sl [TI])] (z1.2.2.2.2.2.2.1)),(bc [TI] (z1.2.2.2.2.2.2.2.1)),(bc [TI] (z1.2.2.2.2.2.2.2.2.1)),(bc [TI] (z1.2.2.2.2.2.2.2.2.2.1)),(bc [TI] (z1.2.2.2.2.2.2.2.2.2.2.1)),(bc [(.sl [TI])] (z1.2.2.2.2.2.2.2.2.2.2.2.1)),(aL (z1.2.2.2.2.2.2.2.2.2.2.2.2.1)),(bE (z1.2.2.2.2.2.2.2.2.2.2.2.2.2))]))],4⟩
theorem QW9(s:Qc)(m:Int)(dn:List (List Int))(y5:List QD)(d:List Int)(sat:Bool) (h :
 let z2:=id (α:=Qc) s
 let z3:=QJ s.2.2.2.2.2.1 m
 let z5:=List.take y5.length y5
 let z1:=List.take (Int.toNat ((z5.length:Nat):Int)-Int.toNat (aG (z3+1))) (List.drop (0+Int.toNat (aG (z3+1))) z5)
 let z6:=Int.toNat z3-Int.toNat 0
 let z7:=Q2 s.2.2.1 dn d
 let z4:=Z1 s.2.2.2.2.2.2.2.2.2.2.2 (z7.1,(0:Int),(sat||(z7.2.2)))
 let z8:=aG (((s.2.2.1).length:Int)-1)
 ((0<=aG (((s.2.2.1).length:Int)-1)/\Int.toNat z8<(s.2.2.1).length)/\(aJ (((d.length:Int) != ((aq b6 s.2.2.1 (Int.toNat z8)).2.2.1))||(!(QK d))) (K (JD (z2.1,z2.2.1,z2.2.2.1,z2.2.2.2.1,z2.2.2.2.2.1,(List.take (z5.length) (List.drop 0 z5)),z2.2.2.2.2.2.2.1,z2.2.2.2.2.2.2.2.1,z2.2.2.2.2.2.2.2.2.1,z2.2.2.2.2.2.2.2.2.2.1,z2.2.2.2.2.2.2.2.2.2.2.1,z2.2.2.2.2.2.2.2.2.2.2.2.1,z2.2.2.2.2.2.2.2.2.2.2.2.2.1,z2.2.2.2.2.2.2.2.2.2.2.2.2.2))) ((Gu s.2.2.1 dn d)/\((Zp (α:=QO) (β:=QO) s.2.2.2.2.2.2.2.2.2.2.2 (z7.1,(0:Int),(sat||(z7.2.2))))/\((((0:Int)<=0/\0<=z3/\z3<=((z5.length:Nat):Int))/\((0<=aG (z3+1)/\aG (z3+1)<=((z5.length:Nat):Int)/\((z5.length:Nat):Int)<=((z5.length:Nat):Int))/\((z6=z5.length\/z6+z1.length<=z5.length)/\z6+z1.length<=cc)))/\K (JD (z2.1,z2.2.1,z2.2.2.1,z2.2.2.2.1,z2.2.2.2.2.1,(List.take (z6+z1.length) (List.drop 0 ((List.take z6 z5)++z1))),([]:List (List Int)),z2.2.2.2.2.2.2.2.1,z2.2.2.2.2.2.2.2.2.1,([]:List Int),z7.2.1,z4.1,z4.2.1,z4.2.2)))))))):du (CQ K s m dn y5 d sat) :=
 du.of h
theorem QsE(s:Qc)(m:Int)(t:List Int)(dn:List (List Int))(i:Int)(y5:List QD) (h :
 (aJ (decide (i<((s.2.2.1).length:Int))) (((0<=i/\Int.toNat i<dn.length)/\((!(!(QK (aq ([]:List Int) dn (Int.toNat i)))))=true->((0<=i/\Int.toNat i<dn.length)/\(0<=i/\Int.toNat i<(s.2.2.1).length))))/\(aJ ((!(QK (aq ([]:List Int) dn (Int.toNat i))))||(((aq ([]:List Int) dn (Int.toNat i)).length:Int) != ((aq b6 s.2.2.1 (Int.toNat i)).2.1))) (K (JD ((id (α:=Qc) s).1,(id (α:=Qc) s).2.1,(id (α:=Qc) s).2.2.1,(id (α:=Qc) s).2.2.2.1,(id (α:=Qc) s).2.2.2.2.1,(List.take y5.length (List.drop 0 y5)),(id (α:=Qc) s).2.2.2.2.2.2.1,(id (α:=Qc) s).2.2.2.2.2.2.2.1,(id (α:=Qc) s).2.2.2.2.2.2.2.2.1,(id (α:=Qc) s).2.2.2.2.2.2.2.2.2.1,(id (α:=Qc) s).2.2.2.2.2.2.2.2.2.2.1,(id (α:=Qc) s).2.2.2.2.2.2.2.2.2.2.2.1,(id (α:=Qc) s).2.2.2.2.2.2.2.2.2.2.2.2.1,(id (α:=Qc) s).2.2.2.2.2.2.2.2.2.2.2.2.2))) (yI K s m t dn (aG (i+1)) (List.take y5.length y5)))) (aJ s.2.2.2.1 ((0<=((s.2.2.1).length:Int)/\Int.toNat ((s.2.2.1).length:Int)<dn.length)/\(CQ K s m dn y5 ((QZ (aq ([]:List Int) dn (Int.toNat ((s.2.2.1).length:Int))) t).1) ((QZ (aq ([]:List Int) dn (Int.toNat ((s.2.2.1).length:Int))) t).2))) (CQ K s m dn y5 s.2.2.2.2.2.2.2.2.2.1 false)))):yI K s m t dn i y5 :=
 Loop.of h
theorem QPf(s:Qc)(m:Int)(t:List Int)(dn:List (List Int)) (h :
 let z1:=id (α:=Qc) s
 let z2:=List.take ((z1.2.2.2.2.2.1).length) (z1.2.2.2.2.2.1)
 (aJ ((dn.length:Int) != (aG (((s.2.2.1).length:Int)+1))) (K (JD (z1.1,z1.2.1,z1.2.2.1,z1.2.2.2.1,z1.2.2.2.2.1,(List.take (z2.length) (List.drop 0 z2)),z1.2.2.2.2.2.2.1,z1.2.2.2.2.2.2.2.1,z1.2.2.2.2.2.2.2.2.1,z1.2.2.2.2.2.2.2.2.2.1,z1.2.2.2.2.2.2.2.2.2.2.1,z1.2.2.2.2.2.2.2.2.2.2.2.1,z1.2.2.2.2.2.2.2.2.2.2.2.2.1,z1.2.2.2.2.2.2.2.2.2.2.2.2.2))) (yI K s m t dn 0 (List.take (z2.length) z2)))):du (CS K s m t dn) :=
 du.of h
theorem QLk(s:Qc)(m:Int)(t:List Int)(hp:pw s m t):aK Tryz.prog 31 [(.a (aR.cells Qe s)),(.c TI m),(.c (.sl [TI]) t)] (JD (ZB s m t)):=by
 refine bw yH QTE QuY 0 0 155 MO (kc CH (kc K9 (kc Bw (kc YL (kc QtS (kc QUL (kc QVe kn))))))) (λK =>
 ((Qs (α:=Qc) s)/\(aJ ((!(QU s))||(decide ((QJ s.2.2.2.2.2.1 m)<0))) (K (JD ((id (α:=Qc) s).1,(id (α:=Qc) s).2.1,(id (α:=Qc) s).2.2.1,(id (α:=Qc) s).2.2.2.1,(id (α:=Qc) s).2.2.2.2.1,(List.take (((id (α:=Qc) s).2.2.2.2.2.1).length) (List.drop 0 ((id (α:=Qc) s).2.2.2.2.2.1))),(id (α:=Qc) s).2.2.2.2.2.2.1,(id (α:=Qc) s).2.2.2.2.2.2.2.1,(id (α:=Qc) s).2.2.2.2.2.2.2.2.1,(id (α:=Qc) s).2.2.2.2.2.2.2.2.2.1,(id (α:=Qc) s).2.2.2.2.2.2.2.2.2.2.1,(id (α:=Qc) s).2.2.2.2.2.2.2.2.2.2.2.1,(id (α:=Qc) s).2.2.2.2.2.2.2.2.2.2.2.2.1,(id (α:=Qc) s).2.2.2.2.2.2.2.2.2.2.2.2.2))) (((0:Int)<=(QJ s.2.2.2.2.2.1 m)/\Int.toNat (QJ s.2.2.2.2.2.1 m)<(s.2.2.2.2.2.1).length)/\(aJ s.2.2.2.2.1 (CS K s m t s.2.2.2.2.2.2.1) (CS K s m t ((aq QT s.2.2.2.2.2.1 (Int.toNat (QJ s.2.2.2.2.2.1 m))).2))))))) (λhb=>?_)
 have il:Sz.sz s<=2147483648:=hp;have hs:=ZL s;have l1:=Yl (Qj s);obtain⟨kf,fT⟩:∃ kf,QJ s.2.2.2.2.2.1 m=kf:=⟨_,rfl⟩
 have hf:=yD (Qj s) m;rw[show QJ (Qj s) m=kf from fT]at hf;have fm:Yw s kf t=false->(ZB s m t)=s:=λh=>Qua (by rw[show QJ (Qj s) m=kf from fT,h];simp);have k4:QU s=true->0<=kf->∀ rows d sat,rows=Zq s kf->(d,sat)=eN s kf t->((Zq s kf).length==(aE s).length+1)=true->ZS (aE s) (Zq s kf) (aE s).length=true->CQ (λr'=>r'=JD (ZB s m t)) s m rows s.2.2.2.2.2.1 d sat:=by
  intro h1 h2 rows d sat hr hd h3 h4;have hm:=YZ h1;have cX:1<=s.2.2.1.length/\s.2.2.1.length<=8:=Yv hm;have hb:Yw s kf t=QH d (Zu (Zm s)):=by
   rw[JF,<- hd,h1,h3,h4,decide_eq_true h2];rfl
  obtain⟨kn,jz⟩:∃ kn:Nat,kf=kn:=⟨kf.toNat,by omega⟩
  have hw:aG ((s.2.2.1.length:Int)-1)=((s.2.2.1.length-1:Nat):Int):=by rw[QG (by omega) (by omega)];omega
  have hg:(((d.length:Int) != (aq b6 s.2.2.1 (s.2.2.1.length-1)).2.2.1)||(!(QK d))) = !QH d (Zu (Zm s)):=by
   rw[show Zu (Zm s)=_ from QqT hm];show _ = !(QK d&&((d.length:Int)==(aq b6 s.2.2.1 (s.2.2.1.length-1)).2.2.1));simp only[bne]
   cases QK d <;> cases((d.length:Int)==(aq b6 s.2.2.1 (s.2.2.1.length-1)).2.2.1) <;> rfl
  refine(QW9 _ _ _ _ _ _ _ ?_).h
  conv=>zeta
  simp only[id,List.drop_zero,List.take_length,true_or,true_and,Nat.zero_add];rw[fT,jz,hw,Int.toNat_natCast,hg];refine⟨⟨by omega,by omega⟩,λh=>au ?_,λh=>?_⟩
  ·rw[fm (by rw[hb];simpa using h)]
  ·have hv:QH d (Zu (Zm s))=true:=by simpa using h
   have cI:Yw s kf t=true:=by rw[hb,hv]
   have CO:=Jc hv;rw[beq_iff_eq]at h3;have fG:=QBm h1;have yG:Sz.sz (α:=QO) s.2.2.2.2.2.2.2.2.2.2.2<=296:=TB (YZ h1) ⟨fG.1,fG.2⟩;have db:=yE (t:=t) (rows:=rows) (d:=d) (b:=sat) (by rw[show QJ (Qj s) m=kf from fT];exact cI) (by rw[show QJ (Qj s) m=kf from fT] ;exact hr) (by rw[show QJ (Qj s) m=kf from fT] ;exact hd);have hk:kn<s.2.2.2.2.2.1.length:=by((try simp only[bT,Qt,aE,Qn,Qp,Qj,QB,sX,sY,sG,sD,Qy,Qw,bf,QA,QC,Qq,Qr]at *);omega)
   have jx:rows.length=s.2.2.1.length+1:=by rw[hr];exact h3
   have ld:=uH s.2.2.1 rows d;have oY:(List.take (s.2.2.2.2.2.1.length-(kn+1)) (List.drop (kn+1) s.2.2.2.2.2.1)).length=s.2.2.2.2.2.1.length-(kn+1):=by simp
   rw[dM (by((try simp only[bT,Qt,aE,Qn,Qp,Qj,QB,sX,sY,sG,sD,Qy,Qw,bf,QA,QC,Qq,Qr]at *);omega))];simp only[Int.toNat_natCast,show Int.toNat 0=0 from rfl,Nat.sub_zero];refine⟨⟨by omega,by rw[Zf];((try simp only[bT,Qt,aE,Qn,Qp,Qj,QB,sX,sY,sG,sD,Qy,Qw,bf,QA,QC,Qq,Qr]at *);omega)⟩,?_,⟨⟨by omega,by omega,by omega⟩,⟨by omega,by omega,by omega⟩,?_⟩,au ?_⟩
   ·unfold Zp;simp only[YK,QL,QY]
    ((try simp only[bT,Qt,aE,Qn,Qp,Qj,QB,sX,sY,sG,sD,Qy,Qw,bf,QA,QC,Qq,Qr]at *);omega)
   ·rw[oY,Zf];((try simp only[bT,Qt,aE,Qn,Qp,Qj,QB,sX,sY,sG,sD,Qy,Qw,bf,QA,QC,Qq,Qr]at *);omega)
   ·rw[yF hk,db,show QJ (Qj s) m=kf from fT,jz,Int.toNat_natCast]
 have k3:QU s=true->0<=kf->∀ rows,rows=Zq s kf->((Zq s kf).length==(aE s).length+1)=true->yI (λr'=>r'=JD (ZB s m t)) s m t rows ((0:Nat):Int) s.2.2.2.2.2.1:=by
  intro h1 h2 rows hr h3;have hm:=YZ h1;have cX:1<=s.2.2.1.length/\s.2.2.1.length<=8:=Yv hm;have jx:rows.length=s.2.2.1.length+1:=by rw[hr];exact beq_iff_eq.1 h3
  refine rq s.2.2.1.length (λk=>YF s.2.2.1 k ((rows.drop k).take (s.2.2.1.length-k))=ZS s.2.2.1 rows s.2.2.1.length->yI (λr'=>r'=JD (ZB s m t)) s m t rows (k:Int) s.2.2.2.2.2.1) ?_ ?_ ?_
  ·intro hg;rw[Nat.sub_self,List.take_zero,YF]at hg;have h4:ZS (aE s) (Zq s kf) (aE s).length=true:=by rw[<- hr];exact hg.symm
   refine QsE _ _ _ _ _ _ _ ⟨λh=>by simp at h,λ_=>⟨λhl=>⟨⟨by omega,by rw[Int.toNat_natCast];omega⟩,?_⟩,λhl=>k4 h1 h2 _ _ _ hr ?_ h3 h4⟩⟩
   ·rw[Int.toNat_natCast];refine k4 h1 h2 _ _ _ hr ?_ h3 h4;unfold eN;rw[if_pos hl,<- hr]
   ·unfold eN;rw[if_neg (by rw[show Qn s=false from hl];simp)]
  ·intro k hk ih hg;rw[QM6 hk (by omega)]at hg;have hv:((!(QK (aq [] rows k)))||(((aq [] rows k).length:Int) != (aq b6 s.2.2.1 k).2.1)) = !QH (aq [] rows k) (aq b6 s.2.2.1 k).2.1:=by
    unfold QH;simp only[bne]
    cases QK (aq [] rows k) <;> cases(((aq [] rows k).length:Int)==(aq b6 s.2.2.1 k).2.1) <;> rfl
   refine QsE _ _ _ _ _ _ _ ⟨λ_=>?_,λh=>by simp at h;omega⟩;simp only[id,List.drop_zero,List.take_length,Int.toNat_natCast];rw[hv,dM (by omega)];refine⟨⟨⟨by omega,by omega⟩,λ_=>⟨⟨by omega,by omega⟩,by omega,by omega⟩⟩,λh=>au ?_,λh=>ih ?_⟩
   ·rw[fm];have h5:QH (aq [] rows k) (aq b6 s.2.2.1 k).2.1=false:=by simpa using h
    rw[h5,Bool.false_and]at hg;rw[JF,<- hr,show ZS (aE s) rows (aE s).length=false from hg.symm];simp
   ·have h5:QH (aq [] rows k) (aq b6 s.2.2.1 k).2.1=true:=by simpa using h
    rw[h5,Bool.true_and]at hg;exact hg
  ·rw[List.drop_zero,Nat.sub_zero];unfold ZS;rw[Int.toNat_natCast]
 have k1:QU s=true->0<=kf->∀ rows,rows=Zq s kf->CS (λr'=>r'=JD (ZB s m t)) s m t rows:=by
  intro h1 h2 rows hr;have cX:1<=s.2.2.1.length/\s.2.2.1.length<=8:=Yv (YZ h1);refine(QPf _ _ _ _ _ ?_).h
  conv=>zeta
  simp only[id,List.drop_zero,List.take_length,true_or,true_and,Nat.zero_add,Int.toNat_natCast];rw[dM (k:=s.2.2.1.length) (by omega)];refine⟨λh=>au ?_,λh=>k3 h1 h2 _ hr ?_⟩
  ·rw[fm];have:(rows.length==s.2.2.1.length+1)=false:=by
    rw[beq_eq_false_iff_ne];simp only[bne_iff_ne]at h;omega
   rw[JF,<- hr];simp[this]
  ·rw[<- hr,beq_iff_eq];simp only[bne_eq_false_iff_eq]at h
   ((try simp only[bT,Qt,aE,Qn,Qp,Qj,QB,sX,sY,sG,sD,Qy,Qw,bf,QA,QC,Qq,Qr]at *);omega)
 simp only[id,List.drop_zero,List.take_length,true_or,true_and,Nat.zero_add];rw[CB,show QJ (Qj s) m=kf from fT];refine⟨hp,λh=>au ?_,λh=>?_⟩
 ·rw[fm];simp only[Bool.not_eq_true']at h;rw[JF,h];rfl
 ·simp only[Bool.not_eq_false',Bool.and_eq_true,decide_eq_true_eq]at h;refine⟨⟨h.2,by((try simp only[bT,Qt,aE,Qn,Qp,Qj,QB,sX,sY,sG,sD,Qy,Qw,bf,QA,QC,Qq,Qr]at *);omega)⟩,λhr=>k1 h.1 h.2 _ ?_,λhr=>k1 h.1 h.2 _ ?_⟩
  ·unfold Zq;rw[if_pos hr]
  ·unfold Zq;rw[if_neg (by rw[show Qp s=false from hr];simp)]
theorem QT4:Qf Tryz.prog MO:=Qi λx h=>QLk x.1 x.2.1 x.2.2.1 h
end
end Go.Proofs.YtdplaepmjogjjaaGreat.Am

namespace Go.Proofs.YtdplaepmjogjjaaGreat.Am
open Go Go.RowKit Go.Proofs.YtdplaepmjogjjaaGreat
set_option linter.all false
noncomputable section
variable (K:aB->Prop)
def MP(t:Bool):aB:=b7 (bE t)
def CU:aI:=Qg 221 [(.a Qu)] λx=>(none,MP (Yo x.1))
def QRH:aF:=⟨[nQ],false⟩
def QVn:af :=
 (ag [(.ae [aC 1 (.box 178 0 2),ab 2 (a0 false)]),(.ae [ak 3 1 1,an 4 3 1,aD 5 187 [4],ab 6 5,.bt 6 true [ak 7 1 0,an 8 7 1,aw 9 .geq 8 (ar 0)] 10 9,ab 11 10,.bt 11 true [ak 12 1 0,an 13 12 1,aw 14 .lss 13 (ar 5)] 15 14,ab 2 15]),.ret])
def QRz:List (bm × Md):=[(.t 2,.one .d)]
theorem QXb(x:Qm):aK Tryz.prog 221 [(.a [(.c TI x.1),(.c (.sl [TI]) x.2)])] (MP (Yo x)):=by
 refine bw QRH QVn QRz 0 0 16 CU (kc si kn) (λK =>
 K (MP (((QK x.2)&&(decide (x.1>=0)))&&(decide (x.1<5))))) (λhb=>?_)
 exact au (by grind[Yo])
theorem QtK:Qf Tryz.prog CU:=Qi λx _=>QXb x.1
def CV(t:Bool):aB:=b7 (bE t)
def yJ:aI:=Qg 218 [(.a Qh)] λx=>(none,CV (Q0 x.1))
def MQ:aF:=⟨[Yy,YQ],false⟩
def QBp:af :=
 (ag [(ag [(.ae [ab 4 3,ak 5 1 1,an 6 5 1,a9 7 6,aw 8 .lss 4 7]),(.cond 8 .skip (.exit 0))]),(.block 1 (ag [(.ae [ak 11 1 1,an 12 11 1,ab 13 3,aZ 14 12 13 Qu,ak 15 14 1,an 16 15 1,aD 17 97 [16],bL 18 17,ab 19 18,.bt 19 false [ak 20 1 1,an 21 20 1,ab 22 3,aZ 23 21 22 Qu,ak 24 23 0,an 25 24 1,aD 26 158 [25,(ar 0),(ar 4)],bL 27 26] 28 27]),(.cond 28 (ag [(.ae [ab 2 (a0 false)]),.ret]) .skip)])),(.ae [ab 9 3,aw 10 .add 9 (ar 1),ab 3 10])])
def QDe:List (Nat × Md):=[(1,.b [.d,.d]),(3,.one .d)]
def QCJ:af :=
 (ag [(.ae [ak 29 1 0,an 30 29 1,aD 31 158 [30,(ar 1),(ar 5)],ab 32 31,.bt 32 true [ak 33 1 1,an 34 33 1,a9 35 34,ak 36 1 0,an 37 36 1,aw 38 .leq 35 37] 39 38,ab 2 39]),.ret])
def QQX:af :=
 (ag [(.ae [aC 1 (.box 161 0 2),ab 2 (a0 false)]),(ag [(.ae [ab 3 (ar 0)]),(.block 0 (.loop QDe QBp))]),QCJ])
def QuB:List (bm × Md):=[(.t 2,.one .d)]
def Qx5:Qb:=TQ 0 0 QuB K
def QFi:Qb:=aY (aN MQ 0 QCJ (Qx5 K)) (Qx5 K)
def QJS:Qb:=a6 0 (QFi K)
def CW(q:Qd)(i:Int):Prop:=Loop MQ 0 QDe QBp (QJS K) ⟨[(1,(.p 0 0 0)),(3,(aL i))],[(0,(.box [(aL q.1),(bc Qu q.2)]))],1⟩
theorem QwE(q:Qd)(i:Int) (h :
 (aJ (decide (i<((q.2).length:Int))) (((0<=i/\Int.toNat i<(q.2).length)/\((!(!(QK ((aq ((0,[]):Qm) q.2 (Int.toNat i)).2))))=true->(0<=i/\Int.toNat i<(q.2).length)))/\(aJ ((!(QK ((aq ((0,[]):Qm) q.2 (Int.toNat i)).2)))||(!(bh ((aq ((0,[]):Qm) q.2 (Int.toNat i)).1) (0:Int) (4:Int)))) (K (CV false)) (CW K q (aG (i+1))))) (K (CV ((bh q.1 (1:Int) (5:Int))&&(decide (((q.2).length:Int)<=q.1))))))):CW K q i :=
 Loop.of h
theorem QR4(q:Qd):aK Tryz.prog 218 [(.a [(.c TI q.1),(.c (.sl Qu) q.2)])] (CV (Q0 q)):=by
 refine bw MQ QQX QuB 0 0 40 yJ (kc YL (kc Jo kn)) (λK =>
 (CW K q 0)) (λhb=>?_)
 have mc:(q.2).length<=9223372036854775807:=hb.1.2.1.1;refine Za q.2 (λr k=>r.all Yo=q.2.all Yo->CW _ q k) ?_ ?_ rfl
 ·intro he;refine QwE _ q _ ⟨λh=>by simp at h,λ_=>?_⟩;grind[Q0,bh]
 ·intro k x r hk aU hg ih he;refine QwE _ q _ ⟨λ_=>?_,λh=>by simp at h;omega⟩;rw[Int.toNat_natCast,hg,QG (by omega) (by omega)];grind[Q0,Yo,bh]
theorem MR:Qf Tryz.prog yJ:=Qi λx _=>QR4 x.1
def sF(t:Bool):aB:=b7 (bE t)
def yK:aI:=Qg 220 [(.a Qh)] λx=>(none,sF (Q0 x.1))
def MS:aF:=⟨[CU],false⟩
def Qte:af :=
 (ag [(.ae [aw 25 .lss 24 23]),(.cond 25 .skip (.exit 0)),(.block 1 (ag [(.ae [aZ 26 22 24 Qu,a7 27 26 2,aC 4 (.new 178 (bG Qu)),aT 4 27 2]),(.ae [a7 28 4 2,aD 29 221 [28],bL 30 29]),(.cond 30 (ag [(.ae [ab 2 (a0 false)]),.ret]) .skip)])),(.ae [aw 31 .add 24 (ar 1),ab 24 31])])
def Qyg:List (Nat × Md):=eW [22,23,24]
def Quh:af :=
 (ag [(.ae [ab 2 (a0 true)]),.ret])
def QQs:af :=
 (ag [(.ae [aC 1 (.box 161 0 2),ab 2 (a0 false)]),(ag [(.ae [ak 5 1 0,an 6 5 1,aw 7 .lss 6 (ar 1),ab 8 7,.bt 8 false [ak 9 1 0,an 10 9 1,aw 11 .gtr 10 (ar 5)] 12 11,ab 13 12,.bt 13 false [ak 14 1 1,an 15 14 1,a9 16 15,ak 17 1 0,an 18 17 1,aw 19 .gtr 16 18] 20 19]),(.cond 20 (ag [(.ae [ab 2 (a0 false)]),.ret]) .skip)]),(ag [(.ae [ak 21 1 1,an 22 21 1,a9 23 22,ab 24 (ar 0)]),(.block 0 (.loop Qyg Qte))]),Quh])
def QsK:List (bm × Md):=[(.t 2,.one .d)]
def QtT:Qb:=TQ 0 0 QsK K
def QYs:Qb:=aY (aN MS 0 Quh (QtT K)) (QtT K)
def QOA:Qb:=a6 0 (QYs K)
def MT(q:Qd)(x:Int):Prop:=Loop MS 0 Qyg Qte (QOA K) ⟨[(22,(bc Qu q.2)),(23,(aL ((q.2).length:Int))),(24,(aL x))],[],0⟩
theorem QME(q:Qd)(x:Int) (h :
 (aJ (decide (x<((q.2).length:Int))) ((0<=x/\Int.toNat x<(q.2).length)/\(aJ (!(Yo (aq ((0,[]):Qm) q.2 (Int.toNat x)))) (K (sF false)) (MT K q (aG (x+1))))) (K (sF true)))):MT K q x :=
 Loop.of h
theorem QW4(q:Qd):aK Tryz.prog 220 [(.a [(.c TI q.1),(.c (.sl Qu) q.2)])] (sF (Q0 q)):=by
 refine bw MS QQs QsK 0 0 32 yK (kc QtK kn) (λK =>
 (aJ (((decide (q.1<1))||(decide (q.1>5)))||(decide (((q.2).length:Int)>q.1))) (K (sF false)) (MT K q 0))) (λhb=>?_)
 have mc:(q.2).length<=9223372036854775807:=hb.1.2.1.1;refine⟨λh=>au ?_,λh=>oZ (Q:=λx=>sF x=sF (Q0 q)) (p:=Yo) (c:=λx=>!(Yo x)) (0,[]) mc (λ_=>rfl) (λi h=>QME _ q i h) (au ?_)⟩
 ·grind[Q0]
 ·grind[Q0]
theorem MU:Qf Tryz.prog yK:=Qi λx _=>QW4 x.1
def MV(t:Bool):aB:=b7 (bE t)
def MW:aI:=Qg 180 [(.a Qh)] λx=>(none,MV (oW x.1))
def QLm:aF:=⟨[],false⟩
def QU4:af :=
 (ag [(.ae [aC 1 (.box 161 0 2),ab 2 (a0 false)]),(.ae [ak 3 1 1,an 4 3 1,a9 5 4,ak 6 1 0,an 7 6 1,aw 8 .lss 5 7,ab 2 8]),.ret])
def QKM:List (bm × Md):=[(.t 2,.one .d)]
theorem QQ7(q:Qd):aK Tryz.prog 180 [(.a [(.c TI q.1),(.c (.sl Qu) q.2)])] (MV (oW q)):=by
 refine bw QLm QU4 QKM 0 0 9 MW kn (λK =>
 K (MV (decide (((q.2).length:Int)<q.1)))) (λhb=>?_)
 exact au rfl
theorem QUQ:Qf Tryz.prog MW:=Qi λx _=>QQ7 x.1
def yL(t:Qd):aB:=⟨(.a [(aL t.1),(.r Qu 0 0 ((t.2).length))]),[(.sl 178 Qu (.dp 0 true []) t.2)],[],false,[]⟩
def yM:aI:=Qg 219 [(.a Qh)] λx=>(some (Qs (α:=Qd) x.1),yL (id (α:=Qd) x.1))
def MX:aF:=⟨[JG],true⟩
def QAP:af :=
 (ag [(.ae [aw 13 .lss 12 11]),(.cond 13 .skip (.exit 0)),(.block 1 (ag [(.ae [aZ 14 10 12 Qu,a7 15 14 2,aC 5 (.new 178 (bG Qu)),aT 5 15 2]),(.draw [ak 16 3 1,an 17 16 1,ak 18 5 0,an 19 18 1,ak 20 5 1,an 21 20 1,aD 22 104 [21],aC 23 (.build (bG Qu) [(0,1,19),(1,1,22)]),aC 24 (.bW 178 Qu [23]),aC 25 (.app 17 24 178 Qu),ak 26 3 1,aT 26 25 1] [(0,6),(1,6),(2,6),(3,6),(0,8),(1,8)])])),(.ae [aw 27 .add 12 (ar 1),ab 12 27])])
def QyD:List (Nat × Md):=[(2,.b [.d,.f]),(3,.b [.d,.p 178]),(10,.one .d),(11,.one .d),(12,.one .d)]
def Qwe:af :=
 (ag [(.ae [a7 28 3 2,aT 2 28 2]),.ret])
def QVm:af :=
 (ag [(.ae [aC 1 (.box 161 0 2),aC 2 (.new 161 (bG Qh))]),(.ae [ak 6 1 0,an 7 6 1,aC 8 (.build (bG Qh) [(0,1,7)]),aC 3 (.new 161 (bG Qh)),aT 3 8 2]),(ag [(.ae [ak 9 1 1,an 10 9 1,a9 11 10,ab 12 (ar 0)]),(.block 0 (.loop QyD QAP))]),Qwe])
def QB6:List (bm × Md):=[(.l 2 2 true,.b [.d,.p 178])]
def QCW:Qb:=TQ 0 0 QB6 K
def QIU:Qb:=aY (aN MX 0 Qwe (QCW K)) (QCW K)
def QTm:Qb:=a6 0 (QIU K)
def MY(q:Qd)(x:Int)(r1:List Qm):Prop:=Loop MX 0 QyD QAP (QTm K) ⟨[(2,(.p 0 0 0)),(3,(.p 2 0 0)),(10,(bc Qu q.2)),(11,(aL ((q.2).length:Int))),(12,(aL x))],[(0,(.box [(aL 0),(.n Qu)])),(1,(.sl 178 Qu (.dp 0 true []) r1)),(2,(.box [(aL q.1),(.r Qu 1 0 r1.length)]))],3⟩
theorem Qzs(q:Qd)(x:Int)(r1:List Qm) (h :
 (aJ (decide (x<((q.2).length:Int))) ((0<=x/\Int.toNat x<(q.2).length)/\(((Qs (α:=List Int) ((aq ((0,[]):Qm) q.2 (Int.toNat x)).2))/\((r1.length=r1.length\/r1.length+1<=r1.length)/\r1.length+1<=cc))/\(MY K q (aG (x+1)) (List.take (r1.length+1) ((List.take r1.length r1)++([((aq ((0,[]):Qm) q.2 (Int.toNat x)).1,(List.take ((id (α:=List Int) ((aq ((0,[]):Qm) q.2 (Int.toNat x)).2)).length) (List.drop 0 (id (α:=List Int) ((aq ((0,[]):Qm) q.2 (Int.toNat x)).2)))))])))))) (K (yL (q.1,(List.take r1.length r1)))))):MY K q x r1 :=
 Loop.of h
theorem QWZ(q:Qd)(hp:Qs (α:=Qd) q):aK Tryz.prog 219 [(.a [(.c TI q.1),(.c (.sl Qu) q.2)])] (yL (id (α:=Qd) q)):=by
 refine bw MX QVm QB6 0 0 29 yM (kc nT kn) (λK =>
 (MY K q 0 ([]:List Qm))) (λhb=>?_)
 unfold Qs at hp;simp only[QR,QL]at hp;refine YE (l:=q.2) (Q:=λz=>yL (q.1,z)=yL (id (α:=Qd) q)) (by omega) (λk x v hk hl hg hv hx ih=>?_) (λhq=>?_) (au rfl)
 ·refine Qzs _ _ _ _ ⟨λ_=>?_,λh=>by simp at h;omega⟩;simp only[QR,QL]at hx;rw[Int.toNat_natCast,hg,dM (by omega),Q9,rM];exact⟨⟨by omega,hk⟩,⟨(show Sz.sz (_:List Int)<=2147483648 by omega),room (by omega)⟩,ih⟩
 ·refine Qzs _ _ _ _ ⟨λh=>by simp at h,λ_=>?_⟩;rw[List.take_length];exact hq
theorem MZ:Qf Tryz.prog yM:=Qi λx h=>QWZ x.1 h
def yN(t:Qd):aB:=⟨(.a [(aL t.1),(.r Qu 0 0 ((t.2).length))]),[(.sl 178 Qu .ow t.2)],[],true,[]⟩
def yO:aI:=Qg 217 [(.a Qh)] λx=>(some (Qs (α:=Qd) x.1),yN (id (α:=Qd) x.1))
def M1:aF:=⟨[],false⟩
def Qxn:af :=
 (ag [(ag [(.ae [ab 6 4,ak 7 1 1,an 8 7 1,a9 9 8,aw 10 .lss 6 9]),(.cond 10 .skip (.exit 0))]),(.block 1 (.draw [ab 13 3,ak 14 1 1,an 15 14 1,ab 16 4,aZ 17 15 16 Qu,ak 18 17 0,an 19 18 1,aC 20 (.bW 3 [TI] []),ak 21 1 1,an 22 21 1,ab 23 4,aZ 24 22 23 Qu,ak 25 24 1,an 26 25 1,aC 27 (.app 20 26 3 [TI]),aC 28 (.build (bG Qu) [(0,1,19),(1,1,27)]),aC 29 (.bW 178 Qu [28]),aC 30 (.app 13 29 178 Qu),ab 3 30] [(1,7),(2,7),(4,7),(5,7),(6,7),(7,8),(7,9),(7,11),(7,12),(7,13),(1,14),(2,14),(4,14),(5,14),(6,14)])),(.ae [ab 11 4,aw 12 .add 11 (ar 1),ab 4 12])])
def Qvb:List (Nat × Md):=[(1,.b [.d,.d]),(2,.b [.d,.d]),(3,.one .f),(4,.one .d)]
def Qrr:af :=
 (ag [(.ae [ab 31 3,ak 32 1 1,aT 32 31 1]),(.ae [a7 33 1 2,aT 2 33 2]),.ret])
def QIG:af :=
 (ag [(.ae [aC 1 (.box 161 0 2),aC 2 (.new 161 (bG Qh))]),(.ae [aC 5 (.bW 178 Qu []),ab 3 5]),(ag [(.ae [ab 4 (ar 0)]),(.block 0 (.loop Qvb Qxn))]),Qrr])
def QDD:List (bm × Md):=[(.l 2 2 true,.b [.d,.o 178])]
def Qr6:Qb:=TQ 0 0 QDD K
def QHh:Qb:=aY (aN M1 0 Qrr (Qr6 K)) (Qr6 K)
def QYR:Qb:=a6 0 (QHh K)
def M3(q:Qd)(i:Int)(l:List Qm):Prop:=Loop M1 0 Qvb Qxn (QYR K) ⟨[(1,(.p 0 0 0)),(2,(.p 1 0 0)),(3,(.r Qu 2 0 l.length)),(4,(aL i))],[(0,(.box [(aL q.1),(bc Qu q.2)])),(1,(.box [(aL 0),(bc Qu ([]))])),(2,(.sl 178 Qu .ow l))],3⟩
theorem QEJ(q:Qd)(i:Int)(l:List Qm) (h :
 (aJ (decide (i<((q.2).length:Int))) (((0<=i/\Int.toNat i<(q.2).length)/\((0<=i/\Int.toNat i<(q.2).length)/\(((0=0\/0+((aq ((0,[]):Qm) q.2 (Int.toNat i)).2).length<=0)/\0+((aq ((0,[]):Qm) q.2 (Int.toNat i)).2).length<=cc)/\((l.length=l.length\/l.length+1<=l.length)/\l.length+1<=cc))))/\(M3 K q (aG (i+1)) (List.take (l.length+1) ((List.take l.length l)++([((aq ((0,[]):Qm) q.2 (Int.toNat i)).1,(List.take (0+((aq ((0,[]):Qm) q.2 (Int.toNat i)).2).length) (List.drop 0 ((aq ((0,[]):Qm) q.2 (Int.toNat i)).2))))]))))) (K (yN (q.1,(List.take l.length l)))))):M3 K q i l :=
 Loop.of h
theorem QQH(q:Qd)(hp:Qs (α:=Qd) q):aK Tryz.prog 217 [(.a [(.c TI q.1),(.c (.sl Qu) q.2)])] (yN (id (α:=Qd) q)):=by
 refine bw M1 QIG QDD 0 0 34 yO kn (λK =>
 (M3 K q 0 ([]:List Qm))) (λhb=>?_)
 unfold Qs at hp;simp only[QR,QL]at hp;refine YE (l:=q.2) (Q:=λz=>yN (q.1,z)=yN (id (α:=Qd) q)) (by omega) (λk x v hk hl hg hv hx ih=>?_) (λhq=>?_) (au rfl)
 ·refine QEJ _ _ _ _ ⟨λ_=>?_,λh=>by simp at h;omega⟩;simp only[QR,QL]at hx;rw[Int.toNat_natCast,hg,dM (by omega),Q9,tQ];have:=ZD x.2;exact⟨⟨⟨by omega,hk⟩,⟨by omega,hk⟩,⟨.inl rfl,by rw[Zf];omega⟩,room (by omega)⟩,ih⟩
 ·refine QEJ _ _ _ _ ⟨λh=>by simp at h,λ_=>?_⟩;rw[List.take_length];exact hq
theorem M4:Qf Tryz.prog yO:=Qi λx h=>QQH x.1 h
def CX(t:Qd × Bool):aB:=⟨(.tp [(.a [(aL t.1.1),(.r Qu 0 0 ((t.1.2).length))]),(bE t.2)]),[(.sl 178 Qu (.dp 0 true []) t.1.2)],[],false,[]⟩
def M5:aI:=Qg 150 [(.a Qh),(.a Qu)] λx=>(some (Zp (α:=Qd) (β:=Qm) x.1 x.2.1),CX (Ya x.1 x.2.1))
def QLU:aF:=⟨[yM,yK,CU,JG],true⟩
def QVQ:af :=
 (ag [(.ae [aC 2 (.box 161 0 2),aC 3 (.box 178 1 2),aC 4 (.new 161 (bG Qh)),ab 5 (a0 false)]),(.ae [a7 7 2 2,aD 8 219 [7],aC 6 (.new 161 (bG Qh)),aT 6 8 2]),(ag [(.ae [a7 9 2 2,aD 10 220 [9],bL 11 10,ab 12 11,.bt 12 false [a7 13 3 2,aD 14 221 [13],bL 15 14] 16 15,ab 17 16,.bt 17 false [ak 18 2 1,an 19 18 1,a9 20 19,ak 21 2 0,an 22 21 1,aw 23 .eql 20 22] 24 23]),(.cond 24 (ag [(.ae [a7 25 6 2,aT 4 25 2,ab 5 (a0 false)]),.ret]) .skip)]),(.draw [ak 26 6 1,an 27 26 1,ak 28 3 0,an 29 28 1,ak 30 3 1,an 31 30 1,aD 32 104 [31],aC 33 (.build (bG Qu) [(0,1,29),(1,1,32)]),aC 34 (.bW 178 Qu [33]),aC 35 (.app 27 34 178 Qu),ak 36 6 1,aT 36 35 1] [(0,6),(1,6),(2,6),(3,6),(0,8),(1,8)]),(.ae [a7 37 6 2,aT 4 37 2,ab 5 (a0 true)]),.ret])
def QMC:List (bm × Md):=[(.l 4 2 true,.b [.d,.p 178]),(.t 5,.one .d)]
theorem QRw(q:Qd)(x:Qm)(hp:Zp (α:=Qd) (β:=Qm) q x):aK Tryz.prog 150 [(.a [(.c TI q.1),(.c (.sl Qu) q.2)]),(.a [(.c TI x.1),(.c (.sl [TI]) x.2)])] (CX (Ya q x)):=by
 refine bw QLU QVQ QMC 0 0 38 M5 (kc MZ (kc MU (kc QtK (kc nT kn)))) (λK =>
 ((Qs (α:=Qd) q)/\(aJ (((!(Q0 q))||(!(Yo x)))||(((q.2).length:Int)==q.1)) (K (CX (((id (α:=Qd) q).1,(List.take (((id (α:=Qd) q).2).length) ((id (α:=Qd) q).2))),false))) (((Qs (α:=List Int) x.2)/\((((id (α:=Qd) q).2).length=((id (α:=Qd) q).2).length\/((id (α:=Qd) q).2).length+1<=((id (α:=Qd) q).2).length)/\((id (α:=Qd) q).2).length+1<=cc))/\K (CX (((id (α:=Qd) q).1,(List.take (((id (α:=Qd) q).2).length+1) ((List.take (((id (α:=Qd) q).2).length) ((id (α:=Qd) q).2))++([(x.1,(List.take ((id (α:=List Int) x.2).length) (List.drop 0 (id (α:=List Int) x.2))))])))),true)))))) (λhb=>?_)
 unfold Zp at hp;have hq:Qs q:=by unfold Qs;omega
 simp only[QR,QL]at hp;have h1:=Yl q.2;have h2:=ZD x.2;have e:((((!(Q0 q))||(!(Yo x)))||(((q.2).length:Int)==q.1))) = !(Q0 q&&Yo x&&decide ((q.2.length:Int)<q.1)):=by
  cases hk:Q0 q
  ·rfl
  ·have:(q.2.length:Int)<=q.1:=by
    simp only[Q0,Bool.and_eq_true,decide_eq_true_eq]at hk;exact hk.1.2
   cases Yo x
   ·rfl
   ·rw[Bool.eq_iff_iff];simp;omega
 rw[e];refine⟨hq,λh=>au ?_,λh=>⟨⟨(show Sz.sz (_:List Int)<=2147483648 by omega),⟨.inl rfl,by rw[Zf];simp only[id];omega⟩⟩,au ?_⟩⟩
 ·simp only[Bool.not_eq_true']at h;simp[Ya,h]
 ·simp only[Bool.not_eq_false']at h;simp[Ya,h,List.take_of_length_le]
theorem QMP:Qf Tryz.prog M5:=Qi λx h=>QRw x.1 x.2.1 h
def CY(t:Qd × Bool):aB:=⟨(.tp [(.a [(aL t.1.1),(.r Qu 0 0 ((t.1.2).length))]),(bE t.2)]),[(.sl 178 Qu .ow t.1.2)],[],true,[]⟩
def M6:aI:=Qg 146 [(.a Qh),(.a Qu)] λx=>(some (Zp (α:=Qd) (β:=Qm) x.1 x.2.1),CY (Ya x.1 x.2.1))
def QYa:aF:=⟨[yO,yJ,Yy,YQ],false⟩
def QNO:af :=
 (ag [(.ae [aC 2 (.box 161 0 2),aC 3 (.box 178 1 2),aC 4 (.new 161 (bG Qh)),ab 5 (a0 false)]),(.ae [a7 7 2 2,aD 8 217 [7],aC 6 (.new 161 (bG Qh)),aT 6 8 2]),(ag [(.ae [a7 9 2 2,aD 10 218 [9],bL 11 10,ab 12 11,.bt 12 false [ak 13 2 1,an 14 13 1,a9 15 14,ak 16 2 0,an 17 16 1,aw 18 .geq 15 17] 19 18,ab 20 19,.bt 20 false [ak 21 3 1,an 22 21 1,aD 23 97 [22],bL 24 23] 25 24,ab 26 25,.bt 26 false [ak 27 3 0,an 28 27 1,aD 29 158 [28,(ar 0),(ar 4)],bL 30 29] 31 30]),(.cond 31 (ag [(.ae [a7 32 6 2,aT 4 32 2,ab 5 (a0 false)]),.ret]) .skip)]),(.draw [ak 33 6 1,an 34 33 1,ak 35 3 0,an 36 35 1,aC 37 (.bW 3 [TI] []),ak 38 3 1,an 39 38 1,aC 40 (.app 37 39 3 [TI]),aC 41 (.build (bG Qu) [(0,1,36),(1,1,40)]),aC 42 (.bW 178 Qu [41]),aC 43 (.app 34 42 178 Qu),ak 44 6 1,aT 44 43 1] [(0,4),(1,4),(2,4),(3,4),(4,5),(4,6),(0,7),(1,7),(2,7),(3,7),(0,9),(1,9)]),(.ae [a7 45 6 2,aT 4 45 2,ab 5 (a0 true)]),.ret])
def QJP:List (bm × Md):=[(.l 4 2 true,.b [.d,.o 178]),(.t 5,.one .d)]
theorem QTA(q:Qd)(x:Qm)(hp:Zp (α:=Qd) (β:=Qm) q x):aK Tryz.prog 146 [(.a [(.c TI q.1),(.c (.sl Qu) q.2)]),(.a [(.c TI x.1),(.c (.sl [TI]) x.2)])] (CY (Ya q x)):=by
 refine bw QYa QNO QJP 0 0 46 M6 (kc M4 (kc MR (kc YL (kc Jo kn)))) (λK =>
 ((Qs (α:=Qd) q)/\(aJ ((((!(Q0 q))||(decide (((q.2).length:Int)>=q.1)))||(!(QK x.2)))||(!(bh x.1 (0:Int) (4:Int)))) (K (CY (((id (α:=Qd) q).1,(List.take (((id (α:=Qd) q).2).length) ((id (α:=Qd) q).2))),false))) ((((0=0\/0+(x.2).length<=0)/\0+(x.2).length<=cc)/\((((id (α:=Qd) q).2).length=((id (α:=Qd) q).2).length\/((id (α:=Qd) q).2).length+1<=((id (α:=Qd) q).2).length)/\((id (α:=Qd) q).2).length+1<=cc))/\K (CY (((id (α:=Qd) q).1,(List.take (((id (α:=Qd) q).2).length+1) ((List.take (((id (α:=Qd) q).2).length) ((id (α:=Qd) q).2))++([(x.1,(List.take (0+(x.2).length) (List.drop 0 (x.2:List Int))))])))),true)))))) (λhb=>?_)
 unfold Zp at hp;have hq:Qs q:=by unfold Qs;omega
 simp only[QR,QL]at hp;have h1:=Yl q.2;have h2:=ZD x.2;have e:(((((!(Q0 q))||(decide (((q.2).length:Int)>=q.1)))||(!(QK x.2)))||(!(bh x.1 0 4)))) = !(Q0 q&&Yo x&&decide ((q.2.length:Int)<q.1)):=by
  cases hk:Q0 q
  ·rfl
  ·cases hv:QK x.2
   ·simp[Yo,hv]
   ·rw[Bool.eq_iff_iff];simp[Yo,hv,bh];omega
 rw[e];refine⟨hq,λh=>au ?_,λh=>⟨⟨⟨.inl rfl,by rw[Zf];omega⟩,⟨.inl rfl,by rw[Zf];simp only[id];omega⟩⟩,au ?_⟩⟩
 ·simp only[Bool.not_eq_true']at h;simp[Ya,h]
 ·simp only[Bool.not_eq_false']at h;simp[Ya,h,List.take_of_length_le]
theorem QPl:Qf Tryz.prog M6:=Qi λx h=>QTA x.1 x.2.1 h
def CZ(t:Qd × Qm × Bool):aB:=⟨(.tp [(.a [(aL t.1.1),(.r Qu 0 0 ((t.1.2).length))]),(.a [(aL t.2.1.1),(.r [TI] 1 0 ((t.2.1.2).length))]),(bE t.2.2)]),[(.sl 0 Qu (.dp 0 false []) t.1.2),(.sl 0 [TI] (.dp 0 false []) t.2.1.2)],[],false,[]⟩
def M7:aI:=Qg 149 [(.a Qh)] λx=>(some (Qs (α:=Qd) x.1),CZ (Zg x.1))
def QMu:aF:=⟨[yM,yK],true⟩
def QFR:af :=
 (ag [(.ae [aC 1 (.box 161 0 2),aC 2 (.new 161 (bG Qh)),aC 3 (.new 178 (bG Qu)),ab 4 (a0 false)]),(.ae [a7 7 1 2,aD 8 219 [7],aC 5 (.new 161 (bG Qh)),aT 5 8 2]),(ag [(.ae [a7 9 1 2,aD 10 220 [9],bL 11 10,ab 12 11,.bt 12 false [ak 13 1 1,an 14 13 1,a9 15 14,aw 16 .eql 15 (ar 0)] 17 16]),(.cond 17 (ag [(.ae [a7 18 5 2,aC 19 (.build (bG Qu) []),aT 2 18 2,aT 3 19 2,ab 4 (a0 false)]),.ret]) .skip)]),(.ae [ak 20 5 1,an 21 20 1,aZ 22 21 (ar 0) Qu,a7 23 22 2,aC 6 (.new 178 (bG Qu)),aT 6 23 2]),(.ae [ak 24 5 1,an 25 24 1,aC 26 (.fx 25 (some (ar 1)) none Qu),ak 27 5 1,aT 27 26 1]),(.draw [a7 28 5 2,a7 29 6 2,aT 2 28 2,aT 3 29 2,ab 4 (a0 true)] [(1,2)]),(.cv 3 1 .ret)])
def QYB:List (bm × Md):=[(.l 2 2 true,.b [.d,.w]),(.l 3 2 true,.b [.d,.w]),(.t 4,.one .d)]
theorem QGa(q:Qd)(hp:Qs (α:=Qd) q):aK Tryz.prog 149 [(.a [(.c TI q.1),(.c (.sl Qu) q.2)])] (CZ (Zg q)):=by
 refine bw QMu QFR QYB 0 0 30 M7 (kc MZ (kc MU kn)) (λK =>
 ((Qs (α:=Qd) q)/\(aJ ((!(Q0 q))||(((q.2).length:Int)==0)) (K (CZ (((id (α:=Qd) q).1,(List.take (((id (α:=Qd) q).2).length) ((id (α:=Qd) q).2))),((0:Int),([]:List Int)),false))) ((((0:Int)<=0/\Int.toNat 0<((id (α:=Qd) q).2).length)/\((0+(Int.toNat 0))<((id (α:=Qd) q).2).length))/\(((0:Int)<=1/\1<=((((id (α:=Qd) q).2).length:Nat):Int)/\((((id (α:=Qd) q).2).length:Nat):Int)<=((((id (α:=Qd) q).2).length:Nat):Int))/\(((0+(Int.toNat 0))<((id (α:=Qd) q).2).length)/\K (CZ (((id (α:=Qd) q).1,(List.take (Int.toNat ((((id (α:=Qd) q).2).length:Nat):Int)-Int.toNat 1) (List.drop (0+Int.toNat 1) ((id (α:=Qd) q).2)))),((aq ((0,[]):Qm) ((id (α:=Qd) q).2) (0+(Int.toNat 0))).1,(List.take (((aq ((0,[]):Qm) ((id (α:=Qd) q).2) (0+(Int.toNat 0))).2).length) ((aq ((0,[]):Qm) ((id (α:=Qd) q).2) (0+(Int.toNat 0))).2))),true)))))))) (λhb=>?_)
 have hq:=hp;unfold Qs at hp;simp only[QR,QL]at hp;have h1:=Yl q.2;have e:((!(Q0 q))||(((q.2).length:Int)==0)) = !(Q0 q&&decide (0<q.2.length)):=by
  rw[Bool.eq_iff_iff];simp
 rw[e];refine⟨hq,λh=>au ?_,λh=>?_⟩
 ·simp only[Bool.not_eq_true']at h;simp only[Zg,h];simp
 ·simp only[Bool.not_eq_false']at h;have h2:0<q.2.length:=by simp at h;exact h.2
  have h3:=Ap (JI h2 (0,[]));have h4:=ZD (aq (0,[]) q.2 0).2;simp only[QR,QL]at h3;have hM:(Zg q)=((q.1,q.2.tail),aq (0,[]) q.2 0,true):=by simp only[Zg,h];simp
  simp only[id];exact⟨⟨⟨by omega,by simpa using h2⟩,by simpa using h2⟩,⟨by omega,by omega,by omega⟩,by simpa using h2,au (by rw[hM];simp[List.take_of_length_le])⟩
theorem QSP:Qf Tryz.prog M7:=Qi λx h=>QGa x.1 h
def C0(t:Qd × Qm × Bool):aB:=fQ (.tp [(.a [(aL t.1.1),(bc Qu t.1.2)]),(.a [(aL t.2.1.1),(bc [TI] t.2.1.2)]),(bE t.2.2)])
def M8:aI:=Qg 145 [(.a Qh)] λx=>(some (Qs (α:=Qd) x.1),C0 (Zg x.1))
def QMF:aF:=⟨[yO,yJ],false⟩
def QQS:af :=
 (ag [(.ae [aC 1 (.box 161 0 2),aC 2 (.new 161 (bG Qh)),aC 3 (.new 178 (bG Qu)),ab 4 (a0 false)]),(.ae [a7 7 1 2,aD 8 217 [7],aC 5 (.new 161 (bG Qh)),aT 5 8 2]),(ag [(.ae [a7 9 1 2,aD 10 218 [9],bL 11 10,ab 12 11,.bt 12 false [ak 13 1 1,an 14 13 1,a9 15 14,aw 16 .eql 15 (ar 0)] 17 16]),(.cond 17 (ag [(.ae [a7 18 5 2,aC 19 (.build (bG Qu) []),aT 2 18 2,aT 3 19 2,ab 4 (a0 false)]),.ret]) .skip)]),(.ae [ak 20 1 1,an 21 20 1,aZ 22 21 (ar 0) Qu,a7 23 22 2,aC 6 (.new 178 (bG Qu)),aT 6 23 2]),(.ae [ak 24 5 1,an 25 24 1,aC 26 (.fx 25 (some (ar 1)) none Qu),ak 27 5 1,aT 27 26 1]),(.draw [a7 28 5 2,ak 29 6 0,an 30 29 1,aC 31 (.bW 3 [TI] []),ak 32 6 1,an 33 32 1,aC 34 (.app 31 33 3 [TI]),aC 35 (.build (bG Qu) [(0,1,30),(1,1,34)]),aT 2 28 2,aT 3 35 2,ab 4 (a0 true)] [(0,3),(1,3),(2,3),(3,4),(3,5),(0,6),(1,6),(2,6),(1,8),(2,8)]),.ret])
def QQx:List (bm × Md):=[(.l 2 2 true,.b [.d,.d]),(.l 3 2 true,.b [.d,.d]),(.t 4,.one .d)]
theorem QMp(q:Qd)(hp:Qs (α:=Qd) q):aK Tryz.prog 145 [(.a [(.c TI q.1),(.c (.sl Qu) q.2)])] (C0 (Zg q)):=by
 refine bw QMF QQS QQx 0 0 36 M8 (kc M4 (kc MR kn)) (λK =>
 ((Qs (α:=Qd) q)/\(aJ ((!(Q0 q))||(((q.2).length:Int)==0)) (K (C0 (((id (α:=Qd) q).1,(List.take (((id (α:=Qd) q).2).length) (List.drop 0 ((id (α:=Qd) q).2)))),((0:Int),[]),false))) (((0:Int)<=0/\Int.toNat 0<(q.2).length)/\(((0:Int)<=1/\1<=((((id (α:=Qd) q).2).length:Nat):Int)/\((((id (α:=Qd) q).2).length:Nat):Int)<=((((id (α:=Qd) q).2).length:Nat):Int))/\(((0=0\/0+((aq ((0,[]):Qm) q.2 (Int.toNat 0)).2).length<=0)/\0+((aq ((0,[]):Qm) q.2 (Int.toNat 0)).2).length<=cc)/\K (C0 (((id (α:=Qd) q).1,(List.take (Int.toNat ((((id (α:=Qd) q).2).length:Nat):Int)-Int.toNat 1) (List.drop (0+Int.toNat 1) ((id (α:=Qd) q).2)))),((aq ((0,[]):Qm) q.2 (Int.toNat 0)).1,(List.take (0+((aq ((0,[]):Qm) q.2 (Int.toNat 0)).2).length) (List.drop 0 ((aq ((0,[]):Qm) q.2 (Int.toNat 0)).2)))),true)))))))) (λhb=>?_)
 have hq:=hp;unfold Qs at hp;simp only[QR,QL]at hp;have h1:=Yl q.2;have e:((!(Q0 q))||(((q.2).length:Int)==0)) = !(Q0 q&&decide (0<q.2.length)):=by
  rw[Bool.eq_iff_iff];simp
 rw[e];refine⟨hq,λh=>au ?_,λh=>?_⟩
 ·simp only[Bool.not_eq_true']at h;simp only[Zg,h];simp
 ·simp only[Bool.not_eq_false']at h;have h2:0<q.2.length:=by simp at h;exact h.2
  have h3:=Ap (JI h2 (0,[]));have h4:=ZD (aq (0,[]) q.2 0).2;simp only[QR,QL]at h3;have hM:(Zg q)=((q.1,q.2.tail),aq (0,[]) q.2 0,true):=by simp only[Zg,h];simp
  simp only[id];exact⟨⟨by omega,by simpa using h2⟩,⟨by omega,by omega,by omega⟩,⟨by simp,by rw[Zf];simp;omega⟩,au (by rw[hM];simp[List.take_of_length_le])⟩
theorem QJz:Qf Tryz.prog M8:=Qi λx h=>QMp x.1 h
def YB(t:Bool):aB:=b7 (bE t)
def M9:aI:=Qg 176 [(.a QM)] λx=>(none,YB (Zk x.1))
def n9:aF:=⟨[YQ,ur,yJ,Yy],false⟩
def QA3:af :=
 (ag [(ag [(.ae [ab 59 6,ak 60 5 1,an 61 60 1,a9 62 61,aw 63 .lss 59 62]),(.cond 63 .skip (.exit 2))]),(.block 3 (ag [(.draw [ak 66 5 1,an 67 66 1,ab 68 6,aZ 69 67 68 QQ,ak 70 69 1,an 71 70 1,ak 72 1 0,an 73 72 1,a9 74 73,aw 75 .sub 74 (ar 1),aD 76 158 [71,(ar 0),75],bL 77 76] []),(.cond 77 (ag [(.ae [ab 2 (a0 false)]),.ret]) .skip)])),(.ae [ab 64 6,aw 65 .add 64 (ar 1),ab 6 65])])
def QDK:List (Nat × Md):=[(1,.b (dH 4)),(3,.one .d),(4,.one .d),(5,.b (dH 14)),(6,.one .d)]
def Quk:af :=
 (ag [(.ae [ab 78 4,aw 79 .gtr 78 (ar 0),ab 80 79,.bt 80 true [ak 81 1 2,an 82 81 1,ab 83 4,aw 84 .sub 83 (ar 1),aZ 85 82 84 Qh,a7 86 85 2,aD 87 218 [86],bL 88 87,ab 89 88,.bt 89 false [ak 90 1 3,an 91 90 1,ab 92 4,aw 93 .sub 92 (ar 1),aZ 94 91 93 Qh,a7 95 94 2,aD 96 218 [95],bL 97 96] 98 97] 99 98]),(.cond 99 (ag [(.ae [ab 2 (a0 false)]),.ret]) .skip)])
def QrE:af :=
 (.ae [ab 40 4,aw 41 .add 40 (ar 1),ab 4 41])
def Na:af :=
 (ag [(ag [(.ae [ab 37 4,ab 38 3,aw 39 .lss 37 38]),(.cond 39 .skip (.exit 0))]),(.block 1 (ag [(.ae [ak 42 1 1,an 43 42 1,ab 44 4,aZ 45 43 44 Qe,a7 46 45 14,aC 5 (.new 39 (bG Qe)),aT 5 46 14]),(ag [(.ae [a7 47 5 14,aD 48 63 [47],bL 49 48,ab 50 49,.bt 50 false [ak 51 5 3,an 52 51 1,ab 53 4,ab 54 3,aw 55 .sub 54 (ar 1),aw 56 .eql 53 55,aC 57 (.ij true 52 56)] 58 57]),(.cond 58 (ag [(.ae [ab 2 (a0 false)]),.ret]) .skip)]),(ag [(.ae [ab 6 (ar 0)]),(.block 2 (.loop QDK QA3))]),Quk])),QrE])
def C1:List (Nat × Md):=[(1,.b (dH 4)),(3,.one .d),(4,.one .d)]
def QxV:af :=
 (ag [(ag [(.ae [ab 100 7,ak 101 1 0,an 102 101 1,a9 103 102,aw 104 .lss 100 103]),(.cond 104 .skip (.exit 4))]),(.block 5 (ag [(.ae [ak 107 1 0,an 108 107 1,ab 109 7,aZ 110 108 109 QF,ak 111 110 0,an 112 111 1,aD 113 97 [112],bL 114 113,ab 115 114,.bt 115 false [ak 116 1 0,an 117 116 1,ab 118 7,aZ 119 117 118 QF,ak 120 119 1,an 121 120 1,aD 122 97 [121],bL 123 122] 124 123]),(.cond 124 (ag [(.ae [ab 2 (a0 false)]),.ret]) .skip)])),(.ae [ab 105 7,aw 106 .add 105 (ar 1),ab 7 106])])
def QqM:List (Nat × Md):=[(1,.b (dH 4)),(7,.one .d)]
def QAF:af :=
 (ag [(.ae [ab 2 (a0 true)]),.ret])
def QEe:af :=
 (ag [(ag [(.ae [ab 7 (ar 0)]),(.block 4 (.loop QqM QxV))]),QAF])
def QJ3:af :=
 (ag [(.ae [aC 1 (.box 56 0 4),ab 2 (a0 false)]),(.ae [ak 8 1 1,an 9 8 1,a9 10 9,ab 3 10]),(ag [(.ae [ab 11 3,aD 12 158 [11,(ar 1),(ar 4)],bL 13 12,ab 14 13,.bt 14 false [ak 15 1 2,an 16 15 1,a9 17 16,ab 18 3,aw 19 .sub 18 (ar 1),aw 20 .neq 17 19] 21 20,ab 22 21,.bt 22 false [ak 23 1 3,an 24 23 1,a9 25 24,ab 26 3,aw 27 .sub 26 (ar 1),aw 28 .neq 25 27] 29 28,ab 30 29,.bt 30 false [ak 31 1 0,an 32 31 1,a9 33 32,aD 34 158 [33,(ar 1),(ar 5)],bL 35 34] 36 35]),(.cond 36 (ag [(.ae [ab 2 (a0 false)]),.ret]) .skip)]),(ag [(.ae [ab 4 (ar 0)]),(.block 0 (.loop C1 Na))]),QEe])
def Qug:List (bm × Md):=[(.t 2,.one .d)]
def C2:Qb:=TQ 0 0 Qug K
def QVR:Qb:=aY (aN n9 0 QEe (C2 K)) (C2 K)
def Nb:Qb:=a6 0 (QVR K)
def QrB:Qb:=aY (λs'=>Loop n9 0 C1 Na (Nb K) (gc 0 C1 s')) (Nb K)
def QGK:Qb:=aY (aN n9 0 QrE (QrB K)) (QrB K)
def QB2:Qb:=a6 1 (QGK K)
def QRv:Qb:=aY (aN n9 0 Quk (QB2 K)) (QB2 K)
def QQm:Qb:=a6 2 (QRv K)
def Nc(p:Qk)(i:Int)(s:Int):Prop:=Loop n9 0 QDK QA3 (QQm K) ⟨[(1,(.p 0 0 0)),(3,(aL ((p.2.1).length:Int))),(4,(aL s)),(5,(.p 1 0 0)),(6,(aL i))],[(0,(.box (aR.cells QM p))),(1,(.box (aR.cells Qe (aq Qz p.2.1 (Int.toNat s)))))],2⟩
def QG5:Qb:=aY (aN n9 0 QAF (C2 K)) (C2 K)
def QWX:Qb:=a6 4 (QG5 K)
def yP(p:Qk)(i1:Int):Prop:=Loop n9 0 QqM QxV (QWX K) ⟨[(1,(.p 0 0 0)),(7,(aL i1))],[(0,(.box (aR.cells QM p)))],1⟩
def yQ(p:Qk)(s:Int):Prop:=Loop n9 0 C1 Na (Nb K) ⟨[(1,(.p 0 0 0)),(3,(aL ((p.2.1).length:Int))),(4,(aL s))],[(0,(.box (aR.cells QM p)))],1⟩
theorem QVX(p:Qk)(i:Int)(s:Int) (h :
 (aJ (decide (i<(((aq Qz p.2.1 (Int.toNat s)).2.1).length:Int))) ((0<=i/\Int.toNat i<((aq Qz p.2.1 (Int.toNat s)).2.1).length)/\(aJ (!(bh ((aq eG ((aq Qz p.2.1 (Int.toNat s)).2.1) (Int.toNat i)).2) (0:Int) (aG (((p.1).length:Int)-1)))) (K (YB false)) (Nc K p (aG (i+1)) s))) (((decide (s>0))=true->((0<=aG (s-1)/\Int.toNat (aG (s-1))<(p.2.2.1).length)/\((!(!(Q0 (aq Qx p.2.2.1 (Int.toNat (aG (s-1)))))))=true->(0<=aG (s-1)/\Int.toNat (aG (s-1))<(p.2.2.2).length))))/\(aJ ((decide (s>0))&&((!(Q0 (aq Qx p.2.2.1 (Int.toNat (aG (s-1))))))||(!(Q0 (aq Qx p.2.2.2 (Int.toNat (aG (s-1)))))))) (K (YB false)) (yQ K p (aG (s+1))))))):Nc K p i s :=
 Loop.of h
theorem QAr(p:Qk)(i1:Int) (h :
 (aJ (decide (i1<((p.1).length:Int))) (((0<=i1/\Int.toNat i1<(p.1).length)/\((!(!(QK ((aq QW p.1 (Int.toNat i1)).1))))=true->(0<=i1/\Int.toNat i1<(p.1).length)))/\(aJ ((!(QK ((aq QW p.1 (Int.toNat i1)).1)))||(!(QK ((aq QW p.1 (Int.toNat i1)).2)))) (K (YB false)) (yP K p (aG (i1+1))))) (K (YB true)))):yP K p i1 :=
 Loop.of h
theorem Qzf(p:Qk)(s:Int) (h :
 (aJ (decide (s<((p.2.1).length:Int))) ((0<=s/\Int.toNat s<(p.2.1).length)/\(aJ ((!(QU (aq Qz p.2.1 (Int.toNat s))))||(!(((aq Qz p.2.1 (Int.toNat s)).2.2.2.1)==(s==(aG (((p.2.1).length:Int)-1)))))) (K (YB false)) (Nc K p 0 s))) (yP K p 0))):yQ K p s :=
 Loop.of h
theorem QQB(p:Qk):aK Tryz.prog 176 [(.a (aR.cells QM p))] (YB (Zk p)):=by
 refine bw n9 QJ3 Qug 0 0 125 M9 (kc Jo (kc Bw (kc MR (kc YL kn)))) (λK =>
 (aJ ((((!(bh ((p.2.1).length:Int) (1:Int) (4:Int)))||(((p.2.2.1).length:Int) != (aG (((p.2.1).length:Int)-1))))||(((p.2.2.2).length:Int) != (aG (((p.2.1).length:Int)-1))))||(!(bh ((p.1).length:Int) (1:Int) (5:Int)))) (K (YB false)) (yQ K p 0))) (λhb=>?_)
 have f5:(p.1).length<=9223372036854775807:=hb.1.1.1;have fC:(p.2.1).length<=9223372036854775807:=hb.1.2.1.1;have gW:(p.2.2.1).length<=9223372036854775807:=hb.1.2.2.1.1;have gX:(p.2.2.2).length<=9223372036854775807:=hb.1.2.2.2.1.1;by_cases h0:bh p.2.1.length 1 4=true;rotate_left
 ·exact⟨λh=>au (by simp[Zk,h0]),λh=>by simp[h0]at h⟩
 have h1:=Zb.1 h0;have e1:aG ((p.2.1.length:Int)-1)=p.2.1.length-1:=QG (by omega) (by omega);rw[e1];refine⟨λh=>au ?_,λh=>?_⟩
 ·have:((p.2.2.1.length+1==p.2.1.length)&&(p.2.2.2.length+1==p.2.1.length)&&bh p.1.length 1 5)=false:=by
   cases hx:bh p.1.length 1 5 with
   | false=>simp
   | true=>simp[h0,hx]at h;simp;omega
  have e2:(Zk p)=false:=by
   unfold Zk;rw[h0,Bool.true_and,this,Bool.false_and]
  exact e2.symm
 have h2:bh p.1.length 1 5=true:=by grind
 have h3:=Zb.1 h2;have ha:p.2.2.1.length+1=p.2.1.length/\p.2.2.2.length+1=p.2.1.length:=by simp[h0,h2]at h;omega
 have val:(Zk p)=(p.1.all Jk&&(p.2.2.1.all Q0&&p.2.2.2.all Q0)&&Jd p.1.length p.2.1):=by
  simp only[Zk,h0,h2,ha];simp
 have e3:aG ((p.1.length:Int)-1)=p.1.length-1:=QG (by omega) (by omega);have batch:(p.2.2.1.all Q0&&p.2.2.2.all Q0)=true->Jd p.1.length p.2.1=true->yP (λr'=>r'=YB (Zk p)) p ((0:Nat):Int):=by
  intro hq hs;refine Za p.1 (λr k=>r.all Jk=p.1.all Jk->yP (λr'=>r'=YB (Zk p)) p k) ?_ ?_ rfl
  ·intro he;refine QAr _ _ _ ⟨λh=>by simp at h,λ_=>au ?_⟩;rw[val,hq,hs,<- he];rfl
  ·intro k x r hk aU hg ih he;refine QAr _ _ _ ⟨λ_=>?_,λh=>by simp at h;omega⟩;rw[Int.toNat_natCast,hg,QG (x:=(k:Int)+1) (by omega) (by omega)];rw[List.all_cons]at he;refine⟨⟨⟨by omega,aU⟩,λ_=>⟨by omega,aU⟩⟩,λh=>au ?_,λh=>ih ?_⟩
   ·have:Jk x=false:=by grind[Jk]
    rw[this,Bool.false_and]at he;rw[val,<- he];rfl
   ·have:Jk x=true:=by grind[Jk]
    rw[this,Bool.true_and]at he;exact he
 refine Za p.2.1 (λr k=>Jd p.1.length r=Jd p.1.length p.2.1->(∀ j:Nat,j+1<k->Q0 (aq Qx p.2.2.1 j)=true/\Q0 (aq Qx p.2.2.2 j)=true)->yQ (λr'=>r'=YB (Zk p)) p k) ?_ ?_ rfl (λj hj=>by omega)
 ·intro he hq;refine Qzf _ _ _ ⟨λh=>by simp at h,λ_=>batch ?_ ?_⟩
  ·rw[(At Qx).2 (λj hj=>(hq j (by omega)).1),(At Qx).2 (λj hj=>(hq j (by omega)).2)];rfl
  ·rw[<- he];rfl
 ·intro k x r hk aU hg ih he hq;have dF:x∈p.2.1:=List.mem_of_mem_drop (i:=k) (by rw[hk];exact List.mem_cons_self);have jW:x.2.1.length<=9223372036854775807:=(hb.1.2.1.2 x dF).2.1.1;have kj:=Tc hk fC;rw[e1]at kj;rw[Jd]at he;refine Qzf _ _ _ ⟨λ_=>?_,λh=>by simp at h;omega⟩;rw[Int.toNat_natCast,hg,e1,kj];refine⟨⟨by omega,aU⟩,λh=>au ?_,λh=>?_⟩
  ·have:(QU x&&(x.2.2.2.1==decide (r.length=0)))=false:=by grind
   rw[this,Bool.false_and,Bool.false_and]at he;rw[val,<- he,Bool.and_false]
  ·have:(QU x&&(x.2.2.2.1==decide (r.length=0)))=true:=by grind
   rw[this,Bool.true_and]at he;have rest:x.2.1.all (λy=>bh y.2 0 (p.1.length-1))=true->((((decide ((k:Int)>0))=true->((0<=aG ((k:Int)-1)/\Int.toNat (aG ((k:Int)-1))<p.2.2.1.length)/\((!(!(Q0 (aq Qx p.2.2.1 (Int.toNat (aG ((k:Int)-1)))))))=true->(0<=aG ((k:Int)-1)/\Int.toNat (aG ((k:Int)-1))<p.2.2.2.length))))/\((((decide ((k:Int)>0))&&((!(Q0 (aq Qx p.2.2.1 (Int.toNat (aG ((k:Int)-1))))))||(!(Q0 (aq Qx p.2.2.2 (Int.toNat (aG ((k:Int)-1))))))))=true->YB false=YB (Zk p))/\(((decide ((k:Int)>0))&&((!(Q0 (aq Qx p.2.2.1 (Int.toNat (aG ((k:Int)-1))))))||(!(Q0 (aq Qx p.2.2.2 (Int.toNat (aG ((k:Int)-1))))))))=false->yQ (λr'=>r'=YB (Zk p)) p (aG ((k:Int)+1)))))):=by
    intro hx;rw[hx,Bool.true_and]at he;rw[QG (x:=(k:Int)+1) (by omega) (by omega)]
    rcases Nat.eq_zero_or_pos k with k0 | k0
    ·subst k0;exact⟨λh=>by simp at h,λh=>by simp at h,λ_=>ih he (λj hj=>by omega)⟩
    ·have e2:=rB k0 (by omega:k<=9223372036854775807);rw[e2.1];refine⟨λ_=>⟨⟨e2.2,by omega⟩,λ_=>⟨e2.2,by omega⟩⟩,λh=>au ?_,λh=>ih he (λj hj=>?_)⟩
     ·have ox:(p.2.2.1.all Q0&&p.2.2.2.all Q0)=false:=by
       cases hc:(p.2.2.1.all Q0&&p.2.2.2.all Q0) with
       | false=>rfl
       | true =>
        simp only[Bool.and_eq_true]at hc;have a1:=(At Qx).1 hc.1 (k-1) (by omega);have a2:=(At Qx).1 hc.2 (k-1) (by omega);rw[a1,a2]at h;simp at h
      rw[val,ox];simp
     ·by_cases hjk:j+1<k
      ·exact hq j hjk
      ·rw[show j=k-1 by omega];have dk:decide ((k:Int)>0)=true:=by simp;omega
       rw[dk]at h;grind
   refine oZ (l:=x.2.1) (Q:=λb=>rC b _ (YB false=YB (Zk p))) (p:=λy=>bh y.2 0 (p.1.length-1)) (c:=λy=>!(bh y.2 0 (p.1.length-1))) (e:=true) eG jW (λy=>rfl) (λi h=>QVX (λr'=>r'=YB (Zk p)) p i k (by rw[Int.toNat_natCast,hg,e3];exact h)) ?_
   cases hx:x.2.1.all (λy=>bh y.2 0 (p.1.length-1)) with
   | false =>
    rw[hx,Bool.false_and]at he;exact au (by rw[val,<- he,Bool.and_false])
   | true=>exact rest hx
theorem QPu:Qf Tryz.prog M9:=Qi λx _=>QQB x.1
def Yb(t:Bool):aB:=b7 (bE t)
def Nd:aI:=Qg 179 [(.a QM)] λx=>(none,Yb (Zk x.1))
def JW:aF:=⟨[nQ,yK,uq],false⟩
def Qtb:af :=
 (ag [(.ae [aw 50 .lss 49 48]),(.cond 50 .skip (.exit 0)),(.block 1 (ag [(.ae [aZ 51 47 49 QF,a7 52 51 2,aC 5 (.new 154 (bG QF)),aT 5 52 2]),(.ae [ak 53 5 0,an 54 53 1,aD 55 187 [54],bL 56 55,ab 57 56,.bt 57 false [ak 58 5 1,an 59 58 1,aD 60 187 [59],bL 61 60] 62 61]),(.cond 62 (ag [(.ae [ab 2 (a0 false)]),.ret]) .skip)])),(.ae [aw 63 .add 49 (ar 1),ab 49 63])])
def Qxm:List (Nat × Md):=[(1,.b (dH 4)),(3,.one .d),(47,.one .d),(48,.one .d),(49,.one .d)]
def QA9:af :=
 (ag [(.ae [aw 68 .lss 67 66]),(.cond 68 .skip (.exit 2)),(.block 3 (ag [(.ae [ab 69 67,ab 6 69]),(.ae [ak 70 1 2,an 71 70 1,ab 72 6,aZ 73 71 72 Qh,a7 74 73 2,aD 75 220 [74],bL 76 75,ab 77 76,.bt 77 false [ak 78 1 3,an 79 78 1,ab 80 6,aZ 81 79 80 Qh,a7 82 81 2,aD 83 220 [82],bL 84 83] 85 84]),(.cond 85 (ag [(.ae [ab 2 (a0 false)]),.ret]) .skip)])),(.ae [aw 86 .add 67 (ar 1),ab 67 86])])
def QEn:List (Nat × Md):=[(1,.b (dH 4)),(3,.one .d),(66,.one .d),(67,.one .d)]
def QqK:af :=
 (ag [(.ae [aw 111 .lss 110 109]),(.cond 111 .skip (.exit 6)),(.block 7 (ag [(.ae [aZ 112 108 110 QQ,a7 113 112 2,aC 10 (.new 175 (bG QQ)),aT 10 113 2]),(.ae [ak 114 10 1,an 115 114 1,aw 116 .lss 115 (ar 0),ab 117 116,.bt 117 false [ak 118 10 1,an 119 118 1,ak 120 1 0,an 121 120 1,a9 122 121,aw 123 .geq 119 122] 124 123]),(.cond 124 (ag [(.ae [ab 2 (a0 false)]),.ret]) .skip)])),(.ae [aw 125 .add 110 (ar 1),ab 110 125])])
def Qxv:List (Nat × Md):=[(1,.b (dH 4)),(3,.one .d),(88,.one .d),(89,.one .d),(90,.one .d),(108,.one .d),(109,.one .d),(110,.one .d)]
def QxL:af :=
 (.ae [aw 126 .add 90 (ar 1),ab 90 126])
def Nf:af :=
 (ag [(.ae [aw 91 .lss 90 89]),(.cond 91 .skip (.exit 4)),(.block 5 (ag [(.ae [ab 92 90,aZ 93 88 90 Qe,a7 94 93 14,aC 8 (.new 39 (bG Qe)),ab 7 92,aT 8 94 14]),(ag [(.ae [a7 95 8 14,aD 96 72 [95],bL 97 96,ab 98 97,.bt 98 false [ak 99 8 3,an 100 99 1,ab 101 7,ab 102 3,aw 103 .sub 102 (ar 1),aw 104 .eql 101 103,aC 105 (.ij true 100 104)] 106 105]),(.cond 106 (ag [(.ae [ab 2 (a0 false)]),.ret]) .skip)]),(.ae [ak 107 8 1,an 108 107 1,a9 109 108,ab 110 (ar 0)]),(.block 6 (.loop Qxv QqK))])),QxL])
def C3:List (Nat × Md):=[(1,.b (dH 4)),(3,.one .d),(88,.one .d),(89,.one .d),(90,.one .d)]
def Qvz:af :=
 (ag [(.ae [ab 2 (a0 true)]),.ret])
def QCN:af :=
 (ag [(ag [(.ae [ak 87 1 1,an 88 87 1,a9 89 88,ab 90 (ar 0)]),(.block 4 (.loop C3 Nf))]),Qvz])
def Qxq:af :=
 (ag [(ag [(.ae [ak 64 1 2,an 65 64 1,a9 66 65,ab 67 (ar 0)]),(.block 2 (.loop QEn QA9))]),QCN])
def QJ5:af :=
 (ag [(.ae [aC 1 (.box 56 0 4),ab 2 (a0 false)]),(.ae [ak 11 1 1,an 12 11 1,a9 13 12,ab 3 13]),(ag [(.ae [ab 14 3,aw 15 .lss 14 (ar 1),ab 16 15,.bt 16 false [ab 17 3,aw 18 .gtr 17 (ar 4)] 19 18,ab 20 19,.bt 20 false [ak 21 1 2,an 22 21 1,a9 23 22,ab 24 3,aw 25 .sub 24 (ar 1),aw 26 .neq 23 25] 27 26,ab 28 27,.bt 28 false [ak 29 1 3,an 30 29 1,a9 31 30,ab 32 3,aw 33 .sub 32 (ar 1),aw 34 .neq 31 33] 35 34]),(.cond 35 (ag [(.ae [ab 2 (a0 false)]),.ret]) .skip)]),(ag [(.ae [ak 36 1 0,an 37 36 1,a9 38 37,aw 39 .lss 38 (ar 1),ab 40 39,.bt 40 false [ak 41 1 0,an 42 41 1,a9 43 42,aw 44 .gtr 43 (ar 5)] 45 44]),(.cond 45 (ag [(.ae [ab 2 (a0 false)]),.ret]) .skip)]),(ag [(.ae [ak 46 1 0,an 47 46 1,a9 48 47,ab 49 (ar 0)]),(.block 0 (.loop Qxm Qtb))]),Qxq])
def Qwl:List (bm × Md):=[(.t 2,.one .d)]
def uQ:Qb:=TQ 0 0 Qwl K
def QGo:Qb:=aY (aN JW 0 Qvz (uQ K)) (uQ K)
def Ng:Qb:=a6 4 (QGo K)
def QsF:Qb:=aY (λs'=>Loop JW 0 C3 Nf (Ng K) (gc 0 C3 s')) (Ng K)
def QKA:Qb:=aY (aN JW 0 QxL (QsF K)) (QsF K)
def QWI:Qb:=a6 5 (QKA K)
def QU9:Qb:=a6 6 (QWI K)
def Nh(p:Qk)(x2:Int)(x3:Int):Prop:=Loop JW 0 Qxv QqK (QU9 K) ⟨[(1,(.p 0 0 0)),(3,(aL ((p.2.1).length:Int))),(88,(bc Qe p.2.1)),(89,(aL ((p.2.1).length:Int))),(90,(aL x3)),(108,(bc QQ ((aq Qz p.2.1 (Int.toNat x3)).2.1))),(109,(aL (((aq Qz p.2.1 (Int.toNat x3)).2.1).length:Int))),(110,(aL x2))],[(0,(.box (aR.cells QM p)))],1⟩
def yR(p:Qk)(x3:Int):Prop:=Loop JW 0 C3 Nf (Ng K) ⟨[(1,(.p 0 0 0)),(3,(aL ((p.2.1).length:Int))),(88,(bc Qe p.2.1)),(89,(aL ((p.2.1).length:Int))),(90,(aL x3))],[(0,(.box (aR.cells QM p)))],1⟩
def QJw:Qb:=aY (aN JW 0 QCN (uQ K)) (uQ K)
def QSY:Qb:=a6 2 (QJw K)
def uR(p:Qk)(x1:Int):Prop:=Loop JW 0 QEn QA9 (QSY K) ⟨[(1,(.p 0 0 0)),(3,(aL ((p.2.1).length:Int))),(66,(aL ((p.2.2.1).length:Int))),(67,(aL x1))],[(0,(.box (aR.cells QM p)))],1⟩
def QYK:Qb:=aY (aN JW 0 Qxq (uQ K)) (uQ K)
def QV9:Qb:=a6 0 (QYK K)
def Ni(p:Qk)(x:Int):Prop:=Loop JW 0 Qxm Qtb (QV9 K) ⟨[(1,(.p 0 0 0)),(3,(aL ((p.2.1).length:Int))),(47,(bc QF p.1)),(48,(aL ((p.1).length:Int))),(49,(aL x))],[(0,(.box (aR.cells QM p)))],1⟩
theorem QXq(p:Qk)(x2:Int)(x3:Int) (h :
 (aJ (decide (x2<(((aq Qz p.2.1 (Int.toNat x3)).2.1).length:Int))) ((0<=x2/\Int.toNat x2<((aq Qz p.2.1 (Int.toNat x3)).2.1).length)/\(aJ ((decide (((aq eG ((aq Qz p.2.1 (Int.toNat x3)).2.1) (Int.toNat x2)).2)<0))||(decide (((aq eG ((aq Qz p.2.1 (Int.toNat x3)).2.1) (Int.toNat x2)).2)>=((p.1).length:Int)))) (K (Yb false)) (Nh K p (aG (x2+1)) x3))) (yR K p (aG (x3+1))))):Nh K p x2 x3 :=
 Loop.of h
theorem QwP(p:Qk)(x3:Int) (h :
 (aJ (decide (x3<((p.2.1).length:Int))) ((0<=x3/\Int.toNat x3<(p.2.1).length)/\(aJ ((!(QU (aq Qz p.2.1 (Int.toNat x3))))||(!(((aq Qz p.2.1 (Int.toNat x3)).2.2.2.1)==(x3==(aG (((p.2.1).length:Int)-1)))))) (K (Yb false)) (Nh K p 0 x3))) (K (Yb true)))):yR K p x3 :=
 Loop.of h
theorem QyL(p:Qk)(x1:Int) (h :
 (aJ (decide (x1<((p.2.2.1).length:Int))) (((0<=x1/\Int.toNat x1<(p.2.2.1).length)/\((!(!(Q0 (aq Qx p.2.2.1 (Int.toNat x1)))))=true->(0<=x1/\Int.toNat x1<(p.2.2.2).length)))/\(aJ ((!(Q0 (aq Qx p.2.2.1 (Int.toNat x1))))||(!(Q0 (aq Qx p.2.2.2 (Int.toNat x1))))) (K (Yb false)) (uR K p (aG (x1+1))))) (yR K p 0))):uR K p x1 :=
 Loop.of h
theorem QYx(p:Qk)(x:Int) (h :
 (aJ (decide (x<((p.1).length:Int))) ((0<=x/\Int.toNat x<(p.1).length)/\(aJ ((!(QK ((aq QW p.1 (Int.toNat x)).1)))||(!(QK ((aq QW p.1 (Int.toNat x)).2)))) (K (Yb false)) (Ni K p (aG (x+1))))) (uR K p 0))):Ni K p x :=
 Loop.of h
theorem QQD(p:Qk):aK Tryz.prog 179 [(.a (aR.cells QM p))] (Yb (Zk p)):=by
 refine bw JW QJ5 Qwl 0 0 127 Nd (kc si (kc MU (kc Br kn))) (λK =>
 (aJ ((((decide (((p.2.1).length:Int)<1))||(decide (((p.2.1).length:Int)>4)))||(((p.2.2.1).length:Int) != (aG (((p.2.1).length:Int)-1))))||(((p.2.2.2).length:Int) != (aG (((p.2.1).length:Int)-1)))) (K (Yb false)) (aJ ((decide (((p.1).length:Int)<1))||(decide (((p.1).length:Int)>5))) (K (Yb false)) (Ni K p 0)))) (λhb=>?_)
 have f5:(p.1).length<=9223372036854775807:=hb.1.1.1;have fC:(p.2.1).length<=9223372036854775807:=hb.1.2.1.1;have gW:(p.2.2.1).length<=9223372036854775807:=hb.1.2.2.1.1;have gX:(p.2.2.2).length<=9223372036854775807:=hb.1.2.2.2.1.1;refine⟨λh=>au ?_,λh=>?_⟩
 ·have:(bh p.2.1.length 1 4&&(p.2.2.1.length+1==p.2.1.length)&&(p.2.2.2.length+1==p.2.1.length))=false:=by
   by_cases h0:bh p.2.1.length 1 4=true
   ·have h1:=Zb.1 h0;rw[QG (x:=(p.2.1.length:Int)-1) (by omega) (by omega)]at h;simp at h;simp[h0];omega
   ·simp at h0;simp[h0]
  simp[Zk,this]
 have h0:bh p.2.1.length 1 4=true:=by simp at h;simp[bh];omega
 have h1:=Zb.1 h0;have e1:aG ((p.2.1.length:Int)-1)=p.2.1.length-1:=QG (by omega) (by omega);rw[e1]at h;have ha:p.2.2.1.length+1=p.2.1.length/\p.2.2.2.length+1=p.2.1.length:=by simp at h;omega
 refine⟨λh=>au ?_,λh=>?_⟩
 ·have:bh p.1.length 1 5=false:=by simp at h;simp[bh];omega
  simp[Zk,this]
 have h2:bh p.1.length 1 5=true:=by simp at h;simp[bh];omega
 have h3:=Zb.1 h2;have val:(Zk p)=(p.1.all Jk&&(p.2.2.1.all Q0&&p.2.2.2.all Q0)&&Jd p.1.length p.2.1):=by
  simp only[Zk,h0,h2,ha];simp
 refine oZ (Q:=λb=>rC b (uR (λr'=>r'=Yb (Zk p)) p ((0:Nat):Int)) (Yb false=Yb (Zk p))) (p:=Jk) (c:=λx=>(!(QK x.1))||!(QK x.2)) (e:=true) QW f5 (λx=>by grind[Jk]) (λi h=>QYx (λr'=>r'=Yb (Zk p)) p i h) ?_
 cases qj:p.1.all Jk with
 | false=>exact au (by rw[val,qj];rfl)
 | true =>
  show uR (λr'=>r'=Yb (Zk p)) p ((0:Nat):Int);have sH:∀ k:Nat,((p.2.2.1.drop k).all Q0&&(p.2.2.2.drop k).all Q0)=(p.2.2.1.all Q0&&p.2.2.2.all Q0)->k<=p.2.2.1.length->uR (λr'=>r'=Yb (Zk p)) p k:=by
   intro k;generalize hn:p.2.2.1.length-k=n
   induction n generalizing k with
   | zero =>
    intro he hle;refine QyL _ _ _ ⟨λh=>by simp at h;omega,λ_=>?_⟩;have ew:(p.2.2.1.all Q0&&p.2.2.2.all Q0)=true:=by
     rw[<- he,List.drop_eq_nil_of_le (by omega),List.drop_eq_nil_of_le (by omega)];rfl
    refine Za p.2.1 (λr k=>Jd p.1.length r=Jd p.1.length p.2.1->yR (λr'=>r'=Yb (Zk p)) p k) ?_ ?_ rfl
    ·intro eI;refine QwP _ _ _ ⟨λh=>by simp at h,λ_=>au ?_⟩;rw[val,qj,ew,<- eI];rfl
    ·intro k x r hk aU hg ih eI;have dF:x∈p.2.1:=List.mem_of_mem_drop (i:=k) (by rw[hk];exact List.mem_cons_self);have jW:x.2.1.length<=9223372036854775807:=(hb.1.2.1.2 x dF).2.1.1;have kj:=Tc hk fC;rw[Jd]at eI;refine QwP _ _ _ ⟨λ_=>?_,λh=>by simp at h;omega⟩;rw[Int.toNat_natCast,hg,kj];refine⟨⟨by omega,aU⟩,λh=>au ?_,λh=>?_⟩
     ·have:(QU x&&(x.2.2.2.1==decide (r.length=0)))=false:=by grind
      rw[this,Bool.false_and,Bool.false_and]at eI;rw[val,<- eI,Bool.and_false]
     ·have:(QU x&&(x.2.2.2.1==decide (r.length=0)))=true:=by grind
      rw[this,Bool.true_and]at eI;refine oZ (l:=x.2.1) (Q:=λb=>rC b (yR (λr'=>r'=Yb (Zk p)) p ((k+1:Nat):Int)) (Yb false=Yb (Zk p))) (p:=λy=>bh y.2 0 (p.1.length-1)) (c:=λy=>decide (y.2<0)||decide (y.2>=(p.1.length:Int))) (e:=true) eG jW (λy=>by grind[bh]) (λi h=>QXq (λr'=>r'=Yb (Zk p)) p i k (by rw[Int.toNat_natCast,hg,QG (x:=(k:Int)+1) (by omega) (by omega)];exact h)) ?_
      cases hx:x.2.1.all (λy=>bh y.2 0 (p.1.length-1)) with
      | false =>
       rw[hx,Bool.false_and]at eI;exact au (by rw[val,<- eI,Bool.and_false])
      | true =>
       rw[hx,Bool.true_and]at eI;exact ih eI
   | succ n ihn =>
    intro he hle;obtain⟨y,q,hq⟩:∃ y q,p.2.2.1.drop k=y::q:=by
     cases hq:p.2.2.1.drop k with
     | nil=>have:=congrArg List.length hq;simp at this;omega
     | cons y q=>exact⟨y,q,rfl⟩
    obtain⟨z,t,hz⟩:∃ z t,p.2.2.2.drop k=z::t:=by
     cases hz:p.2.2.2.drop k with
     | nil=>have:=congrArg List.length hz;simp at this;omega
     | cons z t=>exact⟨z,t,rfl⟩
    have aU:=An hq;refine QyL _ _ _ ⟨λ_=>?_,λh=>by simp at h;omega⟩;rw[Int.toNat_natCast,ZG hq,ZG hz,QG (x:=(k:Int)+1) (by omega) (by omega)];have l8:=ihn (k+1) (by omega);rw[Zz hq,Zz hz]at l8;rw[hq,hz,List.all_cons,List.all_cons]at he;refine⟨⟨⟨by omega,aU⟩,λ_=>⟨by omega,by omega⟩⟩,λh=>au ?_,λh=>l8 ?_ (by omega)⟩
    ·rw[val,<- he];grind
    ·rw[<- he];grind
  exact sH 0 rfl (Nat.zero_le _)
theorem QMv:Qf Tryz.prog Nd:=Qi λx _=>QQD x.1
end
end Go.Proofs.YtdplaepmjogjjaaGreat.Am

