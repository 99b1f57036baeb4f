/-
  Written by program: the code of functions, what it asks, and that it comes to what the models say.
-/
import Derived.Test.YtdplaepmjogjjaaGreatVHM5
namespace Go.Proofs.YtdplaepmjogjjaaGreat.Am
open Go Go.RowKit Go.Proofs.YtdplaepmjogjjaaGreat
set_option linter.all false
noncomputable section
variable (K:aB->Prop)
def C0(t:bu):aB:=b6 (.a [(aL t.1),(aL t.2)])
def C1:aI:=Qg 144 [(.a QM),(.c TI)] λx=>(none,C0 (Ql x.1 x.2.1))
def QF1:aF:=⟨[YV],false⟩
def QVN:af :=
 (ag [(.ae [aC 2 (.box 56 0 4),aC 4 (.new 175 (bG QP))]),(ag [(.draw [ab 5 1,ak 6 2 1,an 7 6 1,ba 8 7,aw 9 .sub 8 (aq 1),aD 10 158 [5,(aq 0),9],bL 11 10,ab 12 11,.bt 12 false [ak 13 2 1,an 14 13 1,ab 15 1,a0 16 14 15 Qe,ak 17 16 0,an 18 17 1,ak 19 2 1,an 20 19 1,ab 21 1,a0 22 20 21 Qe,ak 23 22 1,an 24 23 1,ba 25 24,aw 26 .sub 25 (aq 1),aD 27 158 [18,(aq 0),26],bL 28 27] 29 28] []),(.cond 29 (ag [(.ae [aC 30 (.build (bG QP) []),aU 4 30 2]),.ret]) .skip)]),(.draw [ak 31 2 1,an 32 31 1,ab 33 1,a0 34 32 33 Qe,ak 35 34 1,an 36 35 1,ak 37 2 1,an 38 37 1,ab 39 1,a0 40 38 39 Qe,ak 41 40 0,an 42 41 1,a0 43 36 42 QP,a8 44 43 2,aU 4 44 2] []),.ret])
def QFc:List (bn × Md):=[(.l 4 2 true,.b [.d,.d])]
theorem QOc(p:Qk)(s:Int):aK Tryz.prog 144 [(.a (aS.cells QM p)),(.c TI s)] (C0 (Ql p s)):=by
 refine bz QF1 QVN QFc 0 0 45 C1 (kc Js kn) (λK =>
 (((!(!(bj s (0:Int) (aG (((p.2.1).length:Int)-1)))))=true->((0<=s/\Int.toNat s<(p.2.1).length)/\(0<=s/\Int.toNat s<(p.2.1).length)))/\(aJ ((!(bj s (0:Int) (aG (((p.2.1).length:Int)-1))))||(!(bj ((ar Qz p.2.1 (Int.toNat s)).1) (0:Int) (aG ((((ar Qz p.2.1 (Int.toNat s)).2.1).length:Int)-1))))) (K (C0 ((0:Int),(0:Int)))) (((0<=s/\Int.toNat s<(p.2.1).length)/\((0<=s/\Int.toNat s<(p.2.1).length)/\((0:Int)<=(ar Qz p.2.1 (Int.toNat s)).1/\Int.toNat ((ar Qz p.2.1 (Int.toNat s)).1)<((ar Qz p.2.1 (Int.toNat s)).2.1).length)))/\K (C0 (ar eF ((ar Qz p.2.1 (Int.toNat s)).2.1) (Int.toNat ((ar Qz p.2.1 (Int.toNat s)).1)))))))) (λhb=>?_)
 have f0:(p.1).length<=9223372036854775807:=hb.1.1.1;have fA:(p.2.1).length<=9223372036854775807:=hb.1.2.1.1;have gW:(p.2.2.1).length<=9223372036854775807:=hb.1.2.2.1.1;have gX:(p.2.2.2).length<=9223372036854775807:=hb.1.2.2.2.1.1;have e1:aG ((p.2.1.length:Int)-1)=p.2.1.length-1:=QG (by omega) (by omega);rw[e1];by_cases h0:bj s 0 (p.2.1.length-1)=true
 ·have h1:=Za.1 h0;have aW:s.toNat<p.2.1.length:=by omega
  have dE:=Jz aW Qz;have jT:(ar Qz p.2.1 s.toNat).2.1.length<=9223372036854775807:=(hb.1.2.1.2 _ dE).2.1.1;rw[QG (x:=((ar Qz p.2.1 s.toNat).2.1.length:Int)-1) (by omega) (by omega)];refine⟨λ_=>⟨⟨h1.1,aW⟩,h1.1,aW⟩,λh=>au ?_,λh=>⟨⟨⟨h1.1,aW⟩,⟨h1.1,aW⟩,?_⟩,au ?_⟩⟩
  ·simp[h0]at h;simp[Ql,h0,rj,h]
  ·simp[h0]at h;have:=Za.1 h;omega
  ·simp[h0]at h;simp[Ql,h0,rj,h]
 ·refine⟨λh=>by simp[h0]at h,λh=>au ?_,λh=>by simp[h0]at h⟩;simp[Ql,h0]
theorem QrK:Qf Tryz.prog C1:=Qi λx _=>QOc x.1 x.2.1
def yN(t:bu):aB:=b6 (.a [(aL t.1),(aL t.2)])
def C2:aI:=Qg 148 [(.a QM),(.c TI)] λx=>(none,yN (Ql x.1 x.2.1))
def QTC:aF:=⟨[],false⟩
def QMm:af :=
 (ag [(.ae [aC 2 (.box 56 0 4),aC 4 (.new 175 (bG QP))]),(ag [(.ae [ab 6 1,aw 7 .lss 6 (aq 0),ab 8 7,.bt 8 false [ab 9 1,ak 10 2 1,an 11 10 1,ba 12 11,aw 13 .geq 9 12] 14 13]),(.cond 14 (ag [(.ae [aC 15 (.build (bG QP) []),aU 4 15 2]),.ret]) .skip)]),(.ae [ak 16 2 1,an 17 16 1,ab 18 1,a0 19 17 18 Qe,a8 20 19 14,aC 5 (.new 39 (bG Qe)),aU 5 20 14]),(ag [(.ae [ak 21 5 0,an 22 21 1,aw 23 .lss 22 (aq 0),ab 24 23,.bt 24 false [ak 25 5 0,an 26 25 1,ak 27 5 1,an 28 27 1,ba 29 28,aw 30 .geq 26 29] 31 30]),(.cond 31 (ag [(.ae [aC 32 (.build (bG QP) []),aU 4 32 2]),.ret]) .skip)]),(.ae [ak 33 5 1,an 34 33 1,ak 35 5 0,an 36 35 1,a0 37 34 36 QP,a8 38 37 2,aU 4 38 2]),.ret])
def QYm:List (bn × Md):=[(.l 4 2 true,.b [.d,.d])]
theorem QFT(p:Qk)(s:Int):aK Tryz.prog 148 [(.a (aS.cells QM p)),(.c TI s)] (yN (Ql p s)):=by
 refine bz QTC QMm QYm 0 0 39 C2 kn (λK =>
 (aJ ((decide (s<0))||(decide (s>=((p.2.1).length:Int)))) (K (yN ((0:Int),(0:Int)))) ((0<=s/\Int.toNat s<(p.2.1).length)/\(aJ ((decide (((ar Qz p.2.1 (Int.toNat s)).1)<0))||(decide (((ar Qz p.2.1 (Int.toNat s)).1)>=(((ar Qz p.2.1 (Int.toNat s)).2.1).length:Int)))) (K (yN ((0:Int),(0:Int)))) (((0:Int)<=(ar Qz p.2.1 (Int.toNat s)).1/\Int.toNat ((ar Qz p.2.1 (Int.toNat s)).1)<((ar Qz p.2.1 (Int.toNat s)).2.1).length)/\K (yN (ar eF ((ar Qz p.2.1 (Int.toNat s)).2.1) (Int.toNat ((ar Qz p.2.1 (Int.toNat s)).1))))))))) (λhb=>?_)
 refine⟨λh=>au ?_,λh=>?_⟩
 ·have h0:bj s 0 (p.2.1.length-1)=false:=by simp at h;simp[bj];omega
  simp[Ql,h0]
 have h0:bj s 0 (p.2.1.length-1)=true:=by simp at h;simp[bj];omega
 have h1:=Za.1 h0;have aW:s.toNat<p.2.1.length:=by omega
 refine⟨⟨h1.1,aW⟩,λh=>au ?_,λh=>?_⟩
 ·have h2:bj (ar Qz p.2.1 s.toNat).1 0 ((ar Qz p.2.1 s.toNat).2.1.length-1)=false:=by simp at h;simp[bj];omega
  simp[Ql,h0,rj,h2]
 ·have h2:bj (ar Qz p.2.1 s.toNat).1 0 ((ar Qz p.2.1 s.toNat).2.1.length-1)=true:=by simp at h;simp[bj];omega
  have h3:=Za.1 h2;refine⟨⟨h3.1,by omega⟩,au ?_⟩;simp[Ql,h0,rj,h2]
theorem QAc:Qf Tryz.prog C2:=Qi λx _=>QFT x.1 x.2.1
def yO(t:Bool):aB:=b6 (bE t)
def Nf:aI:=Qg 177 [(.a QM)] λx=>(none,yO (oU x.1))
def Ng:aF:=⟨[],false⟩
def QwO:af :=
 (ag [(ag [(.ae [ab 4 3,ak 5 1 1,an 6 5 1,ba 7 6,aw 8 .lss 4 7]),(.cond 8 .skip (.exit 0))]),(.block 1 (ag [(.draw [ak 11 1 1,an 12 11 1,ab 13 3,a0 14 12 13 Qe,ak 15 14 0,an 16 15 1,ak 17 1 1,an 18 17 1,ab 19 3,a0 20 18 19 Qe,ak 21 20 1,an 22 21 1,ba 23 22,aw 24 .sub 23 (aq 1),aw 25 .lss 16 24] []),(.cond 25 (ag [(.ae [ab 2 (a6 false)]),.ret]) .skip)])),(.ae [ab 9 3,aw 10 .add 9 (aq 1),ab 3 10])])
def QrP:List (Nat × Md):=[(1,.b (dG 4)),(3,.one .d)]
def QC1:af :=
 (ag [(.ae [ab 2 (a6 true)]),.ret])
def QNS:af :=
 (ag [(.ae [aC 1 (.box 56 0 4),ab 2 (a6 false)]),(ag [(.ae [ab 3 (aq 0)]),(.block 0 (.loop QrP QwO))]),QC1])
def QCS:List (bn × Md):=[(.t 2,.one .d)]
def QqJ:Qb:=TQ 0 0 QCS K
def QJp:Qb:=aY (aO Ng 0 QC1 (QqJ K)) (QqJ K)
def QLu:Qb:=a7 0 (QJp K)
def C3(p:Qk)(s:Int):Prop:=Loop Ng 0 QrP QwO (QLu K) ⟨[(1,(.p 0 0 0)),(3,(aL s))],[(0,(.box (aS.cells QM p)))],1⟩
theorem Qzh(p:Qk)(s:Int) (h :
 (aJ (decide (s<((p.2.1).length:Int))) (((0<=s/\Int.toNat s<(p.2.1).length)/\(0<=s/\Int.toNat s<(p.2.1).length))/\(aJ (decide (((ar Qz p.2.1 (Int.toNat s)).1)<(aG ((((ar Qz p.2.1 (Int.toNat s)).2.1).length:Int)-1)))) (K (yO false)) (C3 K p (aG (s+1))))) (K (yO true)))):C3 K p s :=
 Loop.of h
theorem QXG(p:Qk):aK Tryz.prog 177 [(.a (aS.cells QM p))] (yO (oU p)):=by
 refine bz Ng QNS QCS 0 0 26 Nf kn (λK =>
 (C3 K p 0)) (λhb=>?_)
 have f0:(p.1).length<=9223372036854775807:=hb.1.1.1;have fA:(p.2.1).length<=9223372036854775807:=hb.1.2.1.1;have gW:(p.2.2.1).length<=9223372036854775807:=hb.1.2.2.1.1;have gX:(p.2.2.2).length<=9223372036854775807:=hb.1.2.2.2.1.1;refine Zf p.2.1 (λr k=>r.all Y4=p.2.1.all Y4->C3 (λr'=>r'=yO (oU p)) p k) ?_ ?_ rfl
 ·intro he;refine Qzh _ _ _ ⟨λh=>by simp at h,λ_=>au ?_⟩;exact he
 ·intro k x r hk aW hg ih he;have dE:x∈p.2.1:=List.mem_of_mem_drop (i:=k) (by rw[hk];exact List.mem_cons_self);have jT:x.2.1.length<=9223372036854775807:=(hb.1.2.1.2 x dE).2.1.1;refine Qzh _ _ _ ⟨λ_=>?_,λh=>by simp at h;omega⟩;rw[Int.toNat_natCast,hg,QG (x:=(k:Int)+1) (by omega) (by omega),QG (x:=(x.2.1.length:Int)-1) (by omega) (by omega)];rw[List.all_cons]at he;refine⟨⟨⟨by omega,aW⟩,by omega,aW⟩,λh=>au ?_,λh=>ih ?_⟩
  ·have:Y4 x=false:=by simp at h;simp[Y4];omega
   rw[this]at he;exact he
  ·have:Y4 x=true:=by simp at h;simp[Y4];omega
   rw[this,Bool.true_and]at he;exact he
theorem QQ2:Qf Tryz.prog Nf:=Qi λx _=>QXG x.1
def Jo(t:Bool):aB:=b6 (bE t)
def Nh:aI:=Qg 89 [(.a QM),(.c TI)] λx=>(none,Jo (ZJ x.1 x.2.1))
def Ni:aF:=⟨[M5,YV,C1,Nf],false⟩
def QuS:af :=
 (.cond 100 (ag [(.ae [ab 4 (a6 true)]),.ret]) (ag [(.ae [aw 105 .eql 20 (aq 8),ab 104 105]),(.cond 104 (ag [(.ae [a8 106 2 4,aD 107 177 [106],ab 4 107]),.ret]) .skip)]))
def QYy:List (Nat × Md):=[(2,.b (dG 4)),(20,.one .d),(100,.one .d)]
def QMd:af:=.wk QYy QuS
def Qzl:af :=
 (ag [(.ae [ab 4 (a6 false)]),.ret])
def QFb:af :=
 (ag [(.ae [aC 2 (.box 56 0 4),ab 4 (a6 false)]),(ag [(.ae [a8 5 2 4,aD 6 176 [5],bL 7 6,ab 8 7,.bt 8 false [ab 9 1,ak 10 2 1,an 11 10 1,ba 12 11,aw 13 .sub 12 (aq 1),aD 14 158 [9,(aq 0),13],bL 15 14] 16 15]),(.cond 16 (ag [(.ae [ab 4 (a6 false)]),.ret]) .skip)]),(ag [(.ae [a8 17 2 4,ab 18 1,aD 19 144 [17,18],aC 20 (.kS 19 0 1 false)]),(.block 0 (ag [(.ae [aw 22 .eql 20 (aq 1),ab 21 22]),(.cond 21 (ag [(.ae [ab 23 1,aw 24 .gtr 23 (aq 0),ab 25 24,.bt 25 true [ak 26 2 2,an 27 26 1,ab 28 1,aw 29 .sub 28 (aq 1),a0 30 27 29 Qh,ak 31 30 1,an 32 31 1,ba 33 32,aw 34 .gtr 33 (aq 0)] 35 34,ab 4 35]),.ret]) (ag [(.ae [aw 37 .eql 20 (aq 3),ab 36 37]),(.cond 36 (ag [(.draw [ab 38 1,ak 39 2 1,an 40 39 1,ba 41 40,aw 42 .sub 41 (aq 1),aw 43 .lss 38 42,ab 44 43,.bt 44 true [ak 45 2 2,an 46 45 1,ab 47 1,a0 48 46 47 Qh,ak 49 48 1,an 50 49 1,ba 51 50,ak 52 2 2,an 53 52 1,ab 54 1,a0 55 53 54 Qh,ak 56 55 0,an 57 56 1,aw 58 .lss 51 57] 59 58,ab 4 59] []),.ret]) (ag [(.ae [aw 61 .eql 20 (aq 4),ab 60 61]),(.cond 60 (ag [(.ae [ab 62 1,ak 63 2 1,an 64 63 1,ba 65 64,aw 66 .sub 65 (aq 1),aw 67 .lss 62 66,ab 68 67,.bt 68 true [ak 69 2 3,an 70 69 1,ab 71 1,a0 72 70 71 Qh,ak 73 72 1,an 74 73 1,ba 75 74,aw 76 .gtr 75 (aq 0)] 77 76,ab 4 77]),.ret]) (ag [(.ae [aw 79 .eql 20 (aq 7),ab 78 79]),(.cond 78 (ag [(.draw [ab 80 1,aw 81 .gtr 80 (aq 0),ab 82 81,.bt 82 true [ak 83 2 3,an 84 83 1,ab 85 1,aw 86 .sub 85 (aq 1),a0 87 84 86 Qh,ak 88 87 1,an 89 88 1,ba 90 89,ak 91 2 3,an 92 91 1,ab 93 1,aw 94 .sub 93 (aq 1),a0 95 92 94 Qh,ak 96 95 0,an 97 96 1,aw 98 .lss 90 97] 99 98,ab 4 99] []),.ret]) (ag [(ag [(.ae [aw 101 .eql 20 (aq 2),ab 100 101]),(.cond 100 .skip (ag [(.ae [aw 102 .eql 20 (aq 5),ab 100 102]),(.cond 100 .skip (.ae [aw 103 .eql 20 (aq 6),ab 100 103]))]))]),QMd]))]))]))]))]))]),Qzl])
def Qrx:List (bn × Md):=[(.t 4,.one .d)]
def Qvx:Qb:=TQ 0 0 Qrx K
def QGK:Qb:=aY (aO Ni 0 Qzl (Qvx K)) (Qvx K)
def QTL:Qb:=a7 0 (QGK K)
@[irreducible] def yP(p:Qk)(s:Int)(x:Bool):Prop:=aO Ni 0 QuS (QTL K) ⟨[(2,(.p 0 0 0)),(20,(aL ((Ql p s).1))),(100,(bE x))],[(0,(.box (aS.cells QM p)))],1⟩
theorem QIt(p:Qk)(s:Int)(x:Bool) (h :
 (aJ x (K (Jo true)) (aJ (((Ql p s).1)==8) (K (Jo (oU p))) (K (Jo false))))):dt (yP K p s x) :=
 dt.of h
theorem QNw(p:Qk)(s:Int):aK Tryz.prog 89 [(.a (aS.cells QM p)),(.c TI s)] (Jo (ZJ p s)):=by
 refine bz Ni QFb Qrx 0 0 108 Nh (kc QYF (kc Js (kc QrK (kc QQ2 kn)))) (λK =>
 (aJ ((!(Zk p))||(!(bj s (0:Int) (aG (((p.2.1).length:Int)-1))))) (K (Jo false)) (aJ (((Ql p s).1)==1) (((decide (s>0))=true->(0<=aG (s-1)/\Int.toNat (aG (s-1))<(p.2.2.1).length))/\K (Jo ((decide (s>0))&&(decide ((((ar Qx p.2.2.1 (Int.toNat (aG (s-1)))).2).length:Int)>0))))) (aJ (((Ql p s).1)==3) (((decide (s<(aG (((p.2.1).length:Int)-1))))=true->((0<=s/\Int.toNat s<(p.2.2.1).length)/\(0<=s/\Int.toNat s<(p.2.2.1).length)))/\K (Jo ((decide (s<(aG (((p.2.1).length:Int)-1))))&&(decide ((((ar Qx p.2.2.1 (Int.toNat s)).2).length:Int)<((ar Qx p.2.2.1 (Int.toNat s)).1)))))) (aJ (((Ql p s).1)==4) (((decide (s<(aG (((p.2.1).length:Int)-1))))=true->(0<=s/\Int.toNat s<(p.2.2.2).length))/\K (Jo ((decide (s<(aG (((p.2.1).length:Int)-1))))&&(decide ((((ar Qx p.2.2.2 (Int.toNat s)).2).length:Int)>0))))) (aJ (((Ql p s).1)==7) (((decide (s>0))=true->((0<=aG (s-1)/\Int.toNat (aG (s-1))<(p.2.2.2).length)/\(0<=aG (s-1)/\Int.toNat (aG (s-1))<(p.2.2.2).length)))/\K (Jo ((decide (s>0))&&(decide ((((ar Qx p.2.2.2 (Int.toNat (aG (s-1)))).2).length:Int)<((ar Qx p.2.2.2 (Int.toNat (aG (s-1)))).1)))))) (aJ (((Ql p s).1)==2) (yP K p s (((Ql p s).1)==2)) (aJ (((Ql p s).1)==5) (yP K p s (((Ql p s).1)==5)) (yP K p s (((Ql p s).1)==6)))))))))) (λhb=>?_)
 have f0:(p.1).length<=9223372036854775807:=hb.1.1.1;have fA:(p.2.1).length<=9223372036854775807:=hb.1.2.1.1;have gW:(p.2.2.1).length<=9223372036854775807:=hb.1.2.2.1.1;have gX:(p.2.2.2).length<=9223372036854775807:=hb.1.2.2.2.1.1;by_cases h0:(Zk p&&bj s 0 (p.2.1.length-1))=true;rotate_left
 ·have e1:aG ((p.2.1.length:Int)-1)=p.2.1.length-1:=QG (by omega) (by omega);rw[e1];refine⟨λh=>au (by grind[ZJ]),λh=>by grind⟩
 have yQ:=h0;simp only[Bool.and_eq_true,Za]at yQ;have fg:=yQ.1;simp only[Zk,Bool.and_eq_true,Za,beq_iff_eq]at fg;have e1:aG ((p.2.1.length:Int)-1)=p.2.1.length-1:=QG (by omega) (by omega);have e2:aG (s-1)=s-1:=QG (by omega) (by omega);rw[e1,e2];have e4:Int.toNat (s-1)=s.toNat-1:=by omega
 rw[e4];have hM:(ZJ p s)=Ji p s (Ql p s).1:=by unfold ZJ;rw[h0,Bool.true_and]
 have k2:∀ b:Bool,(b=true->Ji p s (Ql p s).1=true)->(b=false->Ji p s (Ql p s).1=if(Ql p s).1=8 then oU p else false)->yP (λr'=>r'=Jo (ZJ p s)) p s b:=by
  intro b iu fw;refine(QIt (λr'=>r'=Jo (ZJ p s)) p s _ ⟨λh=>au ?_,λh=>⟨λh8=>au ?_,λh8=>au ?_⟩⟩).h
  ·rw[hM,iu h]
  ·rw[hM,fw h,if_pos (by simpa using h8)]
  ·rw[hM,fw h,if_neg (by simpa using h8)]
 generalize(Ql p s).1=kd at *;refine⟨λh=>by grind,λ_=>⟨λh1=>⟨λh=>by simp at h;omega,au ?_⟩,λh1=>⟨λh2=>⟨λh=>by simp at h;omega,au ?_⟩,λh2=>⟨λh3=>⟨λh=>by simp at h;omega,au ?_⟩,λh3=>⟨λh4=>⟨λh=>by simp at h;omega,au ?_⟩,λh4=>⟨λh5=>k2 _ ?_ ?_,λh5=>⟨λh6=>k2 _ ?_ ?_,λh6=>k2 _ ?_ ?_⟩⟩⟩⟩⟩⟩⟩
 all_goals (try rw[hM]);simp only[Ji,oT]at *;grind
theorem QQC:Qf Tryz.prog Nh:=Qi λx _=>QNw x.1 x.2.1
def YB(t:Bool):aB:=b6 (bE t)
def Nj:aI:=Qg 92 [(.a QM),(.c TI)] λx=>(none,YB (ZJ x.1 x.2.1))
def yR:aF:=⟨[M9,C2,MS],false⟩
def Qz0:af :=
 (ag [(.ae [aw 94 .lss 93 92]),(.cond 94 .skip (.exit 1)),(.block 2 (ag [(.ae [a0 95 91 93 Qe,a8 96 95 14,aC 7 (.new 39 (bG Qe)),aU 7 96 14]),(.ae [ak 97 7 0,an 98 97 1,ak 99 7 1,an 100 99 1,ba 101 100,aw 102 .sub 101 (aq 1),aw 103 .lss 98 102]),(.cond 103 (ag [(.ae [ab 4 (a6 false)]),.ret]) .skip)])),(.ae [aw 104 .add 93 (aq 1),ab 93 104])])
def QCT:List (Nat × Md):=eV [91,92,93]
def Qvp:af :=
 (ag [(.ae [ab 4 (a6 true)]),.ret])
def QA5:af :=
 (.cond 84 (ag [(.ae [ab 4 (a6 true)]),.ret]) (ag [(.ae [aw 89 .eql 31 (aq 8),ab 88 89]),(.cond 88 (ag [(ag [(.ae [ak 90 2 1,an 91 90 1,ba 92 91,ab 93 (aq 0)]),(.block 1 (.loop QCT Qz0))]),Qvp]) .skip)]))
def QMN:List (Nat × Md):=[(2,.b (dG 4)),(31,.one .d),(84,.one .d)]
def QWO:af:=.wk QMN QA5
def QvV:af :=
 (ag [(.ae [ab 4 (a6 false)]),.ret])
def QN7:af :=
 (ag [(.ae [aC 2 (.box 56 0 4),ab 4 (a6 false)]),(ag [(.ae [a8 8 2 4,aD 9 179 [8],bL 10 9,ab 11 10,.bt 11 false [ab 12 1,aw 13 .lss 12 (aq 0)] 14 13,ab 15 14,.bt 15 false [ab 16 1,ak 17 2 1,an 18 17 1,ba 19 18,aw 20 .geq 16 19] 21 20]),(.cond 21 (ag [(.ae [ab 4 (a6 false)]),.ret]) .skip)]),(.ae [ab 22 1,ak 23 2 1,an 24 23 1,ba 25 24,aw 26 .sub 25 (aq 1),aw 27 .lss 22 26,ab 5 27]),(ag [(.ae [a8 28 2 4,ab 29 1,aD 30 148 [28,29],aC 31 (.kS 30 0 1 false)]),(.block 0 (ag [(.ae [aw 33 .eql 31 (aq 1),ab 32 33]),(.cond 32 (ag [(.ae [ab 34 1,aw 35 .gtr 34 (aq 0),ab 36 35,.bt 36 true [ak 37 2 2,an 38 37 1,ab 39 1,aw 40 .sub 39 (aq 1),a0 41 38 40 Qh,ak 42 41 1,an 43 42 1,ba 44 43,aw 45 .gtr 44 (aq 0)] 46 45,ab 4 46]),.ret]) (ag [(.ae [aw 48 .eql 31 (aq 3),ab 47 48]),(.cond 47 (ag [(.ae [ab 49 5,ab 50 49,.bt 50 true [ak 51 2 2,an 52 51 1,ab 53 1,a0 54 52 53 Qh,a8 55 54 2,aD 56 180 [55]] 57 56,ab 4 57]),.ret]) (ag [(.ae [aw 59 .eql 31 (aq 4),ab 58 59]),(.cond 58 (ag [(.ae [ab 60 5,ab 61 60,.bt 61 true [ak 62 2 3,an 63 62 1,ab 64 1,a0 65 63 64 Qh,ak 66 65 1,an 67 66 1,ba 68 67,aw 69 .gtr 68 (aq 0)] 70 69,ab 4 70]),.ret]) (ag [(.ae [aw 72 .eql 31 (aq 7),ab 71 72]),(.cond 71 (ag [(.ae [ab 73 1,aw 74 .gtr 73 (aq 0),ab 75 74,.bt 75 true [ak 76 2 3,an 77 76 1,ab 78 1,aw 79 .sub 78 (aq 1),a0 80 77 79 Qh,a8 81 80 2,aD 82 180 [81]] 83 82,ab 4 83]),.ret]) (ag [(ag [(.ae [aw 85 .eql 31 (aq 2),ab 84 85]),(.cond 84 .skip (ag [(.ae [aw 86 .eql 31 (aq 5),ab 84 86]),(.cond 84 .skip (.ae [aw 87 .eql 31 (aq 6),ab 84 87]))]))]),QWO]))]))]))]))]))]),QvV])
def Qz5:List (bn × Md):=[(.t 4,.one .d)]
def QAa:Qb:=TQ 0 0 Qz5 K
def QJV:Qb:=aY (aO yR 0 QvV (QAa K)) (QAa K)
def Nk:Qb:=a7 0 (QJV K)
def QN1:Qb:=aY (aO yR 0 Qvp (Nk K)) (Nk K)
def QKv:Qb:=a7 1 (QN1 K)
def yS(p:Qk)(x1:Int):Prop:=Loop yR 0 QCT Qz0 (QKv K) ⟨[(91,(bg Qe p.2.1)),(92,(aL ((p.2.1).length:Int))),(93,(aL x1))],[],0⟩
@[irreducible] def yT(p:Qk)(s:Int)(x:Bool):Prop:=aO yR 0 QA5 (Nk K) ⟨[(2,(.p 0 0 0)),(31,(aL ((Ql p s).1))),(84,(bE x))],[(0,(.box (aS.cells QM p)))],1⟩
theorem QqO(p:Qk)(x1:Int) (h :
 (aJ (decide (x1<((p.2.1).length:Int))) ((0<=x1/\Int.toNat x1<(p.2.1).length)/\(aJ (decide (((ar Qz p.2.1 (Int.toNat x1)).1)<(aG ((((ar Qz p.2.1 (Int.toNat x1)).2.1).length:Int)-1)))) (K (YB false)) (yS K p (aG (x1+1))))) (K (YB true)))):yS K p x1 :=
 Loop.of h
theorem QXW(p:Qk)(s:Int)(x:Bool) (h :
 (aJ x (K (YB true)) (aJ (((Ql p s).1)==8) (yS K p 0) (K (YB false))))):dt (yT K p s x) :=
 dt.of h
theorem QFR(p:Qk)(s:Int):aK Tryz.prog 92 [(.a (aS.cells QM p)),(.c TI s)] (YB (ZJ p s)):=by
 refine bz yR QN7 Qz5 0 0 105 Nj (kc QPG (kc QAc (kc QGR kn))) (λK =>
 (aJ (((!(Zk p))||(decide (s<0)))||(decide (s>=((p.2.1).length:Int)))) (K (YB false)) (aJ (((Ql p s).1)==1) (((decide (s>0))=true->(0<=aG (s-1)/\Int.toNat (aG (s-1))<(p.2.2.1).length))/\K (YB ((decide (s>0))&&(decide ((((ar Qx p.2.2.1 (Int.toNat (aG (s-1)))).2).length:Int)>0))))) (aJ (((Ql p s).1)==3) (((decide (s<(aG (((p.2.1).length:Int)-1))))=true->(0<=s/\Int.toNat s<(p.2.2.1).length))/\K (YB ((decide (s<(aG (((p.2.1).length:Int)-1))))&&(oT (ar Qx p.2.2.1 (Int.toNat s)))))) (aJ (((Ql p s).1)==4) (((decide (s<(aG (((p.2.1).length:Int)-1))))=true->(0<=s/\Int.toNat s<(p.2.2.2).length))/\K (YB ((decide (s<(aG (((p.2.1).length:Int)-1))))&&(decide ((((ar Qx p.2.2.2 (Int.toNat s)).2).length:Int)>0))))) (aJ (((Ql p s).1)==7) (((decide (s>0))=true->(0<=aG (s-1)/\Int.toNat (aG (s-1))<(p.2.2.2).length))/\K (YB ((decide (s>0))&&(oT (ar Qx p.2.2.2 (Int.toNat (aG (s-1)))))))) (aJ (((Ql p s).1)==2) (yT K p s (((Ql p s).1)==2)) (aJ (((Ql p s).1)==5) (yT K p s (((Ql p s).1)==5)) (yT K p s (((Ql p s).1)==6)))))))))) (λhb=>?_)
 have f0:(p.1).length<=9223372036854775807:=hb.1.1.1;have fA:(p.2.1).length<=9223372036854775807:=hb.1.2.1.1;have gW:(p.2.2.1).length<=9223372036854775807:=hb.1.2.2.1.1;have gX:(p.2.2.2).length<=9223372036854775807:=hb.1.2.2.2.1.1;by_cases h0:(Zk p&&bj s 0 (p.2.1.length-1))=true;rotate_left
 ·refine⟨λh=>au (by grind[ZJ]),λh=>by grind[bj]⟩
 have yQ:=h0;simp only[Bool.and_eq_true,Za]at yQ;have fg:=yQ.1;simp only[Zk,Bool.and_eq_true,Za,beq_iff_eq]at fg;have e1:aG ((p.2.1.length:Int)-1)=p.2.1.length-1:=QG (by omega) (by omega);have e2:aG (s-1)=s-1:=QG (by omega) (by omega);rw[e1,e2];have e4:Int.toNat (s-1)=s.toNat-1:=by omega
 rw[e4];have hM:(ZJ p s)=Ji p s (Ql p s).1:=by unfold ZJ;rw[h0,Bool.true_and]
 have ej:Ji p s (Ql p s).1=oU p->yS (λr'=>r'=YB (ZJ p s)) p ((0:Nat):Int):=by
  intro hm;refine Zf p.2.1 (λr k=>r.all Y4=p.2.1.all Y4->yS (λr'=>r'=YB (ZJ p s)) p k) ?_ ?_ rfl
  ·intro he;refine QqO (λr'=>r'=YB (ZJ p s)) p _ ⟨λh=>by simp at h,λ_=>au ?_⟩;rw[hM,hm];exact he
  ·intro k x r hk aW hg ih he;have dE:x∈p.2.1:=List.mem_of_mem_drop (i:=k) (by rw[hk];exact List.mem_cons_self);have jT:x.2.1.length<=9223372036854775807:=(hb.1.2.1.2 x dE).2.1.1;refine QqO (λr'=>r'=YB (ZJ p s)) p _ ⟨λ_=>?_,λh=>by simp at h;omega⟩;rw[Int.toNat_natCast,hg,QG (x:=(k:Int)+1) (by omega) (by omega),QG (x:=(x.2.1.length:Int)-1) (by omega) (by omega)];rw[List.all_cons]at he;refine⟨⟨by omega,aW⟩,λh=>au ?_,λh=>ih ?_⟩
   ·have:Y4 x=false:=by simp at h;simp[Y4];omega
    rw[this]at he;rw[hM,hm];exact he
   ·have:Y4 x=true:=by simp at h;simp[Y4];omega
    rw[this,Bool.true_and]at he;exact he
 have k2:∀ b:Bool,(b=true->Ji p s (Ql p s).1=true)->(b=false->Ji p s (Ql p s).1=if(Ql p s).1=8 then oU p else false)->yT (λr'=>r'=YB (ZJ p s)) p s b:=by
  intro b iu fw;refine(QXW (λr'=>r'=YB (ZJ p s)) p s _ ⟨λh=>au ?_,λh=>⟨λh8=>ej ?_,λh8=>au ?_⟩⟩).h
  ·rw[hM,iu h]
  ·rw[fw h,if_pos (by simpa using h8)]
  ·rw[hM,fw h,if_neg (by simpa using h8)]
 clear ej;generalize(Ql p s).1=kd at *;refine⟨λh=>by grind[bj],λ_=>⟨λh1=>⟨λh=>by simp at h;omega,au ?_⟩,λh1=>⟨λh2=>⟨λh=>by simp at h;omega,au ?_⟩,λh2=>⟨λh3=>⟨λh=>by simp at h;omega,au ?_⟩,λh3=>⟨λh4=>⟨λh=>by simp at h;omega,au ?_⟩,λh4=>⟨λh5=>k2 _ ?_ ?_,λh5=>⟨λh6=>k2 _ ?_ ?_,λh6=>k2 _ ?_ ?_⟩⟩⟩⟩⟩⟩⟩
 all_goals (try rw[hM]);simp only[Ji,oT]at *;grind
theorem QXg:Qf Tryz.prog Nj:=Qi λx _=>QFR x.1 x.2.1
end
end Go.Proofs.YtdplaepmjogjjaaGreat.Am

namespace Go.Proofs.YtdplaepmjogjjaaGreat.Am
open Go Go.RowKit Go.Proofs.YtdplaepmjogjjaaGreat
set_option linter.all false
set_option maxHeartbeats 2000000
noncomputable section
variable (K:aB->Prop)
def JU(t:Qk):aB:=⟨(.a [(.r QF 0 0 ((t.1).length)),(.r Qe 1 0 ((t.2.1).length)),(.r Qh 2 0 ((t.2.2.1).length)),(.r Qh 3 0 ((t.2.2.2).length))]),[(.sl 154 QF (.dp 0 true []) t.1),(.sl 39 Qe (.dp 0 true []) t.2.1),(.sl 161 Qh (.dp 0 true []) t.2.2.1),(.sl 161 Qh (.dp 0 true []) t.2.2.2)],[],false,[]⟩
def C4:aI:=Qg 147 [(.a QM)] λx=>(some (Qs (α:=Qk) x.1),JU (id (α:=Qk) x.1))
def sB:aF:=⟨[Ky,uD,yH],true⟩
def Qwj:af :=
 (ag [(.ae [aw 18 .lss 17 16]),(.cond 18 .skip (.exit 0)),(.block 1 (ag [(.ae [a0 19 15 17 Qe,a8 20 19 14,aC 5 (.new 39 (bG Qe)),aU 5 20 14]),(.draw [ak 21 3 1,an 22 21 1,a8 23 5 14,aD 24 70 [23],aC 25 (.bW 39 Qe [24]),aC 26 (.app 22 25 39 Qe),ak 27 3 1,aU 27 26 1] [(0,3),(1,3),(0,4),(1,4)])])),(.ae [aw 28 .add 17 (aq 1),ab 17 28])])
def QuG:List (Nat × Md):=[(1,.b (dG 4)),(2,.b [.f,.f,.f,.f]),(3,.b [.f,.p 39,.p 161,.p 161]),(15,.one .d),(16,.one .d),(17,.one .d)]
def QE1:af :=
 (ag [(.ae [aw 33 .lss 32 31]),(.cond 33 .skip (.exit 2)),(.block 3 (ag [(.ae [a0 34 30 32 Qh,a8 35 34 2,aC 7 (.new 161 (bG Qh)),aU 7 35 2]),(.draw [ak 36 3 2,an 37 36 1,a8 38 7 2,aD 39 219 [38],aC 40 (.bW 161 Qh [39]),aC 41 (.app 37 40 161 Qh),ak 42 3 2,aU 42 41 1] [(0,3),(1,3),(0,4),(1,4)])])),(.ae [aw 43 .add 32 (aq 1),ab 32 43])])
def QtP:List (Nat × Md):=[(1,.b (dG 4)),(2,.b [.f,.f,.f,.f]),(3,.b [.f,.f,.f,.f]),(30,.one .d),(31,.one .d),(32,.one .d)]
def Qu9:af :=
 (ag [(.ae [aw 48 .lss 47 46]),(.cond 48 .skip (.exit 4)),(.block 5 (ag [(.ae [a0 49 45 47 Qh,a8 50 49 2,aC 9 (.new 161 (bG Qh)),aU 9 50 2]),(.draw [ak 51 3 3,an 52 51 1,a8 53 9 2,aD 54 219 [53],aC 55 (.bW 161 Qh [54]),aC 56 (.app 52 55 161 Qh),ak 57 3 3,aU 57 56 1] [(0,3),(1,3),(0,4),(1,4)])])),(.ae [aw 58 .add 47 (aq 1),ab 47 58])])
def QCG:List (Nat × Md):=[(2,.b [.f,.f,.f,.f]),(3,.b [.f,.f,.f,.f]),(45,.one .d),(46,.one .d),(47,.one .d)]
def QDv:af :=
 (ag [(.ae [a8 59 3 4,aU 2 59 4]),.ret])
def QsA:af :=
 (ag [(ag [(.ae [ak 44 1 3,an 45 44 1,ba 46 45,ab 47 (aq 0)]),(.block 4 (.loop QCG Qu9))]),QDv])
def Qtv:af :=
 (ag [(ag [(.ae [ak 29 1 2,an 30 29 1,ba 31 30,ab 32 (aq 0)]),(.block 2 (.loop QtP QE1))]),QsA])
def QJa:af :=
 (ag [(.ae [aC 1 (.box 56 0 4),aC 2 (.new 56 (bG QM))]),(.ae [ak 10 1 0,an 11 10 1,aD 12 126 [11],aC 13 (.build (bG QM) [(0,1,12)]),aC 3 (.new 56 (bG QM)),aU 3 13 4]),(ag [(.ae [ak 14 1 1,an 15 14 1,ba 16 15,ab 17 (aq 0)]),(.block 0 (.loop QuG Qwj))]),Qtv])
def Qrw:List (bn × Md):=[(.l 2 4 true,.b [.p 154,.p 39,.p 161,.p 161])]
def uM:Qb:=TQ 0 0 Qrw K
def QML:Qb:=aY (aO sB 0 QDv (uM K)) (uM K)
def QGS:Qb:=a7 4 (QML K)
def yU(p:Qk)(x2:Int)(pq:List Qo)(pw:List Qc)(px:List Qd)(q3:List Qd):Prop:=Loop sB 0 QCG Qu9 (QGS K) ⟨[(2,(.p 0 0 0)),(3,(.p 5 0 0)),(45,(bg Qh p.2.2.2)),(46,(aL ((p.2.2.2).length:Int))),(47,(aL x2))],[(0,(.box [(.n QF),(.n Qe),(.n Qh),(.n Qh)])),(1,(.sl 154 QF (.dp 0 true []) pq)),(2,(.sl 39 Qe (.dp 0 true []) pw)),(3,(.sl 161 Qh (.dp 0 true []) px)),(4,(.sl 161 Qh (.dp 0 true []) q3)),(5,(.box [(.r QF 1 0 pq.length),(.r Qe 2 0 pw.length),(.r Qh 3 0 px.length),(.r Qh 4 0 q3.length)]))],6⟩
def QRF:Qb:=aY (aO sB 0 QsA (uM K)) (uM K)
def QHL:Qb:=a7 2 (QRF K)
def yV(p:Qk)(x1:Int)(py:List Qo)(pz:List Qc)(q2:List Qd):Prop:=Loop sB 0 QtP QE1 (QHL K) ⟨[(1,(.p 0 0 0)),(2,(.p 1 0 0)),(3,(.p 6 0 0)),(30,(bg Qh p.2.2.1)),(31,(aL ((p.2.2.1).length:Int))),(32,(aL x1))],[(0,(.box (aS.cells QM p))),(1,(.box [(.n QF),(.n Qe),(.n Qh),(.n Qh)])),(2,(.sl 154 QF (.dp 0 true []) py)),(3,(.sl 39 Qe (.dp 0 true []) pz)),(4,(.sl 161 Qh (.dp 0 true []) q2)),(5,(.sl 161 Qh (.dp 0 true []) ([]:List Qd))),(6,(.box [(.r QF 2 0 py.length),(.r Qe 3 0 pz.length),(.r Qh 4 0 q2.length),(.r Qh 5 0 0)]))],7⟩
def QOk:Qb:=aY (aO sB 0 Qtv (uM K)) (uM K)
def QKt:Qb:=a7 0 (QOk K)
def C5(p:Qk)(x:Int)(q0:List Qo)(q1:List Qc):Prop:=Loop sB 0 QuG Qwj (QKt K) ⟨[(1,(.p 0 0 0)),(2,(.p 1 0 0)),(3,(.p 6 0 0)),(15,(bg Qe p.2.1)),(16,(aL ((p.2.1).length:Int))),(17,(aL x))],[(0,(.box (aS.cells QM p))),(1,(.box [(.n QF),(.n Qe),(.n Qh),(.n Qh)])),(2,(.sl 154 QF (.dp 0 true []) q0)),(3,(.sl 39 Qe (.dp 0 true []) q1)),(4,(.sl 161 Qh (.dp 0 true []) ([]:List Qd))),(5,(.sl 161 Qh (.dp 0 true []) ([]:List Qd))),(6,(.box [(.r QF 2 0 q0.length),(.r Qe 3 0 q1.length),(.r Qh 4 0 0),(.r Qh 5 0 0)]))],7⟩
theorem QD0(p:Qk)(x2:Int)(pq:List Qo)(pw:List Qc)(px:List Qd)(q3:List Qd) (h :
 (aJ (decide (x2<((p.2.2.2).length:Int))) ((0<=x2/\Int.toNat x2<(p.2.2.2).length)/\(((Qs (α:=Qd) (ar Qx p.2.2.2 (Int.toNat x2)))/\((q3.length=q3.length\/q3.length+1<=q3.length)/\q3.length+1<=ca))/\(yU K p (aG (x2+1)) (List.take pq.length pq) (List.take pw.length pw) (List.take px.length px) (List.take (q3.length+1) ((List.take q3.length q3)++([((id (α:=Qd) (ar Qx p.2.2.2 (Int.toNat x2))).1,(List.take (((id (α:=Qd) (ar Qx p.2.2.2 (Int.toNat x2))).2).length) (List.drop 0 ((id (α:=Qd) (ar Qx p.2.2.2 (Int.toNat x2))).2))))])))))) (K (JU ((List.take pq.length pq),(List.take pw.length pw),(List.take px.length px),(List.take q3.length q3)))))):yU K p x2 pq pw px q3 :=
 Loop.of h
theorem QEj(p:Qk)(x1:Int)(py:List Qo)(pz:List Qc)(q2:List Qd) (h :
 (aJ (decide (x1<((p.2.2.1).length:Int))) ((0<=x1/\Int.toNat x1<(p.2.2.1).length)/\(((Qs (α:=Qd) (ar Qx p.2.2.1 (Int.toNat x1)))/\((q2.length=q2.length\/q2.length+1<=q2.length)/\q2.length+1<=ca))/\(yV K p (aG (x1+1)) (List.take py.length py) (List.take pz.length pz) (List.take (q2.length+1) ((List.take q2.length q2)++([((id (α:=Qd) (ar Qx p.2.2.1 (Int.toNat x1))).1,(List.take (((id (α:=Qd) (ar Qx p.2.2.1 (Int.toNat x1))).2).length) (List.drop 0 ((id (α:=Qd) (ar Qx p.2.2.1 (Int.toNat x1))).2))))])))))) (yU K p 0 (List.take py.length py) (List.take pz.length pz) (List.take q2.length q2) ([]:List Qd)))):yV K p x1 py pz q2 :=
 Loop.of h
theorem QA7(p:Qk)(x:Int)(q0:List Qo)(q1:List Qc) (h :
 let z1:=id (α:=Qc) (ar Qz p.2.1 (Int.toNat x))
 (aJ (decide (x<((p.2.1).length:Int))) ((0<=x/\Int.toNat x<(p.2.1).length)/\(((Qs (α:=Qc) (ar Qz p.2.1 (Int.toNat x)))/\((q1.length=q1.length\/q1.length+1<=q1.length)/\q1.length+1<=ca))/\(C5 K p (aG (x+1)) (List.take q0.length q0) (List.take (q1.length+1) ((List.take q1.length q1)++([(z1.1,(List.take ((z1.2.1).length) (List.drop 0 (z1.2.1))),(List.take ((z1.2.2.1).length) (List.drop 0 (z1.2.2.1))),z1.2.2.2.1,z1.2.2.2.2.1,(List.take ((z1.2.2.2.2.2.1).length) (List.drop 0 (z1.2.2.2.2.2.1))),(List.take ((z1.2.2.2.2.2.2.1).length) (List.drop 0 (z1.2.2.2.2.2.2.1))),(List.take ((z1.2.2.2.2.2.2.2.1).length) (List.drop 0 (z1.2.2.2.2.2.2.2.1))),(List.take ((z1.2.2.2.2.2.2.2.2.1).length) (List.drop 0 (z1.2.2.2.2.2.2.2.2.1))),(List.take ((z1.2.2.2.2.2.2.2.2.2.1).length) (List.drop 0 (z1.2.2.2.2.2.2.2.2.2.1))),(List.take ((z1.2.2.2.2.2.2.2.2.2.2.1).length) (List.drop 0 (z1.2.2.2.2.2.2.2.2.2.2.1))),(List.take ((z1.2.2.2.2.2.2.2.2.2.2.2.1).length) (List.drop 0 (z1.2.2.2.2.2.2.2.2.2.2.2.1))),z1.2.2.2.2.2.2.2.2.2.2.2.2.1,z1.2.2.2.2.2.2.2.2.2.2.2.2.2)])))))) (yV K p 0 (List.take q0.length q0) (List.take q1.length q1) ([]:List Qd)))):C5 K p x q0 q1 :=
 Loop.of h
theorem QPy(p:Qk)(hp:Qs (α:=Qk) p):aK Tryz.prog 147 [(.a (aS.cells QM p))] (JU (id (α:=Qk) p)):=by
 refine bz sB QJa Qrw 0 0 60 C4 (kc QWA (kc CB (kc MV kn))) (λK =>
 ((Qs (α:=List Qo) p.1)/\(C5 K p 0 (List.take ((id (α:=List Qo) p.1).length) (id (α:=List Qo) p.1)) ([]:List Qc)))) (λhb=>?_)
 have ij:Sz.sz p<=2147483648:=hp;have hs:Sz.sz p=Sz.sz p.1+Sz.sz p.2.1+Sz.sz p.2.2.1+Sz.sz p.2.2.2:=uz p;have k6:yU (λr'=>r'=JU (id (α:=Qk) p)) p 0 p.1 p.2.1 p.2.2.1 ([]):=by
  refine YC (l:=p.2.2.2) (A:=λi v=>yU (λr'=>r'=JU (id (α:=Qk) p)) p i p.1 p.2.1 p.2.2.1 v) (Q:=λz=>JU (p.1,p.2.1,p.2.2.1,z)=JU (id (α:=Qk) p)) (by omega) (λk x v hk hl hg hv hx ih=>?_) (λhq=>?_) (au rfl)
  ·refine QD0 _ _ _ _ _ _ _ ⟨λ_=>?_,λh=>by simp at h;omega⟩;rw[Int.toNat_natCast,hg,dL (by omega),Q8];simp only[id,List.drop_zero,List.take_length];exact⟨⟨by omega,hk⟩,⟨by unfold Qs;omega,(by first | exact room (by omega) | (simp[Ze];omega))⟩,ih⟩
  ·refine QD0 _ _ _ _ _ _ _ ⟨λh=>by simp at h,λ_=>?_⟩;simp only[id,List.drop_zero,List.take_length]
   first | done | exact hq | trivial
 have k4:yV (λr'=>r'=JU (id (α:=Qk) p)) p 0 p.1 p.2.1 ([]):=by
  refine YC (l:=p.2.2.1) (A:=λi v=>yV (λr'=>r'=JU (id (α:=Qk) p)) p i p.1 p.2.1 v) (Q:=λz=>z=p.2.2.1) (by omega) (λk x v hk hl hg hv hx ih=>?_) (λhq=>?_) rfl
  ·refine QEj _ _ _ _ _ _ ⟨λ_=>?_,λh=>by simp at h;omega⟩;rw[Int.toNat_natCast,hg,dL (by omega),Q8];simp only[id,List.drop_zero,List.take_length];exact⟨⟨by omega,hk⟩,⟨by unfold Qs;omega,(by first | exact room (by omega) | (simp[Ze];omega))⟩,ih⟩
  ·refine QEj _ _ _ _ _ _ ⟨λh=>by simp at h,λ_=>?_⟩;simp only[id,List.drop_zero,List.take_length];exact k6
 refine⟨by unfold Qs;omega,?_⟩;simp only[id,List.take_length];refine YC (l:=p.2.1) (A:=λi v=>C5 (λr'=>r'=JU (id (α:=Qk) p)) p i p.1 v) (Q:=λz=>z=p.2.1) (by omega) (λk x v hk hl hg hv hx ih=>?_) (λhq=>?_) rfl
 ·refine QA7 _ _ _ _ _ ⟨λ_=>?_,λh=>by simp at h;omega⟩;rw[Int.toNat_natCast,hg,dL (by omega),Q8];simp only[id,List.drop_zero,List.take_length];exact⟨⟨by omega,hk⟩,⟨by unfold Qs;omega,(by first | exact room (by omega) | (simp[Ze];omega))⟩,ih⟩
 ·refine QA7 _ _ _ _ _ ⟨λh=>by simp at h,λ_=>?_⟩;simp only[id,List.drop_zero,List.take_length];exact k4
theorem Qtu:Qf Tryz.prog C4:=Qi λx h=>QPy x.1 h
def Jv(t:Qk):aB:=⟨(.a [(bg QF t.1),(.r Qe 0 0 ((t.2.1).length)),(.r Qh 1 0 ((t.2.2.1).length)),(.r Qh 2 0 ((t.2.2.2).length))]),[(.sl 39 Qe .ow t.2.1),(.sl 161 Qh .ow t.2.2.1),(.sl 161 Qh .ow t.2.2.2)],[],true,[]⟩
def C6:aI:=Qg 143 [(.a QM)] λx=>(some (Qs (α:=Qk) x.1),Jv (id (α:=Qk) x.1))
def JZ:aF:=⟨[uF,yJ],false⟩
def QzW:af :=
 (ag [(ag [(.ae [ab 9 4,ak 10 1 0,an 11 10 1,ba 12 11,aw 13 .lss 9 12]),(.cond 13 .skip (.exit 0))]),(.block 1 (.draw [ak 16 3 0,an 17 16 1,aC 18 (.bW 3 [TI] []),ak 19 1 0,an 20 19 1,ab 21 4,a0 22 20 21 QF,ak 23 22 0,an 24 23 1,aC 25 (.app 18 24 3 [TI]),aC 26 (.bW 3 [TI] []),ak 27 1 0,an 28 27 1,ab 29 4,a0 30 28 29 QF,ak 31 30 1,an 32 31 1,aC 33 (.app 26 32 3 [TI]),aC 34 (.build (bG QF) [(0,1,25),(1,1,33)]),aC 35 (.bW 154 QF [34]),aC 36 (.app 17 35 154 QF),ak 37 3 0,aU 37 36 1] [(0,2),(1,2),(2,3),(2,4),(2,6),(2,7),(2,8),(0,9),(1,9),(0,10),(1,10),(2,10),(3,10),(4,10),(6,10),(7,10),(8,10),(9,10),(2,11),(9,11),(10,11),(2,12),(9,12),(10,12),(2,14),(9,14),(10,14),(2,15),(9,15),(10,15),(2,16),(9,16),(10,16),(0,17),(1,17),(0,19),(1,19)])),(.ae [ab 14 4,aw 15 .add 14 (aq 1),ab 4 15])])
def QAH:List (Nat × Md):=[(1,.b (dG 4)),(2,.b (dG 4)),(3,.b [.o 154,.o 39,.o 161,.o 161]),(4,.one .d)]
def QzL:af :=
 (ag [(ag [(.ae [ab 38 5,ak 39 1 1,an 40 39 1,ba 41 40,aw 42 .lss 38 41]),(.cond 42 .skip (.exit 2))]),(.block 3 (.draw [ak 45 3 1,an 46 45 1,ak 47 1 1,an 48 47 1,ab 49 5,a0 50 48 49 Qe,a8 51 50 14,aD 52 61 [51],aC 53 (.bW 39 Qe [52]),aC 54 (.app 46 53 39 Qe),ak 55 3 1,aU 55 54 1] [(0,7),(1,7),(0,8),(1,8)])),(.ae [ab 43 5,aw 44 .add 43 (aq 1),ab 5 44])])
def Qss:List (Nat × Md):=[(1,.b (dG 4)),(2,.b (dG 4)),(3,.b [.f,.f,.f,.f]),(5,.one .d)]
def Qzo:af :=
 (ag [(ag [(.ae [ab 56 6,ak 57 1 2,an 58 57 1,ba 59 58,aw 60 .lss 56 59]),(.cond 60 .skip (.exit 4))]),(.block 5 (.draw [ak 63 3 2,an 64 63 1,ak 65 1 2,an 66 65 1,ab 67 6,a0 68 66 67 Qh,a8 69 68 2,aD 70 217 [69],aC 71 (.bW 161 Qh [70]),aC 72 (.app 64 71 161 Qh),ak 73 3 2,aU 73 72 1] [(0,7),(1,7),(0,8),(1,8)])),(.ae [ab 61 6,aw 62 .add 61 (aq 1),ab 6 62])])
def QzS:List (Nat × Md):=[(1,.b (dG 4)),(2,.b (dG 4)),(3,.b [.f,.f,.f,.f]),(6,.one .d)]
def QxM:af :=
 (ag [(ag [(.ae [ab 74 7,ak 75 1 3,an 76 75 1,ba 77 76,aw 78 .lss 74 77]),(.cond 78 .skip (.exit 6))]),(.block 7 (.draw [ak 81 3 3,an 82 81 1,ak 83 1 3,an 84 83 1,ab 85 7,a0 86 84 85 Qh,a8 87 86 2,aD 88 217 [87],aC 89 (.bW 161 Qh [88]),aC 90 (.app 82 89 161 Qh),ak 91 3 3,aU 91 90 1] [(0,7),(1,7),(0,8),(1,8)])),(.ae [ab 79 7,aw 80 .add 79 (aq 1),ab 7 80])])
def QyF:List (Nat × Md):=[(1,.b (dG 4)),(2,.b (dG 4)),(3,.b [.f,.f,.f,.f]),(7,.one .d)]
def QrC:af :=
 (ag [(.ae [a8 92 3 4,aU 2 92 4]),.ret])
def Qrb:af :=
 (ag [(ag [(.ae [ab 7 (aq 0)]),(.block 6 (.loop QyF QxM))]),QrC])
def Qwx:af :=
 (ag [(ag [(.ae [ab 6 (aq 0)]),(.block 4 (.loop QzS Qzo))]),Qrb])
def QvT:af :=
 (ag [(ag [(.ae [ab 5 (aq 0)]),(.block 2 (.loop Qss QzL))]),Qwx])
def QVw:af :=
 (ag [(.ae [aC 1 (.box 56 0 4),aC 2 (.new 56 (bG QM))]),(.ae [aC 8 (.build (bG QM) []),aC 3 (.new 56 (bG QM)),aU 3 8 4]),(ag [(.ae [ab 4 (aq 0)]),(.block 0 (.loop QAH QzW))]),QvT])
def Qx8:List (bn × Md):=[(.l 2 4 true,.b [.d,.o 39,.o 161,.o 161])]
def pA:Qb:=TQ 0 0 Qx8 K
def QXH:Qb:=aY (aO JZ 0 QrC (pA K)) (pA K)
def QKf:Qb:=a7 6 (QXH K)
def yW(p:Qk)(i3:Int)(pB:List Qo)(pC:List Qc)(pD:List Qd)(x3:List Qd):Prop:=Loop JZ 0 QyF QxM (QKf K) ⟨[(1,(.p 0 0 0)),(2,(.p 1 0 0)),(3,(.p 6 0 0)),(7,(aL i3))],[(0,(.box (aS.cells QM p))),(1,(.box (aS.cells QM ([],[],[],[])))),(2,(.sl 154 QF .ow pB)),(3,(.sl 39 Qe .ow pC)),(4,(.sl 161 Qh .ow pD)),(5,(.sl 161 Qh .ow x3)),(6,(.box [(.r QF 2 0 pB.length),(.r Qe 3 0 pC.length),(.r Qh 4 0 pD.length),(.r Qh 5 0 x3.length)]))],7⟩
def QWV:Qb:=aY (aO JZ 0 Qrb (pA K)) (pA K)
def QVC:Qb:=a7 4 (QWV K)
def yX(p:Qk)(i2:Int)(pE:List Qo)(pF:List Qc)(x2:List Qd):Prop:=Loop JZ 0 QzS Qzo (QVC K) ⟨[(1,(.p 0 0 0)),(2,(.p 1 0 0)),(3,(.p 6 0 0)),(6,(aL i2))],[(0,(.box (aS.cells QM p))),(1,(.box (aS.cells QM ([],[],[],[])))),(2,(.sl 154 QF .ow pE)),(3,(.sl 39 Qe .ow pF)),(4,(.sl 161 Qh .ow x2)),(5,(.sl 161 Qh .ow ([]:List Qd))),(6,(.box [(.r QF 2 0 pE.length),(.r Qe 3 0 pF.length),(.r Qh 4 0 x2.length),(.r Qh 5 0 0)]))],7⟩
def QHk:Qb:=aY (aO JZ 0 Qwx (pA K)) (pA K)
def QQw:Qb:=a7 2 (QHk K)
def yY(p:Qk)(i1:Int)(pG:List Qo)(x1:List Qc):Prop:=Loop JZ 0 Qss QzL (QQw K) ⟨[(1,(.p 0 0 0)),(2,(.p 1 0 0)),(3,(.p 6 0 0)),(5,(aL i1))],[(0,(.box (aS.cells QM p))),(1,(.box (aS.cells QM ([],[],[],[])))),(2,(.sl 154 QF .ow pG)),(3,(.sl 39 Qe .ow x1)),(4,(.sl 161 Qh .ow ([]:List Qd))),(5,(.sl 161 Qh .ow ([]:List Qd))),(6,(.box [(.r QF 2 0 pG.length),(.r Qe 3 0 x1.length),(.r Qh 4 0 0),(.r Qh 5 0 0)]))],7⟩
def QNI:Qb:=aY (aO JZ 0 QvT (pA K)) (pA K)
def QNz:Qb:=a7 0 (QNI K)
def C7(p:Qk)(i:Int)(x0:List Qo):Prop:=Loop JZ 0 QAH QzW (QNz K) ⟨[(1,(.p 0 0 0)),(2,(.p 1 0 0)),(3,(.p 6 0 0)),(4,(aL i))],[(0,(.box (aS.cells QM p))),(1,(.box (aS.cells QM ([],[],[],[])))),(2,(.sl 154 QF .ow x0)),(3,(.sl 39 Qe .ow ([]:List Qc))),(4,(.sl 161 Qh .ow ([]:List Qd))),(5,(.sl 161 Qh .ow ([]:List Qd))),(6,(.box [(.r QF 2 0 x0.length),(.r Qe 3 0 0),(.r Qh 4 0 0),(.r Qh 5 0 0)]))],7⟩
theorem QBj(p:Qk)(i3:Int)(pB:List Qo)(pC:List Qc)(pD:List Qd)(x3:List Qd) (h :
 (aJ (decide (i3<((p.2.2.2).length:Int))) (((0<=i3/\Int.toNat i3<(p.2.2.2).length)/\((Qs (α:=Qd) (ar Qx p.2.2.2 (Int.toNat i3)))/\((x3.length=x3.length\/x3.length+1<=x3.length)/\x3.length+1<=ca)))/\(yW K p (aG (i3+1)) (List.take pB.length pB) (List.take pC.length pC) (List.take pD.length pD) (List.take (x3.length+1) ((List.take x3.length x3)++([((id (α:=Qd) (ar Qx p.2.2.2 (Int.toNat i3))).1,(List.take (((id (α:=Qd) (ar Qx p.2.2.2 (Int.toNat i3))).2).length) (List.drop 0 ((id (α:=Qd) (ar Qx p.2.2.2 (Int.toNat i3))).2))))]))))) (K (Jv ((List.take pB.length (List.drop 0 pB)),(List.take pC.length pC),(List.take pD.length pD),(List.take x3.length x3)))))):yW K p i3 pB pC pD x3 :=
 Loop.of h
theorem QBV(p:Qk)(i2:Int)(pE:List Qo)(pF:List Qc)(x2:List Qd) (h :
 (aJ (decide (i2<((p.2.2.1).length:Int))) (((0<=i2/\Int.toNat i2<(p.2.2.1).length)/\((Qs (α:=Qd) (ar Qx p.2.2.1 (Int.toNat i2)))/\((x2.length=x2.length\/x2.length+1<=x2.length)/\x2.length+1<=ca)))/\(yX K p (aG (i2+1)) (List.take pE.length pE) (List.take pF.length pF) (List.take (x2.length+1) ((List.take x2.length x2)++([((id (α:=Qd) (ar Qx p.2.2.1 (Int.toNat i2))).1,(List.take (((id (α:=Qd) (ar Qx p.2.2.1 (Int.toNat i2))).2).length) (List.drop 0 ((id (α:=Qd) (ar Qx p.2.2.1 (Int.toNat i2))).2))))]))))) (yW K p 0 (List.take pE.length pE) (List.take pF.length pF) (List.take x2.length x2) ([]:List Qd)))):yX K p i2 pE pF x2 :=
 Loop.of h
theorem Qr4(p:Qk)(i1:Int)(pG:List Qo)(x1:List Qc) (h :
 let z1:=id (α:=Qc) (ar Qz p.2.1 (Int.toNat i1))
 (aJ (decide (i1<((p.2.1).length:Int))) (((0<=i1/\Int.toNat i1<(p.2.1).length)/\((Qs (α:=Qc) (ar Qz p.2.1 (Int.toNat i1)))/\((x1.length=x1.length\/x1.length+1<=x1.length)/\x1.length+1<=ca)))/\(yY K p (aG (i1+1)) (List.take pG.length pG) (List.take (x1.length+1) ((List.take x1.length x1)++([(z1.1,z1.2.1,z1.2.2.1,z1.2.2.2.1,z1.2.2.2.2.1,(List.take ((z1.2.2.2.2.2.1).length) (List.drop 0 (z1.2.2.2.2.2.1))),z1.2.2.2.2.2.2.1,z1.2.2.2.2.2.2.2.1,z1.2.2.2.2.2.2.2.2.1,z1.2.2.2.2.2.2.2.2.2.1,z1.2.2.2.2.2.2.2.2.2.2.1,z1.2.2.2.2.2.2.2.2.2.2.2.1,z1.2.2.2.2.2.2.2.2.2.2.2.2.1,z1.2.2.2.2.2.2.2.2.2.2.2.2.2)]))))) (yX K p 0 (List.take pG.length pG) (List.take x1.length x1) ([]:List Qd)))):yY K p i1 pG x1 :=
 Loop.of h
theorem QwP(p:Qk)(i:Int)(x0:List Qo) (h :
 (aJ (decide (i<((p.1).length:Int))) (((0<=i/\Int.toNat i<(p.1).length)/\(((0=0\/0+((ar QV p.1 (Int.toNat i)).1).length<=0)/\0+((ar QV p.1 (Int.toNat i)).1).length<=ca)/\((0<=i/\Int.toNat i<(p.1).length)/\(((0=0\/0+((ar QV p.1 (Int.toNat i)).2).length<=0)/\0+((ar QV p.1 (Int.toNat i)).2).length<=ca)/\((x0.length=x0.length\/x0.length+1<=x0.length)/\x0.length+1<=ca)))))/\(C7 K p (aG (i+1)) (List.take (x0.length+1) ((List.take x0.length x0)++([((List.take (0+((ar QV p.1 (Int.toNat i)).1).length) (List.drop 0 ((ar QV p.1 (Int.toNat i)).1))),(List.take (0+((ar QV p.1 (Int.toNat i)).2).length) (List.drop 0 ((ar QV p.1 (Int.toNat i)).2))))]))))) (yY K p 0 (List.take x0.length x0) ([]:List Qc)))):C7 K p i x0 :=
 Loop.of h
theorem QRm(p:Qk)(hp:Qs (α:=Qk) p):aK Tryz.prog 143 [(.a (aS.cells QM p))] (Jv (id (α:=Qk) p)):=by
 refine bz JZ QVw Qx8 0 0 93 C6 (kc CD (kc MY kn)) (λK =>
 (C7 K p 0 ([]:List Qo))) (λhb=>?_)
 have ij:Sz.sz p<=2147483648:=hp;have hs:Sz.sz p=Sz.sz p.1+Sz.sz p.2.1+Sz.sz p.2.2.1+Sz.sz p.2.2.2:=uz p;have k8:yW (λr'=>r'=Jv (id (α:=Qk) p)) p 0 p.1 p.2.1 p.2.2.1 ([]):=by
  refine YC (l:=p.2.2.2) (A:=λi v=>yW (λr'=>r'=Jv (id (α:=Qk) p)) p i p.1 p.2.1 p.2.2.1 v) (Q:=λz=>Jv (p.1,p.2.1,p.2.2.1,z)=Jv (id (α:=Qk) p)) (by omega) (λk x v hk hl hg hv hx ih=>?_) (λhq=>?_) (au rfl)
  ·refine QBj _ _ _ _ _ _ _ ⟨λ_=>?_,λh=>by simp at h;omega⟩;rw[Int.toNat_natCast,hg,dL (by omega),Q8];simp only[id,List.drop_zero,List.take_length];exact⟨⟨⟨by omega,hk⟩,by unfold Qs;omega,(by first | exact room (by omega) | (simp[Ze];omega))⟩,ih⟩
  ·refine QBj _ _ _ _ _ _ _ ⟨λh=>by simp at h,λ_=>?_⟩;simp only[id,List.drop_zero,List.take_length]
   first | done | exact hq | trivial
 have k6:yX (λr'=>r'=Jv (id (α:=Qk) p)) p 0 p.1 p.2.1 ([]):=by
  refine YC (l:=p.2.2.1) (A:=λi v=>yX (λr'=>r'=Jv (id (α:=Qk) p)) p i p.1 p.2.1 v) (Q:=λz=>z=p.2.2.1) (by omega) (λk x v hk hl hg hv hx ih=>?_) (λhq=>?_) rfl
  ·refine QBV _ _ _ _ _ _ ⟨λ_=>?_,λh=>by simp at h;omega⟩;rw[Int.toNat_natCast,hg,dL (by omega),Q8];simp only[id,List.drop_zero,List.take_length];exact⟨⟨⟨by omega,hk⟩,by unfold Qs;omega,(by first | exact room (by omega) | (simp[Ze];omega))⟩,ih⟩
  ·refine QBV _ _ _ _ _ _ ⟨λh=>by simp at h,λ_=>?_⟩;simp only[id,List.drop_zero,List.take_length];exact k8
 have k4:yY (λr'=>r'=Jv (id (α:=Qk) p)) p 0 p.1 ([]):=by
  refine YC (l:=p.2.1) (A:=λi v=>yY (λr'=>r'=Jv (id (α:=Qk) p)) p i p.1 v) (Q:=λz=>z=p.2.1) (by omega) (λk x v hk hl hg hv hx ih=>?_) (λhq=>?_) rfl
  ·refine Qr4 _ _ _ _ _ ⟨λ_=>?_,λh=>by simp at h;omega⟩;rw[Int.toNat_natCast,hg,dL (by omega),Q8];simp only[id,List.drop_zero,List.take_length];exact⟨⟨⟨by omega,hk⟩,by unfold Qs;omega,(by first | exact room (by omega) | (simp[Ze];omega))⟩,ih⟩
  ·refine Qr4 _ _ _ _ _ ⟨λh=>by simp at h,λ_=>?_⟩;simp only[id,List.drop_zero,List.take_length];exact k6
 refine YC (l:=p.1) (A:=λi v=>C7 (λr'=>r'=Jv (id (α:=Qk) p)) p i v) (Q:=λz=>z=p.1) (by omega) (λk x v hk hl hg hv hx ih=>?_) (λhq=>?_) rfl
 ·refine QwP _ _ _ _ ⟨λ_=>?_,λh=>by simp at h;omega⟩;simp only[QR]at hx;have h1:=ZK x.1;have h2:=ZK x.2;rw[Int.toNat_natCast,hg,dL (by omega),Q8,tM,tM];exact⟨⟨⟨by omega,hk⟩,⟨.inl rfl,by rw[Ze];omega⟩,⟨by omega,hk⟩,⟨.inl rfl,by rw[Ze];omega⟩,(by first | exact room (by omega) | (simp[Ze];omega))⟩,ih⟩
 ·refine QwP _ _ _ _ ⟨λh=>by simp at h,λ_=>?_⟩;rw[List.take_length];exact k4
theorem QDj:Qf Tryz.prog C6:=Qi λx h=>QRm x.1 h
def Jc(t:Qk):aB:=⟨(.a [(.r QF 0 0 ((t.1).length)),(.r Qe 1 0 ((t.2.1).length)),(.r Qh 2 0 ((t.2.2.1).length)),(.r Qh 3 0 ((t.2.2.2).length))]),[(.sl 154 QF (.dp 0 true []) t.1),(.sl 39 Qe (.dp 0 true []) t.2.1),(.sl 161 Qh (.dp 0 true []) t.2.2.1),(.sl 161 Qh (.dp 0 true []) t.2.2.2)],[],false,[]⟩
def Nl:aI:=Qg 50 [(.a QM),(.c TI)] λx=>(some (pj x.1 x.2.1),Jc (ZM x.1 x.2.1))
def QXX:aF:=⟨[C4,Nj,C2,M3,MB,MZ,ME,MG],true⟩
def QVW:af :=
 (ag [(.ae [aC 2 (.box 56 0 4),aC 4 (.new 56 (bG QM))]),(.ae [a8 15 2 4,aD 16 147 [15],aC 5 (.new 56 (bG QM)),aU 5 16 4]),(ag [(.ae [a8 17 2 4,ab 18 1,aD 19 92 [17,18],bL 20 19]),(.cond 20 (ag [(.ae [a8 21 5 4,aU 4 21 4]),.ret]) .skip)]),(.ae [ak 22 5 1,an 23 22 1,ab 24 1,a0 25 23 24 Qe,a8 26 25 14,aC 6 (.new 39 (bG Qe)),aU 6 26 14]),(.ae [a8 27 2 4,ab 28 1,aD 29 148 [27,28],aC 7 (.new 175 (bG QP)),aU 7 29 2]),(ag [(.ae [ak 30 7 0,an 31 30 1]),(.block 0 (ag [(.ae [aw 33 .eql 31 (aq 1),ab 32 33]),(.cond 32 (ag [(.ae [ak 35 5 2,an 36 35 1,ab 37 1,aw 38 .sub 37 (aq 1),a0 39 36 38 Qh,a8 40 39 2,aD 41 149 [40],ab 34 41,bF 42 34 0,bF 43 34 1,bF 44 34 2,aC 8 (.new 161 (bG Qh)),aC 9 (.new 178 (bG Qu)),aU 8 42 2,aU 9 43 2,ab 10 44]),(.ae [ak 45 5 2,an 46 45 1,ab 47 1,aw 48 .sub 47 (aq 1),a8 49 8 2,a0 50 46 48 Qh,aU 50 49 2]),(.ae [ak 51 9 1,an 52 51 1,ak 53 6 7,aU 53 52 1])]) (ag [(.ae [aw 55 .eql 31 (aq 2),ab 54 55]),(.cond 54 (ag [(.ae [ak 56 6 7,an 57 56 1,ab 11 57]),(ag [(.ae [ab 58 1,aw 59 .eql 58 (aq 0)]),(.cond 59 (.ae [ak 60 5 0,an 61 60 1,ak 62 7 1,an 63 62 1,a0 64 61 63 QF,ak 65 64 0,an 66 65 1,ab 11 66]) .skip)]),(.draw [a8 67 6 14,ak 68 7 1,an 69 68 1,ab 70 11,ak 71 5 0,an 72 71 1,ak 73 7 1,an 74 73 1,a0 75 72 74 QF,ak 76 75 1,an 77 76 1,aD 78 30 [67,69,70,77],aU 6 78 14] [])]) (ag [(.ae [aw 80 .eql 31 (aq 3),ab 79 80]),(.cond 79 (ag [(.draw [ak 82 5 2,an 83 82 1,ab 84 1,ak 85 5 2,an 86 85 1,ab 87 1,a0 88 86 87 Qh,a8 89 88 2,ak 90 7 1,an 91 90 1,ak 92 6 8,an 93 92 1,aC 94 (.build (bG Qu) [(0,1,91),(1,1,93)]),aD 95 150 [89,94],ab 81 95,bF 96 81 0,bF 97 81 1,a0 98 83 84 Qh,aU 98 96 2] [(0,13),(1,13)]),(.ae [ak 99 6 8,aU 99 (.k (.n [TI])) 1])]) (ag [(.ae [aw 101 .eql 31 (aq 4),ab 100 101]),(.cond 100 (ag [(.ae [ak 103 5 3,an 104 103 1,ab 105 1,a0 106 104 105 Qh,a8 107 106 2,aD 108 149 [107],ab 102 108,bF 109 102 0,bF 110 102 1,bF 111 102 2,aC 12 (.new 161 (bG Qh)),aC 13 (.new 178 (bG Qu)),aU 12 109 2,aU 13 110 2,ab 14 111]),(.ae [ak 112 5 3,an 113 112 1,ab 114 1,a8 115 12 2,a0 116 113 114 Qh,aU 116 115 2]),(.ae [ak 117 13 1,an 118 117 1,ak 119 6 9,aU 119 118 1])]) (ag [(.ae [aw 121 .eql 31 (aq 5),ab 120 121]),(.cond 120 (.ae [a8 122 6 14,ak 123 7 1,an 124 123 1,aD 125 15 [122,124],aU 6 125 14]) (ag [(.ae [aw 127 .eql 31 (aq 6),ab 126 127]),(.cond 126 (ag [(.draw [a8 128 6 14,ak 129 7 1,an 130 129 1,ak 131 5 0,an 132 131 1,ak 133 7 1,an 134 133 1,a0 135 132 134 QF,ak 136 135 1,an 137 136 1,aD 138 32 [128,130,137],aU 6 138 14] []),(.ae [ab 139 1,aw 140 .eql 139 (aq 0)]),(.cond 140 (.ae [ak 141 6 10,aU 141 (.k (.n [TI])) 1]) .skip)]) (ag [(.ae [aw 143 .eql 31 (aq 7),ab 142 143]),(.cond 142 (ag [(.draw [ak 145 5 3,an 146 145 1,ab 147 1,aw 148 .sub 147 (aq 1),ak 149 5 3,an 150 149 1,ab 151 1,aw 152 .sub 151 (aq 1),a0 153 150 152 Qh,a8 154 153 2,ak 155 7 1,an 156 155 1,ak 157 6 10,an 158 157 1,aC 159 (.build (bG Qu) [(0,1,156),(1,1,158)]),aD 160 150 [154,159],ab 144 160,bF 161 144 0,bF 162 144 1,a0 163 146 148 Qh,aU 163 161 2] [(0,15),(1,15)]),(.ae [ak 164 6 10,aU 164 (.k (.n [TI])) 1])]) .skip)]))]))]))]))]))]))]))]),(.ae [ak 165 6 0,an 166 165 1,aw 167 .add 166 (aq 1),ak 168 6 0,aU 168 167 1]),(.ae [ak 169 5 1,an 170 169 1,ab 171 1,a8 172 6 14,a0 173 170 171 Qe,aU 173 172 14]),(.ae [a8 174 5 4,aU 4 174 4]),.ret])
def QVQ:List (bn × Md):=[(.l 4 4 true,.b [.p 154,.p 39,.p 161,.p 161])]
theorem QOf(p:Qk)(s:Int)(hp:pj p s):aK Tryz.prog 50 [(.a (aS.cells QM p)),(.c TI s)] (Jc (ZM p s)):=by
 refine bz QXX QVW QVQ 0 0 175 Nl (kc Qtu (kc QXg (kc QAc (kc QSB (kc QHp (kc QXI (kc QRS (kc QUY kn)))))))) (λK =>
 let z3:=id (α:=Qk) p
 let z1:=ar Qz (z3.2.1) (0+(Int.toNat s))
 let z7:=Yl z1 ((Ql p s).2)
 let z9:=List.take ((z3.2.2.1).length) (z3.2.2.1)
 let eX:=List.take ((z3.2.2.2).length) (z3.2.2.2)
 let eW:=List.take ((z3.1).length) (z3.1)
 let dQ:=ar Qx (z3.2.2.2) (0+(Int.toNat s))
 let gV:=Int.toNat ((Ql p s).2)
 let z2:=ar QV (z3.1) (0+gV)
 let z4:=ZC z1 ((Ql p s).2) (z2.2)
 let z5:=ZV z1 ((Ql p s).2) (z1.2.2.2.2.2.2.2.1) (z2.2)
 let z6:=ZV z1 ((Ql p s).2) (z2.1) (z2.2)
 let mw:=List.take ((z4.2.2.2.2.2.2.2.2.2.2.2.1).length) (List.drop 0 (z4.2.2.2.2.2.2.2.2.2.2.2.1))
 let my:=List.take ((z4.2.2.2.2.2.2.2.2.2.1).length) (List.drop 0 (z4.2.2.2.2.2.2.2.2.2.1))
 let mz:=List.take ((z4.2.2.2.2.2.2.2.2.1).length) (List.drop 0 (z4.2.2.2.2.2.2.2.2.1))
 let mA:=List.take ((z4.2.2.2.2.2.2.2.1).length) (List.drop 0 (z4.2.2.2.2.2.2.2.1))
 let kR:=aG (s-1)
 let z8:=Int.toNat kR
 let gy:=Z6 (ar Qx (z3.2.2.2) (0+z8)) ((Ql p s).2,z1.2.2.2.2.2.2.2.2.2.2.1)
 let gU:=Zg (ar Qx (z3.2.2.1) (0+z8))
 let ka:=List.take ((z4.2.2.2.2.2.2.1).length) (List.drop 0 (z4.2.2.2.2.2.2.1))
 let kb:=List.take ((z4.2.2.2.2.2.1).length) (List.drop 0 (z4.2.2.2.2.2.1))
 let mB:=List.take ((z4.2.2.1).length) (List.drop 0 (z4.2.2.1))
 let mC:=List.take ((z4.2.1).length) (List.drop 0 (z4.2.1))
 let sw:=ar Qx (z3.2.2.1) (0+(Int.toNat s))
 let gx:=Z6 sw ((Ql p s).2,z1.2.2.2.2.2.2.2.2.1)
 ((Qs (α:=Qk) p)/\(aJ (!(ZJ p s)) (K (Jc (eW,(List.take ((z3.2.1).length) (z3.2.1)),z9,eX))) (((0<=s/\Int.toNat s<(z3.2.1).length)/\((0+(Int.toNat s))<(z3.2.1).length))/\(aJ (((Ql p s).1)==1) (((0<=aG (s-1)/\Int.toNat kR<(z3.2.2.1).length)/\(((0+z8)<(z3.2.2.1).length)/\(Qs (α:=Qd) (ar Qx (z3.2.2.1) (0+z8)))))/\(((0<=aG (s-1)/\Int.toNat kR<(z3.2.2.1).length)/\((0+z8)<(z3.2.2.1).length))/\(((0<=s/\Int.toNat s<(z3.2.1).length)/\(((0+(Int.toNat s))<(z3.2.1).length)/\(((0+(Int.toNat s))=(0+(Int.toNat s)))/\(((0+(Int.toNat s))=(0+(Int.toNat s)))/\(((0+(Int.toNat s))=(0+(Int.toNat s)))/\(((0+(Int.toNat s))=(0+(Int.toNat s)))/\(((0+(Int.toNat s))=(0+(Int.toNat s)))/\(((0+(Int.toNat s))=(0+(Int.toNat s)))/\(((0+(Int.toNat s))=(0+(Int.toNat s)))/\((0+(Int.toNat s))=(0+(Int.toNat s))))))))))))/\K (Jc (eW,(List.take ((z3.2.1).length) ((z3.2.1).set (0+(Int.toNat s)) (aG ((z1.1)+1),z1.2.1,z1.2.2.1,z1.2.2.2.1,z1.2.2.2.2.1,z1.2.2.2.2.2.1,z1.2.2.2.2.2.2.1,(List.take (((gU.2.1).2).length) (List.drop 0 ((gU.2.1).2))),z1.2.2.2.2.2.2.2.2.1,z1.2.2.2.2.2.2.2.2.2.1,z1.2.2.2.2.2.2.2.2.2.2.1,z1.2.2.2.2.2.2.2.2.2.2.2.1,z1.2.2.2.2.2.2.2.2.2.2.2.2.1,z1.2.2.2.2.2.2.2.2.2.2.2.2.2))),(List.take ((z3.2.2.1).length) ((z3.2.2.1).set (0+z8) ((gU.1).1,(List.take (((gU.1).2).length) (List.drop 0 ((gU.1).2)))))),eX))))) (aJ (((Ql p s).1)==2) (aJ (s==0) ((((0:Int)<=(Ql p s).2/\Int.toNat ((Ql p s).2)<(z3.1).length)/\((0+gV)<(z3.1).length))/\((((0:Int)<=(Ql p s).2/\Int.toNat ((Ql p s).2)<(z3.1).length)/\(((0+gV)<(z3.1).length)/\(JM z1 ((Ql p s).2) (z2.1) (z2.2))))/\(((0<=s/\Int.toNat s<(z3.2.1).length)/\((0+(Int.toNat s))<(z3.2.1).length))/\K (Jc (eW,(List.take ((z3.2.1).length) ((z3.2.1).set (0+(Int.toNat s)) (aG ((z6.1)+1),(List.take ((z6.2.1).length) (List.drop 0 (z6.2.1))),(List.take ((z6.2.2.1).length) (List.drop 0 (z6.2.2.1))),z6.2.2.2.1,z6.2.2.2.2.1,(List.take ((z6.2.2.2.2.2.1).length) (List.drop 0 (z6.2.2.2.2.2.1))),(List.take ((z6.2.2.2.2.2.2.1).length) (List.drop 0 (z6.2.2.2.2.2.2.1))),(List.take ((z6.2.2.2.2.2.2.2.1).length) (List.drop 0 (z6.2.2.2.2.2.2.2.1))),(List.take ((z6.2.2.2.2.2.2.2.2.1).length) (List.drop 0 (z6.2.2.2.2.2.2.2.2.1))),(List.take ((z6.2.2.2.2.2.2.2.2.2.1).length) (List.drop 0 (z6.2.2.2.2.2.2.2.2.2.1))),(List.take ((z6.2.2.2.2.2.2.2.2.2.2.1).length) (List.drop 0 (z6.2.2.2.2.2.2.2.2.2.2.1))),(List.take ((z6.2.2.2.2.2.2.2.2.2.2.2.1).length) (List.drop 0 (z6.2.2.2.2.2.2.2.2.2.2.2.1))),z6.2.2.2.2.2.2.2.2.2.2.2.2.1,z6.2.2.2.2.2.2.2.2.2.2.2.2.2))),z9,eX))))) ((((0:Int)<=(Ql p s).2/\Int.toNat ((Ql p s).2)<(z3.1).length)/\(((0+gV)<(z3.1).length)/\(JM z1 ((Ql p s).2) (z1.2.2.2.2.2.2.2.1) (z2.2))))/\(((0<=s/\Int.toNat s<(z3.2.1).length)/\((0+(Int.toNat s))<(z3.2.1).length))/\K (Jc (eW,(List.take ((z3.2.1).length) ((z3.2.1).set (0+(Int.toNat s)) (aG ((z5.1)+1),(List.take ((z5.2.1).length) (List.drop 0 (z5.2.1))),(List.take ((z5.2.2.1).length) (List.drop 0 (z5.2.2.1))),z5.2.2.2.1,z5.2.2.2.2.1,(List.take ((z5.2.2.2.2.2.1).length) (List.drop 0 (z5.2.2.2.2.2.1))),(List.take ((z5.2.2.2.2.2.2.1).length) (List.drop 0 (z5.2.2.2.2.2.2.1))),(List.take ((z5.2.2.2.2.2.2.2.1).length) (List.drop 0 (z5.2.2.2.2.2.2.2.1))),(List.take ((z5.2.2.2.2.2.2.2.2.1).length) (List.drop 0 (z5.2.2.2.2.2.2.2.2.1))),(List.take ((z5.2.2.2.2.2.2.2.2.2.1).length) (List.drop 0 (z5.2.2.2.2.2.2.2.2.2.1))),(List.take ((z5.2.2.2.2.2.2.2.2.2.2.1).length) (List.drop 0 (z5.2.2.2.2.2.2.2.2.2.2.1))),(List.take ((z5.2.2.2.2.2.2.2.2.2.2.2.1).length) (List.drop 0 (z5.2.2.2.2.2.2.2.2.2.2.2.1))),z5.2.2.2.2.2.2.2.2.2.2.2.2.1,z5.2.2.2.2.2.2.2.2.2.2.2.2.2))),z9,eX))))) (aJ (((Ql p s).1)==3) (((0<=s/\Int.toNat s<(z3.2.2.1).length)/\(((0+(Int.toNat s))<(z3.2.2.1).length)/\((Zo (α:=Qd) (β:=Qm) sw ((Ql p s).2,z1.2.2.2.2.2.2.2.2.1))/\((0<=s/\Int.toNat s<(z3.2.2.1).length)/\((0+(Int.toNat s))<(z3.2.2.1).length)))))/\(((0<=s/\Int.toNat s<(z3.2.1).length)/\(((0+(Int.toNat s))<(z3.2.1).length)/\(((0+(Int.toNat s))=(0+(Int.toNat s)))/\(((0+(Int.toNat s))=(0+(Int.toNat s)))/\(((0+(Int.toNat s))=(0+(Int.toNat s)))/\(((0+(Int.toNat s))=(0+(Int.toNat s)))/\(((0+(Int.toNat s))=(0+(Int.toNat s)))/\(((0+(Int.toNat s))=(0+(Int.toNat s)))/\(((0+(Int.toNat s))=(0+(Int.toNat s)))/\((0+(Int.toNat s))=(0+(Int.toNat s))))))))))))/\K (Jc (eW,(List.take ((z3.2.1).length) ((z3.2.1).set (0+(Int.toNat s)) (aG ((z1.1)+1),z1.2.1,z1.2.2.1,z1.2.2.2.1,z1.2.2.2.2.1,z1.2.2.2.2.2.1,z1.2.2.2.2.2.2.1,z1.2.2.2.2.2.2.2.1,[],z1.2.2.2.2.2.2.2.2.2.1,z1.2.2.2.2.2.2.2.2.2.2.1,z1.2.2.2.2.2.2.2.2.2.2.2.1,z1.2.2.2.2.2.2.2.2.2.2.2.2.1,z1.2.2.2.2.2.2.2.2.2.2.2.2.2))),(List.take ((z3.2.2.1).length) ((z3.2.2.1).set (0+(Int.toNat s)) ((gx.1).1,(List.take (((gx.1).2).length) (List.drop 0 ((gx.1).2)))))),eX)))) (aJ (((Ql p s).1)==4) (((0<=s/\Int.toNat s<(z3.2.2.2).length)/\(((0+(Int.toNat s))<(z3.2.2.2).length)/\(Qs (α:=Qd) dQ)))/\(((0<=s/\Int.toNat s<(z3.2.2.2).length)/\((0+(Int.toNat s))<(z3.2.2.2).length))/\(((0<=s/\Int.toNat s<(z3.2.1).length)/\(((0+(Int.toNat s))<(z3.2.1).length)/\(((0+(Int.toNat s))=(0+(Int.toNat s)))/\(((0+(Int.toNat s))=(0+(Int.toNat s)))/\(((0+(Int.toNat s))=(0+(Int.toNat s)))/\(((0+(Int.toNat s))=(0+(Int.toNat s)))/\(((0+(Int.toNat s))=(0+(Int.toNat s)))/\(((0+(Int.toNat s))=(0+(Int.toNat s)))/\(((0+(Int.toNat s))=(0+(Int.toNat s)))/\((0+(Int.toNat s))=(0+(Int.toNat s))))))))))))/\K (Jc (eW,(List.take ((z3.2.1).length) ((z3.2.1).set (0+(Int.toNat s)) (aG ((z1.1)+1),z1.2.1,z1.2.2.1,z1.2.2.2.1,z1.2.2.2.2.1,z1.2.2.2.2.2.1,z1.2.2.2.2.2.2.1,z1.2.2.2.2.2.2.2.1,z1.2.2.2.2.2.2.2.2.1,(List.take ((((Zg dQ).2.1).2).length) (List.drop 0 (((Zg dQ).2.1).2))),z1.2.2.2.2.2.2.2.2.2.2.1,z1.2.2.2.2.2.2.2.2.2.2.2.1,z1.2.2.2.2.2.2.2.2.2.2.2.2.1,z1.2.2.2.2.2.2.2.2.2.2.2.2.2))),z9,(List.take ((z3.2.2.2).length) ((z3.2.2.2).set (0+(Int.toNat s)) (((Zg dQ).1).1,(List.take ((((Zg dQ).1).2).length) (List.drop 0 (((Zg dQ).1).2))))))))))) (aJ (((Ql p s).1)==5) ((pg z1 ((Ql p s).2))/\(((0<=s/\Int.toNat s<(z3.2.1).length)/\((0+(Int.toNat s))<(z3.2.1).length))/\K (Jc (eW,(List.take ((z3.2.1).length) ((z3.2.1).set (0+(Int.toNat s)) (aG ((z7.1)+1),(List.take ((z7.2.1).length) (List.drop 0 (z7.2.1))),(List.take ((z7.2.2.1).length) (List.drop 0 (z7.2.2.1))),z7.2.2.2.1,z7.2.2.2.2.1,(List.take ((z7.2.2.2.2.2.1).length) (List.drop 0 (z7.2.2.2.2.2.1))),(List.take ((z7.2.2.2.2.2.2.1).length) (List.drop 0 (z7.2.2.2.2.2.2.1))),(List.take ((z7.2.2.2.2.2.2.2.1).length) (List.drop 0 (z7.2.2.2.2.2.2.2.1))),(List.take ((z7.2.2.2.2.2.2.2.2.1).length) (List.drop 0 (z7.2.2.2.2.2.2.2.2.1))),(List.take ((z7.2.2.2.2.2.2.2.2.2.1).length) (List.drop 0 (z7.2.2.2.2.2.2.2.2.2.1))),(List.take ((z7.2.2.2.2.2.2.2.2.2.2.1).length) (List.drop 0 (z7.2.2.2.2.2.2.2.2.2.2.1))),(List.take ((z7.2.2.2.2.2.2.2.2.2.2.2.1).length) (List.drop 0 (z7.2.2.2.2.2.2.2.2.2.2.2.1))),z7.2.2.2.2.2.2.2.2.2.2.2.2.1,z7.2.2.2.2.2.2.2.2.2.2.2.2.2))),z9,eX)))) (aJ (((Ql p s).1)==6) ((((0:Int)<=(Ql p s).2/\Int.toNat ((Ql p s).2)<(z3.1).length)/\(((0+gV)<(z3.1).length)/\(ph z1 ((Ql p s).2) (z2.2))))/\(aJ (s==0) (((0<=s/\Int.toNat s<(z3.2.1).length)/\((0+(Int.toNat s))<(z3.2.1).length))/\K (Jc (eW,(List.take ((z3.2.1).length) ((z3.2.1).set (0+(Int.toNat s)) (aG ((z4.1)+1),mC,mB,z4.2.2.2.1,z4.2.2.2.2.1,kb,ka,mA,mz,my,[],mw,z4.2.2.2.2.2.2.2.2.2.2.2.2.1,z4.2.2.2.2.2.2.2.2.2.2.2.2.2))),z9,eX))) (((0<=s/\Int.toNat s<(z3.2.1).length)/\((0+(Int.toNat s))<(z3.2.1).length))/\K (Jc (eW,(List.take ((z3.2.1).length) ((z3.2.1).set (0+(Int.toNat s)) (aG ((z4.1)+1),mC,mB,z4.2.2.2.1,z4.2.2.2.2.1,kb,ka,mA,mz,my,(List.take ((z4.2.2.2.2.2.2.2.2.2.2.1).length) (List.drop 0 (z4.2.2.2.2.2.2.2.2.2.2.1))),mw,z4.2.2.2.2.2.2.2.2.2.2.2.2.1,z4.2.2.2.2.2.2.2.2.2.2.2.2.2))),z9,eX))))) (aJ (((Ql p s).1)==7) (((0<=aG (s-1)/\Int.toNat kR<(z3.2.2.2).length)/\(((0+z8)<(z3.2.2.2).length)/\((Zo (α:=Qd) (β:=Qm) (ar Qx (z3.2.2.2) (0+z8)) ((Ql p s).2,z1.2.2.2.2.2.2.2.2.2.2.1))/\((0<=aG (s-1)/\Int.toNat kR<(z3.2.2.2).length)/\((0+z8)<(z3.2.2.2).length)))))/\(((0<=s/\Int.toNat s<(z3.2.1).length)/\(((0+(Int.toNat s))<(z3.2.1).length)/\(((0+(Int.toNat s))=(0+(Int.toNat s)))/\(((0+(Int.toNat s))=(0+(Int.toNat s)))/\(((0+(Int.toNat s))=(0+(Int.toNat s)))/\(((0+(Int.toNat s))=(0+(Int.toNat s)))/\(((0+(Int.toNat s))=(0+(Int.toNat s)))/\(((0+(Int.toNat s))=(0+(Int.toNat s)))/\(((0+(Int.toNat s))=(0+(Int.toNat s)))/\((0+(Int.toNat s))=(0+(Int.toNat s))))))))))))/\K (Jc (eW,(List.take ((z3.2.1).length) ((z3.2.1).set (0+(Int.toNat s)) (aG ((z1.1)+1),z1.2.1,z1.2.2.1,z1.2.2.2.1,z1.2.2.2.2.1,z1.2.2.2.2.2.1,z1.2.2.2.2.2.2.1,z1.2.2.2.2.2.2.2.1,z1.2.2.2.2.2.2.2.2.1,z1.2.2.2.2.2.2.2.2.2.1,[],z1.2.2.2.2.2.2.2.2.2.2.2.1,z1.2.2.2.2.2.2.2.2.2.2.2.2.1,z1.2.2.2.2.2.2.2.2.2.2.2.2.2))),z9,(List.take ((z3.2.2.2).length) ((z3.2.2.2).set (0+z8) ((gy.1).1,(List.take (((gy.1).2).length) (List.drop 0 ((gy.1).2)))))))))) (((0<=s/\Int.toNat s<(z3.2.1).length)/\(((0+(Int.toNat s))<(z3.2.1).length)/\(((0+(Int.toNat s))=(0+(Int.toNat s)))/\(((0+(Int.toNat s))=(0+(Int.toNat s)))/\(((0+(Int.toNat s))=(0+(Int.toNat s)))/\(((0+(Int.toNat s))=(0+(Int.toNat s)))/\(((0+(Int.toNat s))=(0+(Int.toNat s)))/\(((0+(Int.toNat s))=(0+(Int.toNat s)))/\(((0+(Int.toNat s))=(0+(Int.toNat s)))/\(((0+(Int.toNat s))=(0+(Int.toNat s)))/\((0+(Int.toNat s))=(0+(Int.toNat s)))))))))))))/\K (Jc (eW,(List.take ((z3.2.1).length) ((z3.2.1).set (0+(Int.toNat s)) (aG ((z1.1)+1),z1.2.1,z1.2.2.1,z1.2.2.2.1,z1.2.2.2.2.1,z1.2.2.2.2.2.1,z1.2.2.2.2.2.2.1,z1.2.2.2.2.2.2.2.1,z1.2.2.2.2.2.2.2.2.1,z1.2.2.2.2.2.2.2.2.2.1,z1.2.2.2.2.2.2.2.2.2.2.1,z1.2.2.2.2.2.2.2.2.2.2.2.1,z1.2.2.2.2.2.2.2.2.2.2.2.2.1,z1.2.2.2.2.2.2.2.2.2.2.2.2.2))),z9,eX)))))))))))))) (λhb=>?_)
 conv=>zeta
 have ij:Sz.sz p<=1073741824:=hp;have hs:Sz.sz p=Sz.sz p.1+Sz.sz p.2.1+Sz.sz p.2.2.1+Sz.sz p.2.2.2:=uz p;simp only[id,List.drop_zero,List.take_length,Nat.zero_add,and_true,true_and,and_self];refine⟨by unfold Qs;omega,λh=>au ?_,λh=>?_⟩
 ·rw[Qyb (by simpa using h)]
 have he:ZJ p s=true:=by simpa using h
 obtain⟨k,rfl,hk,h4,ha,hb,iN,pH,vF,c1,c3,c4,c7,gT⟩:=Qso he;have pk:=QyD iN;have p4:=nY Qz p.2.1 k;have hx:=ZL (ar Qz p.2.1 k);have gz:=Yo (Qt (ar Qz p.2.1 k));have iK:=λj=>nY Qx p.2.2.1 j;have gh:=λj=>nY Qx p.2.2.2 j;have d0:Sz.sz Qz=0:=rfl;have d1:Sz.sz Qx=0:=rfl;have ts:∀(l:List Qd)(i:Nat)(v:Qd),List.take l.length (l.set i v)=l.set i v:=λl i v=>List.take_of_length_le (by simp);simp only[Int.toNat_natCast];have key:∀(y:Qc)(a b:List Qd),ZO p k (ar Qz p.2.1 k) (Ql p (k:Int))=(y,a,b)->y.1=(ar Qz p.2.1 k).1->((p.1,List.take p.2.1.length (p.2.1.set k (aG (y.1+1),y.2.1,y.2.2.1,y.2.2.2.1,y.2.2.2.2.1,y.2.2.2.2.2.1,y.2.2.2.2.2.2.1,y.2.2.2.2.2.2.2.1,y.2.2.2.2.2.2.2.2.1,y.2.2.2.2.2.2.2.2.2.1,y.2.2.2.2.2.2.2.2.2.2.1,y.2.2.2.2.2.2.2.2.2.2.2.1,y.2.2.2.2.2.2.2.2.2.2.2.2.1,y.2.2.2.2.2.2.2.2.2.2.2.2.2)),a,b):Qk)=ZM p (k:Int):=by
  intro y a b hy yZ;have hw:aG (y.1+1)=y.1+1:=by rw[yZ];exact QG (by((try simp only[bT,Qt,aE,Qn,Qp,Qj,QC,sX,sY,sG,sD,Qy,Qv,bf,QB,QA,Qq,Qr]at *);omega)) (by((try simp only[bT,Qt,aE,Qn,Qp,Qj,QC,sX,sY,sG,sD,Qy,Qv,bf,QB,QA,Qq,Qr]at *);omega))
  rw[QyJ he rfl hy yZ,hw,List.take_of_length_le (by simp)]
 refine⟨⟨⟨by omega,hk⟩,hk⟩,?_⟩;refine⟨λg=>?_,λn1=>?_⟩
 ·have g:(Ql p (k:Int)).1=1:=by simpa using g
  have g1:=c1 g;have e:aG ((k:Int)-1)=((k-1:Nat):Int):=by rw[QG (by omega) (by omega)];omega
  rw[e];simp only[Int.toNat_natCast];rw[ts];exact⟨⟨⟨by omega,by omega⟩,by omega,by unfold Qs;have:=iK (k-1);omega⟩,⟨⟨by omega,by omega⟩,by omega⟩,⟨⟨by omega,hk⟩,hk⟩,au (key (kL (ar Qz p.2.1 k) (Zg (ar Qx p.2.2.1 (k-1))).2.1.2) _ _ (pi1 g) rfl)⟩
 refine⟨λg=>?_,λn2=>?_⟩
 ·have g:(Ql p (k:Int)).1=2:=by simpa using g
  refine⟨λhz=>⟨⟨⟨pH,by omega⟩,by omega⟩,⟨⟨pH,by omega⟩,by omega,by unfold JM;omega⟩,⟨⟨by omega,hk⟩,hk⟩,au (key (ZV (ar Qz p.2.1 k) (Ql p (k:Int)).2 (ar QV p.1 (Ql p (k:Int)).2.toNat).1 (ar QV p.1 (Ql p (k:Int)).2.toNat).2) _ _ ?_ (Mx _ _ _ _))⟩,λhz=>⟨⟨⟨pH,by omega⟩,by omega,by unfold JM;omega⟩,⟨⟨by omega,hk⟩,hk⟩,au (key (ZV (ar Qz p.2.1 k) (Ql p (k:Int)).2 (sX (ar Qz p.2.1 k)) (ar QV p.1 (Ql p (k:Int)).2.toNat).2) _ _ ?_ (Mx _ _ _ _))⟩⟩
  ·rw[My g,if_pos (by simp at hz;omega)];try rfl
  ·rw[My g,if_neg (by simp at hz;omega)];try rfl
 refine⟨λg=>?_,λn3=>?_⟩
 ·have g:(Ql p (k:Int)).1=3:=by simpa using g
  have g1:=c3 g;rw[ts];refine⟨⟨⟨by omega,by omega⟩,by omega,?_,⟨by omega,by omega⟩,by omega⟩,⟨⟨by omega,hk⟩,hk⟩,au (key (kM (ar Qz p.2.1 k) []) _ _ (pi3 g) rfl)⟩;unfold Zo;simp only[YM,QL];have:=iK (k);((try simp only[bT,Qt,aE,Qn,Qp,Qj,QC,sX,sY,sG,sD,Qy,Qv,bf,QB,QA,Qq,Qr]at *);omega)
 refine⟨λg=>?_,λn4=>?_⟩
 ·have g:(Ql p (k:Int)).1=4:=by simpa using g
  have g1:=c4 g;rw[ts];exact⟨⟨⟨by omega,by omega⟩,by omega,by unfold Qs;have:=gh (k);omega⟩,⟨⟨by omega,by omega⟩,by omega⟩,⟨⟨by omega,hk⟩,hk⟩,au (key (kN (ar Qz p.2.1 k) (Zg (ar Qx p.2.2.2 k)).2.1.2) _ _ (pi4 g) rfl)⟩
 refine⟨λg=>?_,λn5=>?_⟩
 ·have g:(Ql p (k:Int)).1=5:=by simpa using g
  exact⟨by unfold pg;omega,⟨⟨by omega,hk⟩,hk⟩,au (key (Yl (ar Qz p.2.1 k) (Ql p (k:Int)).2) _ _ (pi5 g) (Qw5 _ _))⟩
 refine⟨λg=>?_,λn6=>?_⟩
 ·have g:(Ql p (k:Int)).1=6:=by simpa using g
  refine⟨⟨⟨pH,by omega⟩,by omega,by unfold ph;omega⟩,λhz=>⟨⟨⟨by omega,hk⟩,hk⟩,au ?_⟩,λhz=>⟨⟨⟨by omega,hk⟩,hk⟩,au ?_⟩⟩
  ·exact key (gr (ZC (ar Qz p.2.1 k) (Ql p (k:Int)).2 (ar QV p.1 (Ql p (k:Int)).2.toNat).2) []) _ _ (by rw[Cz g,if_pos (by simp at hz;omega)]) (Cy _ _ _)
  ·exact key (ZC (ar Qz p.2.1 k) (Ql p (k:Int)).2 (ar QV p.1 (Ql p (k:Int)).2.toNat).2) _ _ (by rw[Cz g,if_neg (by simp at hz;omega)]) (Cy _ _ _)
 refine⟨λg=>?_,λn7=>?_⟩
 ·have g:(Ql p (k:Int)).1=7:=by simpa using g
  have g1:=c7 g;have e:aG ((k:Int)-1)=((k-1:Nat):Int):=by rw[QG (by omega) (by omega)];omega
  rw[e];simp only[Int.toNat_natCast];rw[ts];refine⟨⟨⟨by omega,by omega⟩,by omega,?_,⟨by omega,by omega⟩,by omega⟩,⟨⟨by omega,hk⟩,hk⟩,au (key (gr (ar Qz p.2.1 k) []) _ _ (pi7 g) rfl)⟩;unfold Zo;simp only[YM,QL];have:=gh (k-1);((try simp only[bT,Qt,aE,Qn,Qp,Qj,QC,sX,sY,sG,sD,Qy,Qv,bf,QB,QA,Qq,Qr]at *);omega)
 ·simp at n1 n2 n3 n4 n5 n6 n7;exact⟨⟨⟨by omega,hk⟩,hk⟩,au (key (ar Qz p.2.1 k) _ _ (pi8 (by omega)) rfl)⟩
theorem QE8:Qf Tryz.prog Nl:=Qi λx h=>QOf x.1 x.2.1 h
def uN(t:Qk):aB:=⟨(.a [(bg QF t.1),(.r Qe 0 0 ((t.2.1).length)),(.r Qh 1 0 ((t.2.2.1).length)),(bg Qh t.2.2.2)]),[(.sl 39 Qe .ow t.2.1),(.sl 161 Qh .ow t.2.2.1)],[],true,[]⟩
def Nm:aI:=Qg 49 [(.a QM),(.c TI)] λx=>(some (pj x.1 x.2.1),uN (ZM x.1 x.2.1))
def C8:aF:=⟨[C6,Nh,C1,M4,MC,M1,MF,MK],false⟩
def QBN:af :=
 (.draw [a8 71 7 14,ak 72 6 1,an 73 72 1,ab 74 11,ak 75 2 0,an 76 75 1,ak 77 6 1,an 78 77 1,a0 79 76 78 QF,ak 80 79 1,an 81 80 1,aD 82 28 [71,73,74,81],aU 7 82 14] [])
def QQN:List (Nat × Md):=[(1,.one .d),(2,.b (dG 4)),(4,.b (dG 4)),(5,.b [.d,.f,.f,.f]),(6,.b [.d,.d]),(7,.b (dG 14)),(11,.one .d)]
def QRE:af:=.wk QQN QBN
def QsP:af :=
 (ag [(.ae [ak 174 7 0,an 175 174 1,aw 176 .add 175 (aq 1),ak 177 7 0,aU 177 176 1]),(.ae [ak 178 5 1,an 179 178 1,ab 180 1,a8 181 7 14,a0 182 179 180 Qe,aU 182 181 14]),(.ae [a8 183 5 4,aU 4 183 4]),.ret])
def QGs:List (Nat × Md):=[(1,.one .d),(4,.b (dG 4)),(5,.b [.d,.f,.f,.f]),(7,.b (dG 14))]
def QxU:af:=.wk QGs QsP
def QKz:af :=
 (ag [(.ae [aC 2 (.box 56 0 4),aC 4 (.new 56 (bG QM))]),(.ae [a8 19 2 4,aD 20 143 [19],aC 5 (.new 56 (bG QM)),aU 5 20 4]),(ag [(.ae [a8 21 2 4,ab 22 1,aD 23 89 [21,22],bL 24 23]),(.cond 24 (ag [(.ae [a8 25 5 4,aU 4 25 4]),.ret]) .skip)]),(.ae [a8 26 2 4,ab 27 1,aD 28 144 [26,27],aC 6 (.new 175 (bG QP)),aU 6 28 2]),(.ae [ak 29 5 1,an 30 29 1,ab 31 1,a0 32 30 31 Qe,a8 33 32 14,aC 7 (.new 39 (bG Qe)),aU 7 33 14]),(ag [(.ae [ak 34 6 0,an 35 34 1]),(.block 0 (ag [(.ae [aw 37 .eql 35 (aq 1),ab 36 37]),(.cond 36 (ag [(.ae [ak 39 2 2,an 40 39 1,ab 41 1,aw 42 .sub 41 (aq 1),a0 43 40 42 Qh,a8 44 43 2,aD 45 145 [44],ab 38 45,bF 46 38 0,bF 47 38 1,bF 48 38 2,aC 8 (.new 161 (bG Qh)),aC 9 (.new 178 (bG Qu)),aU 8 46 2,aU 9 47 2,ab 10 48]),(.ae [ak 49 5 2,an 50 49 1,ab 51 1,aw 52 .sub 51 (aq 1),a8 53 8 2,a0 54 50 52 Qh,aU 54 53 2]),(.ae [ak 55 9 1,an 56 55 1,ak 57 7 7,aU 57 56 1])]) (ag [(.ae [aw 59 .eql 35 (aq 2),ab 58 59]),(.cond 58 (ag [(.ae [ak 60 7 7,an 61 60 1,ab 11 61]),(ag [(.ae [ab 62 1,aw 63 .eql 62 (aq 0)]),(.cond 63 (.ae [ak 64 2 0,an 65 64 1,ak 66 6 1,an 67 66 1,a0 68 65 67 QF,ak 69 68 0,an 70 69 1,ab 11 70]) .skip)]),QRE]) (ag [(.ae [aw 84 .eql 35 (aq 3),ab 83 84]),(.cond 83 (ag [(.draw [ak 86 2 2,an 87 86 1,ab 88 1,a0 89 87 88 Qh,a8 90 89 2,ak 91 6 1,an 92 91 1,ak 93 7 8,an 94 93 1,aC 95 (.build (bG Qu) [(0,1,92),(1,1,94)]),aD 96 146 [90,95],ab 85 96,bF 97 85 0,bF 98 85 1,aC 12 (.new 161 (bG Qh)),aU 12 97 2,ab 13 98] [(0,14),(1,14),(3,14),(4,14),(5,14),(6,14),(7,14),(8,14),(10,14)]),(.ae [ak 99 5 2,an 100 99 1,ab 101 1,a8 102 12 2,a0 103 100 101 Qh,aU 103 102 2]),(.ae [aC 104 (.bW 3 [TI] []),ak 105 7 8,aU 105 104 1])]) (ag [(.ae [aw 107 .eql 35 (aq 4),ab 106 107]),(.cond 106 (ag [(.ae [ak 109 2 3,an 110 109 1,ab 111 1,a0 112 110 111 Qh,a8 113 112 2,aD 114 145 [113],ab 108 114,bF 115 108 0,bF 116 108 1,bF 117 108 2,aC 14 (.new 161 (bG Qh)),aC 15 (.new 178 (bG Qu)),aU 14 115 2,aU 15 116 2,ab 16 117]),(.ae [ak 118 5 3,an 119 118 1,ab 120 1,a8 121 14 2,a0 122 119 120 Qh,aU 122 121 2]),(.ae [ak 123 15 1,an 124 123 1,ak 125 7 9,aU 125 124 1])]) (ag [(.ae [aw 127 .eql 35 (aq 5),ab 126 127]),(.cond 126 (.ae [a8 128 7 14,ak 129 6 1,an 130 129 1,aD 131 13 [128,130],aU 7 131 14]) (ag [(.ae [aw 133 .eql 35 (aq 6),ab 132 133]),(.cond 132 (ag [(.draw [a8 134 7 14,ak 135 6 1,an 136 135 1,ak 137 2 0,an 138 137 1,ak 139 6 1,an 140 139 1,a0 141 138 140 QF,ak 142 141 1,an 143 142 1,aD 144 31 [134,136,143],aU 7 144 14] []),(.ae [ab 145 1,aw 146 .eql 145 (aq 0)]),(.cond 146 (.ae [aC 147 (.bW 3 [TI] []),ak 148 7 10,aU 148 147 1]) .skip)]) (ag [(.ae [aw 150 .eql 35 (aq 7),ab 149 150]),(.cond 149 (ag [(.draw [ak 152 2 3,an 153 152 1,ab 154 1,aw 155 .sub 154 (aq 1),a0 156 153 155 Qh,a8 157 156 2,ak 158 6 1,an 159 158 1,ak 160 7 10,an 161 160 1,aC 162 (.build (bG Qu) [(0,1,159),(1,1,161)]),aD 163 146 [157,162],ab 151 163,bF 164 151 0,bF 165 151 1,aC 17 (.new 161 (bG Qh)),aU 17 164 2,ab 18 165] [(0,15),(1,15),(4,15),(5,15),(6,15),(7,15),(8,15),(9,15),(11,15)]),(.ae [ak 166 5 3,an 167 166 1,ab 168 1,aw 169 .sub 168 (aq 1),a8 170 17 2,a0 171 167 169 Qh,aU 171 170 2]),(.ae [aC 172 (.bW 3 [TI] []),ak 173 7 10,aU 173 172 1])]) .skip)]))]))]))]))]))]))]))]),QxU])
def Qsg:List (bn × Md):=[(.l 4 4 true,.b [.d,.o 39,.o 161,.d])]
def Nn:Qb:=TQ 0 0 Qsg K
@[irreducible] def JA(p:Qk)(s:Int)(x1:List Qc)(x2:List Qd)(x3:List Qd)(C9:Int)(Da:List bu)(Db:List aH)(Dc:Bool)(Dd:Bool)(De:List QD)(Df:List (List Int))(Dg:List Int)(Dh:List Int)(Di:List Int)(n0:List Int)(n8:List (List Int))(n9:Int)(oa:Bool):Prop:=aO C8 0 QsP (Nn K) ⟨[(1,(aL s)),(4,(.p 0 0 0)),(5,(.p 4 0 0)),(7,(.p 5 0 0))],[(0,(.box (aS.cells QM ([],[],[],[])))),(1,(.sl 39 Qe .ow x1)),(2,(.sl 161 Qh .ow x2)),(3,(.sl 161 Qh .ow x3)),(4,(.box [(bg QF ((id (α:=Qk) p).1)),(.r Qe 1 0 x1.length),(.r Qh 2 0 x2.length),(.r Qh 3 0 x3.length)])),(5,(.box (aS.cells Qe (C9,Da,Db,Dc,Dd,De,Df,Dg,Dh,Di,n0,n8,n9,oa))))],6⟩
def QXo:Qb:=aY (aO C8 0 QxU (Nn K)) (Nn K)
def QNk:Qb:=a7 0 (QXo K)
@[irreducible] def Dj(p:Qk)(s:Int)(dm:List Int):Prop:=let z1:=id (α:=Qk) p
 aO C8 0 QBN (QNk K) ⟨[(1,(aL s)),(2,(.p 0 0 0)),(4,(.p 1 0 0)),(5,(.p 5 0 0)),(6,(.p 6 0 0)),(7,(.p 7 0 0)),(11,(bg [TI] dm))],[(0,(.box (aS.cells QM p))),(1,(.box (aS.cells QM ([],[],[],[])))),(2,(.sl 39 Qe .ow (List.take ((z1.2.1).length) (z1.2.1)))),(3,(.sl 161 Qh .ow (List.take ((z1.2.2.1).length) (z1.2.2.1)))),(4,(.sl 161 Qh .ow (List.take ((z1.2.2.2).length) (z1.2.2.2)))),(5,(.box [(bg QF (z1.1)),(.r Qe 2 0 ((List.take ((z1.2.1).length) (z1.2.1)).length)),(.r Qh 3 0 ((List.take ((z1.2.2.1).length) (z1.2.2.1)).length)),(.r Qh 4 0 ((List.take ((z1.2.2.2).length) (z1.2.2.2)).length))])),(6,(.box [(aL ((Ql p s).1)),(aL ((Ql p s).2))])),(7,(.box (aS.cells Qe (ar Qz (z1.2.1) (0+(Int.toNat s))))))],8⟩
theorem QXM(p:Qk)(s:Int)(x1:List Qc)(x2:List Qd)(x3:List Qd)(C9:Int)(Da:List bu)(Db:List aH)(Dc:Bool)(Dd:Bool)(De:List QD)(Df:List (List Int))(Dg:List Int)(Dh:List Int)(Di:List Int)(n0:List Int)(n8:List (List Int))(n9:Int)(oa:Bool) (h :
 (((0<=s/\Int.toNat s<x1.length)/\((0+(Int.toNat s))<x1.length))/\K (uN ((id (α:=Qk) p).1,(List.take x1.length ((x1).set (0+(Int.toNat s)) (aG (C9+1),Da,Db,Dc,Dd,De,Df,Dg,Dh,Di,n0,n8,n9,oa))),(List.take x2.length x2),(List.take x3.length (List.drop 0 x3)))))):dt (JA K p s x1 x2 x3 C9 Da Db Dc Dd De Df Dg Dh Di n0 n8 n9 oa) :=
 dt.of h
theorem QRC(p:Qk)(s:Int)(dm:List Int) (h :
 let z2:=id (α:=Qk) p
 let z3:=ar QV p.1 (Int.toNat ((Ql p s).2))
 let z1:=ZV (ar Qz (z2.2.1) (0+(Int.toNat s))) ((Ql p s).2) dm (z3.2)
 ((((0:Int)<=(Ql p s).2/\Int.toNat ((Ql p s).2)<(p.1).length)/\(JM (ar Qz (z2.2.1) (0+(Int.toNat s))) ((Ql p s).2) dm (z3.2)))/\(JA K p s (List.take ((List.take ((z2.2.1).length) (z2.2.1)).length) (List.take ((z2.2.1).length) (z2.2.1))) (List.take ((List.take ((z2.2.2.1).length) (z2.2.2.1)).length) (List.take ((z2.2.2.1).length) (z2.2.2.1))) (List.take ((List.take ((z2.2.2.2).length) (z2.2.2.2)).length) (List.take ((z2.2.2.2).length) (z2.2.2.2))) (z1.1) (z1.2.1) (z1.2.2.1) (z1.2.2.2.1) (z1.2.2.2.2.1) (z1.2.2.2.2.2.1) (z1.2.2.2.2.2.2.1) (z1.2.2.2.2.2.2.2.1) (z1.2.2.2.2.2.2.2.2.1) (z1.2.2.2.2.2.2.2.2.2.1) (z1.2.2.2.2.2.2.2.2.2.2.1) (z1.2.2.2.2.2.2.2.2.2.2.2.1) (z1.2.2.2.2.2.2.2.2.2.2.2.2.1) (z1.2.2.2.2.2.2.2.2.2.2.2.2.2)))):dt (Dj K p s dm) :=
 dt.of h
theorem QTt(p:Qk)(s:Int)(hp:pj p s):aK Tryz.prog 49 [(.a (aS.cells QM p)),(.c TI s)] (uN (ZM p s)):=by
 refine bz C8 QKz Qsg 0 0 184 Nm (kc QDj (kc QQC (kc QrK (kc QOM (kc QIV (kc QX3 (kc QR4 (kc QJ2 kn)))))))) (λK =>
 let z3:=id (α:=Qk) p
 let z1:=ar Qz (z3.2.1) (0+(Int.toNat s))
 let z4:=Yl z1 ((Ql p s).2)
 let z6:=List.take ((z3.2.1).length) (z3.2.1)
 let z7:=List.take ((z3.2.2.1).length) (z3.2.2.1)
 let z8:=List.take ((z3.2.2.2).length) (z3.2.2.2)
 let z9:=Z6 (ar Qx p.2.2.1 (Int.toNat s)) ((Ql p s).2,z1.2.2.2.2.2.2.2.2.1)
 let eW:=ar QV p.1 (Int.toNat ((Ql p s).2))
 let z2:=ZC z1 ((Ql p s).2) (eW.2)
 let dQ:=aG (s-1)
 let z5:=Int.toNat dQ
 let eX:=Z6 (ar Qx p.2.2.2 z5) ((Ql p s).2,z1.2.2.2.2.2.2.2.2.2.2.1)
 let gx:=ar Qx p.2.2.2 (Int.toNat s)
 let gy:=ar Qx p.2.2.1 z5
 ((Qs (α:=Qk) p)/\(aJ (!(ZJ p s)) (K (uN (z3.1,z6,z7,(List.take ((z3.2.2.2).length) (List.drop 0 (z3.2.2.2)))))) (((0<=s/\Int.toNat s<(z3.2.1).length)/\((0+(Int.toNat s))<(z3.2.1).length))/\(aJ (((Ql p s).1)==1) (((0<=aG (s-1)/\Int.toNat dQ<(p.2.2.1).length)/\(Qs (α:=Qd) gy))/\(((0<=aG (s-1)/\Int.toNat dQ<(z3.2.2.1).length)/\((0+z5)<(z3.2.2.1).length))/\(JA K p s z6 (List.take ((z3.2.2.1).length) ((z3.2.2.1).set (0+z5) ((Zg gy).1))) z8 (z1.1) (z1.2.1) (z1.2.2.1) (z1.2.2.2.1) (z1.2.2.2.2.1) (z1.2.2.2.2.2.1) (z1.2.2.2.2.2.2.1) (((Zg gy).2.1).2) (z1.2.2.2.2.2.2.2.2.1) (z1.2.2.2.2.2.2.2.2.2.1) (z1.2.2.2.2.2.2.2.2.2.2.1) (z1.2.2.2.2.2.2.2.2.2.2.2.1) (z1.2.2.2.2.2.2.2.2.2.2.2.2.1) (z1.2.2.2.2.2.2.2.2.2.2.2.2.2)))) (aJ (((Ql p s).1)==2) (aJ (s==0) (((0:Int)<=(Ql p s).2/\Int.toNat ((Ql p s).2)<(p.1).length)/\(Dj K p s (eW.1))) (Dj K p s (z1.2.2.2.2.2.2.2.1))) (aJ (((Ql p s).1)==3) (((0<=s/\Int.toNat s<(p.2.2.1).length)/\(Zo (α:=Qd) (β:=Qm) (ar Qx p.2.2.1 (Int.toNat s)) ((Ql p s).2,z1.2.2.2.2.2.2.2.2.1)))/\(((0<=s/\Int.toNat s<(z3.2.2.1).length)/\((0+(Int.toNat s))<(z3.2.2.1).length))/\(JA K p s z6 (List.take ((z3.2.2.1).length) ((z3.2.2.1).set (0+(Int.toNat s)) ((z9.1).1,(List.take (((z9.1).2).length) (List.drop 0 ((z9.1).2)))))) z8 (z1.1) (z1.2.1) (z1.2.2.1) (z1.2.2.2.1) (z1.2.2.2.2.1) (z1.2.2.2.2.2.1) (z1.2.2.2.2.2.2.1) (z1.2.2.2.2.2.2.2.1) ([]:List Int) (z1.2.2.2.2.2.2.2.2.2.1) (z1.2.2.2.2.2.2.2.2.2.2.1) (z1.2.2.2.2.2.2.2.2.2.2.2.1) (z1.2.2.2.2.2.2.2.2.2.2.2.2.1) (z1.2.2.2.2.2.2.2.2.2.2.2.2.2)))) (aJ (((Ql p s).1)==4) (((0<=s/\Int.toNat s<(p.2.2.2).length)/\(Qs (α:=Qd) gx))/\(((0<=s/\Int.toNat s<(z3.2.2.2).length)/\((0+(Int.toNat s))<(z3.2.2.2).length))/\(JA K p s z6 z7 (List.take ((z3.2.2.2).length) ((z3.2.2.2).set (0+(Int.toNat s)) ((Zg gx).1))) (z1.1) (z1.2.1) (z1.2.2.1) (z1.2.2.2.1) (z1.2.2.2.2.1) (z1.2.2.2.2.2.1) (z1.2.2.2.2.2.2.1) (z1.2.2.2.2.2.2.2.1) (z1.2.2.2.2.2.2.2.2.1) (((Zg gx).2.1).2) (z1.2.2.2.2.2.2.2.2.2.2.1) (z1.2.2.2.2.2.2.2.2.2.2.2.1) (z1.2.2.2.2.2.2.2.2.2.2.2.2.1) (z1.2.2.2.2.2.2.2.2.2.2.2.2.2)))) (aJ (((Ql p s).1)==5) ((pg z1 ((Ql p s).2))/\(JA K p s z6 z7 z8 (z4.1) (z4.2.1) (z4.2.2.1) (z4.2.2.2.1) (z4.2.2.2.2.1) (z4.2.2.2.2.2.1) (z4.2.2.2.2.2.2.1) (z4.2.2.2.2.2.2.2.1) (z4.2.2.2.2.2.2.2.2.1) (z4.2.2.2.2.2.2.2.2.2.1) (z4.2.2.2.2.2.2.2.2.2.2.1) (z4.2.2.2.2.2.2.2.2.2.2.2.1) (z4.2.2.2.2.2.2.2.2.2.2.2.2.1) (z4.2.2.2.2.2.2.2.2.2.2.2.2.2))) (aJ (((Ql p s).1)==6) ((((0:Int)<=(Ql p s).2/\Int.toNat ((Ql p s).2)<(p.1).length)/\(ph z1 ((Ql p s).2) (eW.2)))/\(aJ (s==0) (JA K p s z6 z7 z8 (z2.1) (z2.2.1) (z2.2.2.1) (z2.2.2.2.1) (z2.2.2.2.2.1) (z2.2.2.2.2.2.1) (z2.2.2.2.2.2.2.1) (z2.2.2.2.2.2.2.2.1) (z2.2.2.2.2.2.2.2.2.1) (z2.2.2.2.2.2.2.2.2.2.1) ([]:List Int) (z2.2.2.2.2.2.2.2.2.2.2.2.1) (z2.2.2.2.2.2.2.2.2.2.2.2.2.1) (z2.2.2.2.2.2.2.2.2.2.2.2.2.2)) (JA K p s z6 z7 z8 (z2.1) (z2.2.1) (z2.2.2.1) (z2.2.2.2.1) (z2.2.2.2.2.1) (z2.2.2.2.2.2.1) (z2.2.2.2.2.2.2.1) (z2.2.2.2.2.2.2.2.1) (z2.2.2.2.2.2.2.2.2.1) (z2.2.2.2.2.2.2.2.2.2.1) (z2.2.2.2.2.2.2.2.2.2.2.1) (z2.2.2.2.2.2.2.2.2.2.2.2.1) (z2.2.2.2.2.2.2.2.2.2.2.2.2.1) (z2.2.2.2.2.2.2.2.2.2.2.2.2.2)))) (aJ (((Ql p s).1)==7) (((0<=aG (s-1)/\Int.toNat dQ<(p.2.2.2).length)/\(Zo (α:=Qd) (β:=Qm) (ar Qx p.2.2.2 z5) ((Ql p s).2,z1.2.2.2.2.2.2.2.2.2.2.1)))/\(((0<=aG (s-1)/\Int.toNat dQ<(z3.2.2.2).length)/\((0+z5)<(z3.2.2.2).length))/\(JA K p s z6 z7 (List.take ((z3.2.2.2).length) ((z3.2.2.2).set (0+z5) ((eX.1).1,(List.take (((eX.1).2).length) (List.drop 0 ((eX.1).2)))))) (z1.1) (z1.2.1) (z1.2.2.1) (z1.2.2.2.1) (z1.2.2.2.2.1) (z1.2.2.2.2.2.1) (z1.2.2.2.2.2.2.1) (z1.2.2.2.2.2.2.2.1) (z1.2.2.2.2.2.2.2.2.1) (z1.2.2.2.2.2.2.2.2.2.1) ([]:List Int) (z1.2.2.2.2.2.2.2.2.2.2.2.1) (z1.2.2.2.2.2.2.2.2.2.2.2.2.1) (z1.2.2.2.2.2.2.2.2.2.2.2.2.2)))) (JA K p s z6 z7 z8 (z1.1) (z1.2.1) (z1.2.2.1) (z1.2.2.2.1) (z1.2.2.2.2.1) (z1.2.2.2.2.2.1) (z1.2.2.2.2.2.2.1) (z1.2.2.2.2.2.2.2.1) (z1.2.2.2.2.2.2.2.2.1) (z1.2.2.2.2.2.2.2.2.2.1) (z1.2.2.2.2.2.2.2.2.2.2.1) (z1.2.2.2.2.2.2.2.2.2.2.2.1) (z1.2.2.2.2.2.2.2.2.2.2.2.2.1) (z1.2.2.2.2.2.2.2.2.2.2.2.2.2))))))))))))) (λhb=>?_)
 conv=>zeta
 have ij:Sz.sz p<=1073741824:=hp;have hs:Sz.sz p=Sz.sz p.1+Sz.sz p.2.1+Sz.sz p.2.2.1+Sz.sz p.2.2.2:=uz p;simp only[id,List.drop_zero,List.take_length,Nat.zero_add];refine⟨by unfold Qs;omega,λh=>au ?_,λh=>?_⟩
 ·rw[Qyb (by simpa using h)]
 have he:ZJ p s=true:=by simpa using h
 obtain⟨k,rfl,hk,h4,ha,hb,iN,pH,vF,c1,c3,c4,c7,gT⟩:=Qso he;have pk:=QyD iN;have p4:=nY Qz p.2.1 k;have hx:=ZL (ar Qz p.2.1 k);have gz:=Yo (Qt (ar Qz p.2.1 k));have iK:=λj=>nY Qx p.2.2.1 j;have gh:=λj=>nY Qx p.2.2.2 j;have d0:Sz.sz Qz=0:=rfl;have d1:Sz.sz Qx=0:=rfl;have ts:∀(l:List Qd)(i:Nat)(v:Qd),List.take l.length (l.set i v)=l.set i v:=λl i v=>List.take_of_length_le (by simp);simp only[Int.toNat_natCast];have key:∀(y:Qc)(a b:List Qd),ZO p k (ar Qz p.2.1 k) (Ql p (k:Int))=(y,a,b)->y.1=(ar Qz p.2.1 k).1->JA (λr'=>r'=uN (ZM p (k:Int))) p (k:Int) p.2.1 a b y.1 y.2.1 y.2.2.1 y.2.2.2.1 y.2.2.2.2.1 y.2.2.2.2.2.1 y.2.2.2.2.2.2.1 y.2.2.2.2.2.2.2.1 y.2.2.2.2.2.2.2.2.1 y.2.2.2.2.2.2.2.2.2.1 y.2.2.2.2.2.2.2.2.2.2.1 y.2.2.2.2.2.2.2.2.2.2.2.1 y.2.2.2.2.2.2.2.2.2.2.2.2.1 y.2.2.2.2.2.2.2.2.2.2.2.2.2:=by
  intro y a b hy yZ;have hw:aG (y.1+1)=y.1+1:=by rw[yZ];exact QG (by((try simp only[bT,Qt,aE,Qn,Qp,Qj,QC,sX,sY,sG,sD,Qy,Qv,bf,QB,QA,Qq,Qr]at *);omega)) (by((try simp only[bT,Qt,aE,Qn,Qp,Qj,QC,sX,sY,sG,sD,Qy,Qv,bf,QB,QA,Qq,Qr]at *);omega))
  refine(QXM _ _ _ _ _ _ _ _ _ _ _ _ _ _ _ _ _ _ _ _ ?_).h;simp only[id,List.drop_zero,List.take_length,Nat.zero_add,Int.toNat_natCast];refine⟨⟨⟨by omega,hk⟩,hk⟩,au ?_⟩;rw[QyJ he rfl hy yZ,hw,List.take_of_length_le (by simp)]
 have k2:(Ql p (k:Int)).1=2->∀ dm,dm=(if k=0 then(ar QV p.1 (Ql p (k:Int)).2.toNat).1 else sX (ar Qz p.2.1 k))->Dj (λr'=>r'=uN (ZM p (k:Int))) p (k:Int) dm:=by
  intro g dm hi;refine(QRC _ _ _ _ ?_).h
  conv=>zeta
  simp only[id,List.drop_zero,List.take_length,Nat.zero_add,Int.toNat_natCast];refine⟨⟨⟨pH,by omega⟩,by unfold JM;omega⟩,?_⟩;exact key (ZV (ar Qz p.2.1 k) (Ql p (k:Int)).2 dm (ar QV p.1 (Ql p (k:Int)).2.toNat).2) _ _ (by rw[My g,hi]) (Mx _ _ _ _)
 refine⟨⟨⟨by omega,hk⟩,hk⟩,?_⟩;refine⟨λg=>?_,λn1=>?_⟩
 ·have g:(Ql p (k:Int)).1=1:=by simpa using g
  have g1:=c1 g;have e:aG ((k:Int)-1)=((k-1:Nat):Int):=by rw[QG (by omega) (by omega)];omega
  rw[e];simp only[Int.toNat_natCast];rw[ts];exact⟨⟨⟨by omega,by omega⟩,by unfold Qs;have:=iK (k-1);omega⟩,⟨⟨by omega,by omega⟩,by omega⟩,key (kL (ar Qz p.2.1 k) (Zg (ar Qx p.2.2.1 (k-1))).2.1.2) _ _ (pi1 g) rfl⟩
 refine⟨λg=>?_,λn2=>?_⟩
 ·have g:(Ql p (k:Int)).1=2:=by simpa using g
  refine⟨λhz=>⟨⟨pH,by omega⟩,k2 g _ ?_⟩,λhz=>k2 g _ ?_⟩
  ·rw[if_pos (by simp at hz;omega)]
  ·rw[if_neg (by simp at hz;omega)]
 refine⟨λg=>?_,λn3=>?_⟩
 ·have g:(Ql p (k:Int)).1=3:=by simpa using g
  have g1:=c3 g;rw[ts];refine⟨⟨⟨by omega,by omega⟩,?_⟩,⟨⟨by omega,by omega⟩,by omega⟩,key (kM (ar Qz p.2.1 k) []) _ _ (pi3 g) rfl⟩;unfold Zo;simp only[YM,QL];have:=iK (k);((try simp only[bT,Qt,aE,Qn,Qp,Qj,QC,sX,sY,sG,sD,Qy,Qv,bf,QB,QA,Qq,Qr]at *);omega)
 refine⟨λg=>?_,λn4=>?_⟩
 ·have g:(Ql p (k:Int)).1=4:=by simpa using g
  have g1:=c4 g;rw[ts];exact⟨⟨⟨by omega,by omega⟩,by unfold Qs;have:=gh (k);omega⟩,⟨⟨by omega,by omega⟩,by omega⟩,key (kN (ar Qz p.2.1 k) (Zg (ar Qx p.2.2.2 k)).2.1.2) _ _ (pi4 g) rfl⟩
 refine⟨λg=>?_,λn5=>?_⟩
 ·have g:(Ql p (k:Int)).1=5:=by simpa using g
  exact⟨by unfold pg;omega,key (Yl (ar Qz p.2.1 k) (Ql p (k:Int)).2) _ _ (pi5 g) (Qw5 _ _)⟩
 refine⟨λg=>?_,λn6=>?_⟩
 ·have g:(Ql p (k:Int)).1=6:=by simpa using g
  refine⟨⟨⟨pH,by omega⟩,by unfold ph;omega⟩,λhz=>?_,λhz=>?_⟩
  ·exact key (gr (ZC (ar Qz p.2.1 k) (Ql p (k:Int)).2 (ar QV p.1 (Ql p (k:Int)).2.toNat).2) []) _ _ (by rw[Cz g,if_pos (by simp at hz;omega)]) (Cy _ _ _)
  ·exact key (ZC (ar Qz p.2.1 k) (Ql p (k:Int)).2 (ar QV p.1 (Ql p (k:Int)).2.toNat).2) _ _ (by rw[Cz g,if_neg (by simp at hz;omega)]) (Cy _ _ _)
 refine⟨λg=>?_,λn7=>?_⟩
 ·have g:(Ql p (k:Int)).1=7:=by simpa using g
  have g1:=c7 g;have e:aG ((k:Int)-1)=((k-1:Nat):Int):=by rw[QG (by omega) (by omega)];omega
  rw[e];simp only[Int.toNat_natCast];rw[ts];refine⟨⟨⟨by omega,by omega⟩,?_⟩,⟨⟨by omega,by omega⟩,by omega⟩,key (gr (ar Qz p.2.1 k) []) _ _ (pi7 g) rfl⟩;unfold Zo;simp only[YM,QL];have:=gh (k-1);((try simp only[bT,Qt,aE,Qn,Qp,Qj,QC,sX,sY,sG,sD,Qy,Qv,bf,QB,QA,Qq,Qr]at *);omega)
 ·simp at n1 n2 n3 n4 n5 n6 n7;exact key (ar Qz p.2.1 k) _ _ (pi8 (by omega)) rfl
theorem QUS:Qf Tryz.prog Nm:=Qi λx h=>QTt x.1 x.2.1 h
def Dk(t:Qk):aB:=⟨(.a [(.r QF 0 0 ((t.1).length)),(.r Qe 1 0 ((t.2.1).length)),(.r Qh 2 0 ((t.2.2.1).length)),(.r Qh 3 0 ((t.2.2.2).length))]),[(.sl 154 QF (.dp 0 true []) t.1),(.sl 39 Qe (.dp 0 true []) t.2.1),(.sl 161 Qh (.dp 0 true []) t.2.2.1),(.sl 161 Qh (.dp 0 true []) t.2.2.2)],[],false,[]⟩
def Np:aI:=Qg 52 [(.a QM),(.c TI)] λx=>(some (sv x.1 x.2.1),Dk (Zy x.1 x.2.1))
def Nq:aF:=⟨[C4,Nl],true⟩
def QDi:af :=
 (ag [(ag [(.ae [ab 8 5,ab 9 1,aw 10 .lss 8 9,ab 11 10,.bt 11 true [ab 12 5,aw 13 .lss 12 (aq 2000)] 14 13,ab 15 14,.bt 15 true [ak 16 2 1,an 17 16 1,ba 18 17,aw 19 .gtr 18 (aq 0)] 20 19]),(.cond 20 .skip (.exit 0))]),(.block 1 (.draw [a8 23 2 4,ab 24 5,ak 25 2 1,an 26 25 1,ba 27 26,aw 28 .rem 24 27,aD 29 50 [23,28],aU 2 29 4] [])),(.ae [ab 21 5,aw 22 .add 21 (aq 1),ab 5 22])])
def QBE:List (Nat × Md):=[(1,.one .d),(2,.b [.f,.f,.f,.f]),(4,.b [.f,.f,.f,.f]),(5,.one .d)]
def QAZ:af :=
 (ag [(.ae [a8 30 2 4,aU 4 30 4]),.ret])
def QSP:af :=
 (ag [(.ae [aC 2 (.box 56 0 4),aC 4 (.new 56 (bG QM))]),(.ae [a8 6 2 4,aD 7 147 [6],aU 2 7 4]),(ag [(.ae [ab 5 (aq 0)]),(.block 0 (.loop QBE QDi))]),QAZ])
def QrQ:List (bn × Md):=[(.l 4 4 true,.b [.p 154,.p 39,.p 161,.p 161])]
def QDf:Qb:=TQ 0 0 QrQ K
def QGh:Qb:=aY (aO Nq 0 QAZ (QDf K)) (QDf K)
def QXh:Qb:=a7 0 (QGh K)
def Dl(n:Int)(i:Int)(p0:List Qo)(p1:List Qc)(p2:List Qd)(p3:List Qd):Prop:=Loop Nq 0 QBE QDi (QXh K) ⟨[(1,(aL n)),(2,(.p 4 0 0)),(4,(.p 5 0 0)),(5,(aL i))],[(0,(.sl 154 QF (.dp 0 true []) p0)),(1,(.sl 39 Qe (.dp 0 true []) p1)),(2,(.sl 161 Qh (.dp 0 true []) p2)),(3,(.sl 161 Qh (.dp 0 true []) p3)),(4,(.box [(.r QF 0 0 p0.length),(.r Qe 1 0 p1.length),(.r Qh 2 0 p2.length),(.r Qh 3 0 p3.length)])),(5,(.box [(.n QF),(.n Qe),(.n Qh),(.n Qh)]))],6⟩
theorem Nr(n:Int)(i:Int)(p0:List Qo)(p1:List Qc)(p2:List Qd)(p3:List Qd) (h :
 let z1:=ZM ((List.take p0.length (List.drop 0 p0)),(List.take p1.length (List.drop 0 p1)),(List.take p2.length (List.drop 0 p2)),(List.take p3.length (List.drop 0 p3))) (Int.tmod i ((p1.length:Nat):Int))
 (aJ (((decide (i<n))&&(decide (i<2000)))&&(decide (((p1.length:Nat):Int)>0))) (((¬ (((p1.length:Nat):Int):Int)=0)/\(pj ((List.take p0.length (List.drop 0 p0)),(List.take p1.length (List.drop 0 p1)),(List.take p2.length (List.drop 0 p2)),(List.take p3.length (List.drop 0 p3))) (Int.tmod i ((p1.length:Nat):Int))))/\(Dl K n (aG (i+1)) (List.take ((z1.1).length) (z1.1)) (List.take ((z1.2.1).length) (z1.2.1)) (List.take ((z1.2.2.1).length) (z1.2.2.1)) (List.take ((z1.2.2.2).length) (z1.2.2.2)))) (K (Dk ((List.take p0.length p0),(List.take p1.length p1),(List.take p2.length p2),(List.take p3.length p3)))))):Dl K n i p0 p1 p2 p3 :=
 Loop.of h
theorem QS1(p:Qk)(n:Int)(hp:sv p n):aK Tryz.prog 52 [(.a (aS.cells QM p)),(.c TI n)] (Dk (Zy p n)):=by
 refine bz Nq QSP QrQ 0 0 31 Np (kc Qtu (kc QE8 kn)) (λK =>
 ((Qs (α:=Qk) p)/\(Dl K n 0 (List.take (((id (α:=Qk) p).1).length) ((id (α:=Qk) p).1)) (List.take (((id (α:=Qk) p).2.1).length) ((id (α:=Qk) p).2.1)) (List.take (((id (α:=Qk) p).2.2.1).length) ((id (α:=Qk) p).2.2.1)) (List.take (((id (α:=Qk) p).2.2.2).length) ((id (α:=Qk) p).2.2.2))))) (λhb=>?_)
 have ij:Sz.sz p<=536870912:=hp;simp only[id,List.drop_zero,List.take_length];refine⟨by unfold Qs;omega,?_⟩;by_cases h0:0<p.2.1.length
 case neg =>
  refine Nr _ _ _ _ _ _ _ ?_
  conv=>zeta
  simp only[List.drop_zero,List.take_length];refine⟨λh=>by simp at h;omega,λ_=>au ?_⟩;unfold Zy;rw[if_neg h0]
 have hM:(Zy p n)=nD 0 (min n.toNat 2000) p:=by unfold Zy;rw[if_pos h0]
 have key:∀(rem k:Nat)(q:Qk),k+rem=min n.toNat 2000->q.2.1.length=p.2.1.length->Sz.sz q<=536870912+100*k->nD k rem q=(Zy p n)->Dl (λr'=>r'=Dk (Zy p n)) n (k:Int) q.1 q.2.1 q.2.2.1 q.2.2.2:=by
  intro rem
  induction rem with
  | zero =>
   intro k q h1 h2 h3 he;refine Nr _ _ _ _ _ _ _ ?_
   conv=>zeta
   simp only[List.drop_zero,List.take_length];refine⟨λh=>by simp at h;omega,λ_=>au ?_⟩;exact he
  | succ rem ih =>
   intro k q h1 h2 h3 he;have zf:=Mu q (Int.tmod (k:Int) (q.2.1.length:Int));have hc:(decide ((k:Int)<n)&&decide ((k:Int)<2000)&&decide ((q.2.1.length:Int)>0))=true:=by simp only[Bool.and_eq_true,decide_eq_true_eq];omega
   refine Nr _ _ _ _ _ _ _ ?_
   conv=>zeta
   simp only[List.drop_zero,List.take_length];refine⟨λ_=>?_,λh=>absurd (hc.symm.trans h) (by simp)⟩;rw[dL (by omega)];exact⟨⟨by omega,by unfold pj;show Sz.sz q<=_;omega⟩,ih (k+1) (ZM q (Int.tmod (k:Int) (q.2.1.length:Int))) (by omega) (by rw[<- h2];exact QEU q _) (by omega) he⟩
 exact key (min n.toNat 2000) 0 p (by omega) rfl (by omega) hM.symm
theorem QQc:Qf Tryz.prog Np:=Qi λx h=>QS1 x.1 x.2.1 h
def Dm(t:Qk):aB:=fZ (.a (aS.cells QM t))
def Ns:aI:=Qg 51 [(.a QM),(.c TI)] λx=>(some (sv x.1 x.2.1),Dm (Zy x.1 x.2.1))
def Nt:aF:=⟨[C6,Nm],false⟩
def QuL:af :=
 (ag [(ag [(.ae [ab 9 6,ab 10 1,aw 11 .lss 9 10,ab 12 11,.bt 12 true [ab 13 6,aw 14 .lss 13 (aq 2000)] 15 14,ab 16 15,.bt 16 true [ak 17 2 1,an 18 17 1,ba 19 18,aw 20 .gtr 19 (aq 0)] 21 20]),(.cond 21 .skip (.exit 0))]),(.block 1 (.draw [a8 24 5 4,ab 25 6,ak 26 2 1,an 27 26 1,ba 28 27,aw 29 .rem 25 28,aD 30 49 [24,29],aU 5 30 4] [])),(.ae [ab 22 6,aw 23 .add 22 (aq 1),ab 6 23])])
def QEW:List (Nat × Md):=[(1,.one .d),(2,.b (dG 4)),(4,.b (dG 4)),(5,.b (dG 4)),(6,.one .d)]
def QxW:af :=
 (ag [(.ae [a8 31 5 4,aU 4 31 4]),.ret])
def QTQ:af :=
 (ag [(.ae [aC 2 (.box 56 0 4),aC 4 (.new 56 (bG QM))]),(.ae [a8 7 2 4,aD 8 143 [7],aC 5 (.new 56 (bG QM)),aU 5 8 4]),(ag [(.ae [ab 6 (aq 0)]),(.block 0 (.loop QEW QuL))]),QxW])
def QwM:List (bn × Md):=[(.l 4 4 true,.b (dG 4))]
def Qwg:Qb:=TQ 0 0 QwM K
def QFI:Qb:=aY (aO Nt 0 QxW (Qwg K)) (Qwg K)
def QSt:Qb:=a7 0 (QFI K)
def Dn(p:Qk)(n:Int)(i:Int)(x0:List Qo)(x1:List Qc)(x2:List Qd)(x3:List Qd):Prop:=Loop Nt 0 QEW QuL (QSt K) ⟨[(1,(aL n)),(2,(.p 0 0 0)),(4,(.p 1 0 0)),(5,(.p 2 0 0)),(6,(aL i))],[(0,(.box (aS.cells QM p))),(1,(.box (aS.cells QM ([],[],[],[])))),(2,(.box (aS.cells QM (x0,x1,x2,x3))))],3⟩
theorem Nu(p:Qk)(n:Int)(i:Int)(x0:List Qo)(x1:List Qc)(x2:List Qd)(x3:List Qd) (h :
 (aJ (((decide (i<n))&&(decide (i<2000)))&&(decide (((p.2.1).length:Int)>0))) (((¬ (((p.2.1).length:Int):Int)=0)/\(pj (x0,x1,x2,x3) (Int.tmod i ((p.2.1).length:Int))))/\(Dn K p n (aG (i+1)) ((ZM (x0,x1,x2,x3) (Int.tmod i ((p.2.1).length:Int))).1) (List.take (((ZM (x0,x1,x2,x3) (Int.tmod i ((p.2.1).length:Int))).2.1).length) (List.drop 0 ((ZM (x0,x1,x2,x3) (Int.tmod i ((p.2.1).length:Int))).2.1))) (List.take (((ZM (x0,x1,x2,x3) (Int.tmod i ((p.2.1).length:Int))).2.2.1).length) (List.drop 0 ((ZM (x0,x1,x2,x3) (Int.tmod i ((p.2.1).length:Int))).2.2.1))) ((ZM (x0,x1,x2,x3) (Int.tmod i ((p.2.1).length:Int))).2.2.2))) (K (Dm (x0,x1,x2,x3))))):Dn K p n i x0 x1 x2 x3 :=
 Loop.of h
theorem QM2(p:Qk)(n:Int)(hp:sv p n):aK Tryz.prog 51 [(.a (aS.cells QM p)),(.c TI n)] (Dm (Zy p n)):=by
 refine bz Nt QTQ QwM 0 0 32 Ns (kc QDj (kc QUS kn)) (λK =>
 ((Qs (α:=Qk) p)/\(Dn K p n 0 ((id (α:=Qk) p).1) (List.take (((id (α:=Qk) p).2.1).length) (List.drop 0 ((id (α:=Qk) p).2.1))) (List.take (((id (α:=Qk) p).2.2.1).length) (List.drop 0 ((id (α:=Qk) p).2.2.1))) (List.take (((id (α:=Qk) p).2.2.2).length) (List.drop 0 ((id (α:=Qk) p).2.2.2)))))) (λhb=>?_)
 have ij:Sz.sz p<=536870912:=hp;simp only[id,List.drop_zero,List.take_length];refine⟨by unfold Qs;omega,?_⟩;by_cases h0:0<p.2.1.length
 case neg =>
  refine Nu _ _ _ _ _ _ _ _ ⟨λh=>by simp at h;omega,λ_=>au ?_⟩;unfold Zy;rw[if_neg h0]
 have hM:(Zy p n)=nD 0 (min n.toNat 2000) p:=by unfold Zy;rw[if_pos h0]
 have key:∀(rem k:Nat)(q:Qk),k+rem=min n.toNat 2000->q.2.1.length=p.2.1.length->Sz.sz q<=536870912+100*k->nD k rem q=(Zy p n)->Dn (λr'=>r'=Dm (Zy p n)) p n (k:Int) q.1 q.2.1 q.2.2.1 q.2.2.2:=by
  intro rem
  induction rem with
  | zero =>
   intro k q h1 h2 h3 he;refine Nu _ _ _ _ _ _ _ _ ⟨λh=>by simp at h;omega,λ_=>au ?_⟩;exact he
  | succ rem ih =>
   intro k q h1 h2 h3 he;have zf:=Mu q (Int.tmod (k:Int) (q.2.1.length:Int));have hc:(decide ((k:Int)<n)&&decide ((k:Int)<2000)&&decide ((p.2.1.length:Int)>0))=true:=by simp only[Bool.and_eq_true,decide_eq_true_eq];omega
   refine Nu _ _ _ _ _ _ _ _ ⟨λ_=>?_,λh=>absurd (hc.symm.trans h) (by simp)⟩
   try simp only[xn]
   rw[dL (by omega),<- h2];exact⟨⟨by omega,by unfold pj;show Sz.sz q<=_;omega⟩,ih (k+1) (ZM q (Int.tmod (k:Int) (q.2.1.length:Int))) (by omega) (by rw[<- h2];exact QEU q _) (by omega) he⟩
 exact key (min n.toNat 2000) 0 p (by omega) rfl (by omega) hM.symm
theorem QXq:Qf Tryz.prog Ns:=Qi λx h=>QM2 x.1 x.2.1 h
end
end Go.Proofs.YtdplaepmjogjjaaGreat.Am

namespace Go.Proofs.YtdplaepmjogjjaaGreat.Am
open Go Go.RowKit Go.Proofs.YtdplaepmjogjjaaGreat
set_option linter.all false
noncomputable section
variable (K:aB->Prop)
def uO(t:Int × (List Int)):aB:=⟨(aL t.1),[],[],true,[(.sl 0 [TI] (.dp 0 false []) t.2)]⟩
def sC:aI:=Qg 26 [(.d [TI]),(.c TI)] λx=>(none,uO (QT (α:=List Int) x.1 x.2.1))
def Nv:aF:=⟨[],true⟩
def Qxz:af :=
 (ag [(ag [(.ae [ab 6 5,ab 7 0,ba 8 7,aw 9 .lss 6 8]),(.cond 9 .skip (.exit 0))]),(.block 1 (ag [(.ae [ab 12 0,ab 13 5,ab 14 1,a0 15 12 13 [TI],aU 15 14 1]),(.ae [ab 16 1,aw 17 .add 16 (aq 1),ab 1 17])])),(.ae [ab 10 5,aw 11 .add 10 (aq 1),ab 5 11])])
def Qvt:List (Nat × Md):=[(0,.one .f),(1,.one .d),(5,.one .d)]
def QDm:af :=
 (ag [(.ae [ab 18 1,ab 4 18]),.ret])
def QTM:af :=
 (ag [(.ae [ab 4 (aq 0)]),(ag [(.ae [ab 5 (aq 0)]),(.block 0 (.loop Qvt Qxz))]),QDm])
def QE0:List (bn × Md):=[(.t 4,.one .d)]
def QAI:Qb:=TQ 0 1 QE0 K
def QIg:Qb:=aY (aO Nv 1 QDm (QAI K)) (QAI K)
def QUg:Qb:=a7 0 (QIg K)
def Dp(a:List Int)(k1:Int)(i:Int)(a1:List Int):Prop:=Loop Nv 1 Qvt Qxz (QUg K) ⟨[(0,(.r [TI] 0 0 a.length)),(1,(aL k1)),(5,(aL i))],[(0,(.sl 0 [TI] (.dp 0 false []) a1))],1⟩
theorem Qtd(a:List Int)(k1:Int)(i:Int)(a1:List Int) (h :
 (aJ (decide (i<((a.length:Nat):Int))) (((0<=i/\Int.toNat i<a.length)/\((0+(Int.toNat i))<a1.length))/\(Dp K a (aG (k1+1)) (aG (i+1)) ((a1).set (0+(Int.toNat i)) k1))) (K (uO (k1,a1))))):Dp K a k1 i a1 :=
 Loop.of h
theorem QUU(a:List Int)(k:Int):aK Tryz.prog 26 [(.ow 0 [TI] dw a),(.c TI k)] (uO (QT (α:=List Int) a k)):=by
 refine bz Nv QTM QE0 0 1 19 sC kn (λK =>
 (Dp K a k 0 a)) (λhb=>?_)
 have ff:a.length<=9223372036854775807:=hb.1.1;refine nJ (A:=λkk ii ll=>Dp (λr'=>r'=uO (QT (α:=List Int) a k)) a kk ii ll) (Q:=λz=>uO z=uO (QT (α:=List Int) a k)) a k ?_ ?_ rfl
 ·intro kk pre post x hl hA;have aW:pre.length<a.length:=by omega
  have hw:aG (((pre.length:Nat):Int)+1)=((pre.length+1:Nat):Int):=by rw[QG (by omega) (by omega)];omega
  refine Qtd _ _ _ _ _ ?_;refine⟨λ_=>?_,λh=>absurd h (by simp;omega)⟩;simp only[Int.toNat_natCast,Nat.zero_add,J5,nG,Ya,J6,hw,iJ,aW,Yp,and_true,true_and,Int.natCast_nonneg];exact hA
 ·intro kk l hl hq;refine Qtd _ _ _ _ _ ?_;exact⟨λh=>absurd h (by simp),λ_=>hq⟩
theorem y1:Qf Tryz.prog sC:=Qi λx _=>QUU x.1 x.2.1
def sE(t:Int):aB:=b6 (aL t)
def sF:aI:=Qg 27 [(.c (.sl [TI])),(.c TI)] λx=>(some (Q5 (α:=List Int) x.1 x.2.1),sE (aT (α:=List Int) x.1 x.2.1))
def Nw:aF:=⟨[],false⟩
def QEy:af :=
 (ag [(ag [(.ae [ab 6 5,ab 7 0,ba 8 7,aw 9 .lss 6 8]),(.cond 9 .skip (.exit 0))]),(.block 1 (ag [(ag [(.ae [ab 12 0,ab 13 5,a0 14 12 13 [TI],an 15 14 1,ab 16 1,aw 17 .neq 15 16]),(.cond 17 (ag [(.ae [ab 4 (aq (-1))]),.ret]) .skip)]),(.ae [ab 18 1,aw 19 .add 18 (aq 1),ab 1 19])])),(.ae [ab 10 5,aw 11 .add 10 (aq 1),ab 5 11])])
def QDB:List (Nat × Md):=eV [0,1,5]
def QBP:af :=
 (ag [(.ae [ab 20 1,ab 4 20]),.ret])
def QSq:af :=
 (ag [(.ae [ab 4 (aq 0)]),(ag [(.ae [ab 5 (aq 0)]),(.block 0 (.loop QDB QEy))]),QBP])
def QxN:List (bn × Md):=[(.t 4,.one .d)]
def QBO:Qb:=TQ 0 0 QxN K
def QTO:Qb:=aY (aO Nw 0 QBP (QBO K)) (QBO K)
def QIK:Qb:=a7 0 (QTO K)
def Dq(a:List Int)(k1:Int)(i:Int):Prop:=Loop Nw 0 QDB QEy (QIK K) ⟨[(0,(bg [TI] a)),(1,(aL k1)),(5,(aL i))],[],0⟩
theorem Qz2(a:List Int)(k1:Int)(i:Int) (h :
 (aJ (decide (i<(a.length:Int))) ((0<=i/\Int.toNat i<a.length)/\(aJ ((ar (0:Int) a (Int.toNat i)) != k1) (K (sE (-1:Int))) (Dq K a (aG (k1+1)) (aG (i+1))))) (K (sE k1)))):Dq K a k1 i :=
 Loop.of h
theorem QXK(a:List Int)(k:Int)(hp:Q5 (α:=List Int) a k):aK Tryz.prog 27 [(.c (.sl [TI]) a),(.c TI k)] (sE (aT (α:=List Int) a k)):=by
 refine bz Nw QSq QxN 0 0 21 sF kn (λK =>
 (Dq K a k 0)) (λhb=>?_)
 have ff:a.length<=9223372036854775807:=hb.1.1;refine nK (A:=λkk ii=>Dq (λr'=>r'=sE (aT (α:=List Int) a k)) a kk ii) (Q:=λz=>sE z=sE (aT (α:=List Int) a k)) a k hp ?_ ?_ rfl
 ·intro kk pre post x ha fQ cm dj;have aW:pre.length<a.length:=by rw[ha];simp
  have hg:∀ d,ar d a pre.length=x:=λd=>by rw[ha];exact Ya d pre post x
  have hw:aG (((pre.length:Nat):Int)+1)=((pre.length+1:Nat):Int):=by rw[QG (by omega) (by omega)];omega
  refine Qz2 _ _ _ _ ?_;refine⟨λ_=>?_,λh=>absurd h (by simp;omega)⟩;simp only[Int.toNat_natCast,hg,hw,aW,Yp,and_true,true_and,Int.natCast_nonneg];simp only[o3,o4,o5,Prod.ext_iff]at cm dj;refine⟨λh=>cm (λe=>YS h (e).symm),λh0=>?_⟩;have e0:=(YW h0).symm;exact dj e0
 ·intro kk hq;refine Qz2 _ _ _ _ ?_;exact⟨λh=>absurd h (by simp),λ_=>hq⟩
theorem y2:Qf Tryz.prog sF:=Qi λx h=>QXK x.1 x.2.1 h
def uP(t:Int × (List (List Int))):aB:=⟨(aL t.1),[],[],true,[(.sl 0 [(.sl [TI])] (.dp 0 false []) t.2)]⟩
def Dr:aI:=Qg 82 [(.d [(.sl [TI])]),(.c TI)] λx=>(none,uP (QT (α:=List (List Int)) x.1 x.2.1))
def Nx:aF:=⟨[sC],true⟩
def Qsc:af :=
 (ag [(ag [(.ae [ab 6 5,ab 7 0,ba 8 7,aw 9 .lss 6 8]),(.cond 9 .skip (.exit 0))]),(.block 1 (.ae [ab 12 0,ab 13 5,a0 14 12 13 [(.sl [TI])],ak 15 14 0,an 16 15 1,ab 17 1,aD 18 26 [16,17],ab 1 18])),(.ae [ab 10 5,aw 11 .add 10 (aq 1),ab 5 11])])
def QDk:List (Nat × Md):=[(0,.one .f),(1,.one .d),(5,.one .d)]
def Qws:af :=
 (ag [(.ae [ab 19 1,ab 4 19]),.ret])
def QXt:af :=
 (ag [(.ae [ab 4 (aq 0)]),(ag [(.ae [ab 5 (aq 0)]),(.block 0 (.loop QDk Qsc))]),Qws])
def Qvv:List (bn × Md):=[(.t 4,.one .d)]
def Qrh:Qb:=TQ 0 1 Qvv K
def QNQ:Qb:=aY (aO Nx 1 Qws (Qrh K)) (Qrh K)
def QWS:Qb:=a7 0 (QNQ K)
def Ds(a:List (List Int))(k1:Int)(i:Int)(a1:List (List Int)):Prop:=Loop Nx 1 QDk Qsc (QWS K) ⟨[(0,(.r [(.sl [TI])] 0 0 a.length)),(1,(aL k1)),(5,(aL i))],[(0,(.sl 0 [(.sl [TI])] (.dp 0 false []) a1))],1⟩
theorem QB1(a:List (List Int))(k1:Int)(i:Int)(a1:List (List Int)) (h :
 (aJ (decide (i<((a.length:Nat):Int))) (((0<=i/\Int.toNat i<a.length)/\(((0+(Int.toNat i))<a1.length)/\((0+(Int.toNat i))<a1.length)))/\(Ds K a ((f8 ([]:List Int) (0+(Int.toNat i)) (λe_=>e_) (λe_ y_=>y_) (QT (α:=List Int)) (k1,a1)).1) (aG (i+1)) ((f8 ([]:List Int) (0+(Int.toNat i)) (λe_=>e_) (λe_ y_=>y_) (QT (α:=List Int)) (k1,a1)).2))) (K (uP (k1,a1))))):Ds K a k1 i a1 :=
 Loop.of h
theorem QXi(a:List (List Int))(k:Int):aK Tryz.prog 82 [(.ow 0 [(.sl [TI])] dw a),(.c TI k)] (uP (QT (α:=List (List Int)) a k)):=by
 refine bz Nx QXt Qvv 0 1 20 Dr (kc y1 kn) (λK =>
 (Ds K a k 0 a)) (λhb=>?_)
 have ff:a.length<=9223372036854775807:=hb.1.1;refine nJ (A:=λkk ii ll=>Ds (λr'=>r'=uP (QT (α:=List (List Int)) a k)) a kk ii ll) (Q:=λz=>uP z=uP (QT (α:=List (List Int)) a k)) a k ?_ ?_ rfl
 ·intro kk pre post x hl hA;have aW:pre.length<a.length:=by omega
  have hw:aG (((pre.length:Nat):Int)+1)=((pre.length+1:Nat):Int):=by rw[QG (by omega) (by omega)];omega
  refine QB1 _ _ _ _ _ ?_;refine⟨λ_=>?_,λh=>absurd h (by simp;omega)⟩;simp only[Int.toNat_natCast,Nat.zero_add,J5,nG,Ya,J6,hw,iJ,aW,Yp,and_true,true_and,Int.natCast_nonneg];exact hA
 ·intro kk l hl hq;refine QB1 _ _ _ _ _ ?_;exact⟨λh=>absurd h (by simp),λ_=>hq⟩
theorem QsD:Qf Tryz.prog Dr:=Qi λx _=>QXi x.1 x.2.1
def sH(t:Int):aB:=b6 (aL t)
def Dt:aI:=Qg 86 [(.c (.sl [(.sl [TI])])),(.c TI)] λx=>(some (Q5 (α:=List (List Int)) x.1 x.2.1),sH (aT (α:=List (List Int)) x.1 x.2.1))
def Ny:aF:=⟨[sF],false⟩
def QBp:af :=
 (ag [(ag [(.ae [ab 6 5,ab 7 0,ba 8 7,aw 9 .lss 6 8]),(.cond 9 .skip (.exit 0))]),(.block 1 (ag [(.ae [ab 12 0,ab 13 5,a0 14 12 13 [(.sl [TI])],ak 15 14 0,an 16 15 1,ab 17 1,aD 18 27 [16,17],ab 1 18]),(.ae [ab 19 1,aw 20 .lss 19 (aq 0)]),(.cond 20 (ag [(.ae [ab 4 (aq (-1))]),.ret]) .skip)])),(.ae [ab 10 5,aw 11 .add 10 (aq 1),ab 5 11])])
def QA0:List (Nat × Md):=eV [0,1,5]
def QC9:af :=
 (ag [(.ae [ab 21 1,ab 4 21]),.ret])
def QRk:af :=
 (ag [(.ae [ab 4 (aq 0)]),(ag [(.ae [ab 5 (aq 0)]),(.block 0 (.loop QA0 QBp))]),QC9])
def QDF:List (bn × Md):=[(.t 4,.one .d)]
def QwS:Qb:=TQ 0 0 QDF K
def QFz:Qb:=aY (aO Ny 0 QC9 (QwS K)) (QwS K)
def QYw:Qb:=a7 0 (QFz K)
def Du(a:List (List Int))(k1:Int)(i:Int):Prop:=Loop Ny 0 QA0 QBp (QYw K) ⟨[(0,(bg [(.sl [TI])] a)),(1,(aL k1)),(5,(aL i))],[],0⟩
theorem QwX(a:List (List Int))(k1:Int)(i:Int) (h :
 (aJ (decide (i<(a.length:Int))) (((0<=i/\Int.toNat i<a.length)/\(Q5 (α:=List Int) (ar ([]:List Int) a (Int.toNat i)) k1))/\(aJ (decide ((aT (α:=List Int) (ar ([]:List Int) a (Int.toNat i)) k1)<0)) (K (sH (-1:Int))) (Du K a (aT (α:=List Int) (ar ([]:List Int) a (Int.toNat i)) k1) (aG (i+1))))) (K (sH k1)))):Du K a k1 i :=
 Loop.of h
theorem QQy(a:List (List Int))(k:Int)(hp:Q5 (α:=List (List Int)) a k):aK Tryz.prog 86 [(.c (.sl [(.sl [TI])]) a),(.c TI k)] (sH (aT (α:=List (List Int)) a k)):=by
 refine bz Ny QRk QDF 0 0 22 Dt (kc y2 kn) (λK =>
 (Du K a k 0)) (λhb=>?_)
 have ff:a.length<=9223372036854775807:=hb.1.1;refine nK (A:=λkk ii=>Du (λr'=>r'=sH (aT (α:=List (List Int)) a k)) a kk ii) (Q:=λz=>sH z=sH (aT (α:=List (List Int)) a k)) a k hp ?_ ?_ rfl
 ·intro kk pre post x ha fQ cm dj;have aW:pre.length<a.length:=by rw[ha];simp
  have hg:∀ d,ar d a pre.length=x:=λd=>by rw[ha];exact Ya d pre post x
  have hw:aG (((pre.length:Nat):Int)+1)=((pre.length+1:Nat):Int):=by rw[QG (by omega) (by omega)];omega
  refine QwX _ _ _ _ ?_;refine⟨λ_=>?_,λh=>absurd h (by simp;omega)⟩;simp only[Int.toNat_natCast,hg,hw,aW,Yp,and_true,true_and,Int.natCast_nonneg];refine⟨fQ,λh=>cm (λe=>Z9 fQ (of_decide_eq_true h) (e)),λh0=>?_⟩;obtain⟨e0,h0⟩:=Z8 (of_decide_eq_false h0);rw[h0];exact dj e0
 ·intro kk hq;refine QwX _ _ _ _ ?_;exact⟨λh=>absurd h (by simp),λ_=>hq⟩
theorem QCi:Qf Tryz.prog Dt:=Qi λx h=>QQy x.1 x.2.1 h
def uQ(t:Int × (List bu)):aB:=⟨(aL t.1),[],[],true,[(.sl 0 QP (.dp 0 false []) t.2)]⟩
def Nz:aI:=Qg 79 [(.d QP),(.c TI)] λx=>(none,uQ (QT (α:=List bu) x.1 x.2.1))
def NA:aF:=⟨[],true⟩
def Qvd:af :=
 (ag [(ag [(.ae [ab 6 5,ab 7 0,ba 8 7,aw 9 .lss 6 8]),(.cond 9 .skip (.exit 0))]),(.block 1 (ag [(.ae [ab 12 0,ab 13 5,ab 14 1,a0 15 12 13 QP,ak 16 15 0,aU 16 14 1]),(.ae [ab 17 1,aw 18 .add 17 (aq 1),ab 1 18]),(.ae [ab 19 0,ab 20 5,ab 21 1,a0 22 19 20 QP,ak 23 22 1,aU 23 21 1]),(.ae [ab 24 1,aw 25 .add 24 (aq 1),ab 1 25])])),(.ae [ab 10 5,aw 11 .add 10 (aq 1),ab 5 11])])
def QsI:List (Nat × Md):=[(0,.one .f),(1,.one .d),(5,.one .d)]
def Qwn:af :=
 (ag [(.ae [ab 26 1,ab 4 26]),.ret])
def QIX:af :=
 (ag [(.ae [ab 4 (aq 0)]),(ag [(.ae [ab 5 (aq 0)]),(.block 0 (.loop QsI Qvd))]),Qwn])
def Qy2:List (bn × Md):=[(.t 4,.one .d)]
def QvE:Qb:=TQ 0 1 Qy2 K
def QXe:Qb:=aY (aO NA 1 Qwn (QvE K)) (QvE K)
def QGj:Qb:=a7 0 (QXe K)
def Dv(a:List bu)(k1:Int)(i:Int)(a1:List bu):Prop:=Loop NA 1 QsI Qvd (QGj K) ⟨[(0,(.r QP 0 0 a.length)),(1,(aL k1)),(5,(aL i))],[(0,(.sl 0 QP (.dp 0 false []) a1))],1⟩
theorem Quk(a:List bu)(k1:Int)(i:Int)(a1:List bu) (h :
 (aJ (decide (i<((a.length:Nat):Int))) (((0<=i/\Int.toNat i<a.length)/\((0+(Int.toNat i))<a1.length))/\(((0<=i/\Int.toNat i<a.length)/\((0+(Int.toNat i))<((gu eF (0+(Int.toNat i)) (λe_ k_=>(k_,e_.2)) (k1,a1)).2).length))/\(Dv K a (aG ((aG (k1+1))+1)) (aG (i+1)) ((gu eF (0+(Int.toNat i)) (λe_ k_=>(e_.1,k_)) (gu eF (0+(Int.toNat i)) (λe_ k_=>(k_,e_.2)) (k1,a1))).2)))) (K (uQ (k1,a1))))):Dv K a k1 i a1 :=
 Loop.of h
theorem QGp(a:List bu)(k:Int):aK Tryz.prog 79 [(.ow 0 QP dw a),(.c TI k)] (uQ (QT (α:=List bu) a k)):=by
 refine bz NA QIX Qy2 0 1 27 Nz kn (λK =>
 (Dv K a k 0 a)) (λhb=>?_)
 have ff:a.length<=9223372036854775807:=hb.1.1;refine nJ (A:=λkk ii ll=>Dv (λr'=>r'=uQ (QT (α:=List bu) a k)) a kk ii ll) (Q:=λz=>uQ z=uQ (QT (α:=List bu) a k)) a k ?_ ?_ rfl
 ·intro kk pre post x hl hA;have aW:pre.length<a.length:=by omega
  have hw:aG (((pre.length:Nat):Int)+1)=((pre.length+1:Nat):Int):=by rw[QG (by omega) (by omega)];omega
  refine Quk _ _ _ _ _ ?_;refine⟨λ_=>?_,λh=>absurd h (by simp;omega)⟩;simp only[Int.toNat_natCast,Nat.zero_add,J5,nG,Ya,J6,hw,iJ,aW,Yp,and_true,true_and,Int.natCast_nonneg];exact hA
 ·intro kk l hl hq;refine Quk _ _ _ _ _ ?_;exact⟨λh=>absurd h (by simp),λ_=>hq⟩
theorem QM5:Qf Tryz.prog Nz:=Qi λx _=>QGp x.1 x.2.1
def pI(t:Int):aB:=b6 (aL t)
def NB:aI:=Qg 83 [(.c (.sl QP)),(.c TI)] λx=>(some (Q5 (α:=List bu) x.1 x.2.1),pI (aT (α:=List bu) x.1 x.2.1))
def NC:aF:=⟨[],false⟩
def QB0:af :=
 (ag [(ag [(.ae [ab 6 5,ab 7 0,ba 8 7,aw 9 .lss 6 8]),(.cond 9 .skip (.exit 0))]),(.block 1 (ag [(ag [(.ae [ab 12 0,ab 13 5,a0 14 12 13 QP,ak 15 14 0,an 16 15 1,ab 17 1,aw 18 .neq 16 17]),(.cond 18 (ag [(.ae [ab 4 (aq (-1))]),.ret]) .skip)]),(.ae [ab 19 1,aw 20 .add 19 (aq 1),ab 1 20]),(ag [(.ae [ab 21 0,ab 22 5,a0 23 21 22 QP,ak 24 23 1,an 25 24 1,ab 26 1,aw 27 .neq 25 26]),(.cond 27 (ag [(.ae [ab 4 (aq (-1))]),.ret]) .skip)]),(.ae [ab 28 1,aw 29 .add 28 (aq 1),ab 1 29])])),(.ae [ab 10 5,aw 11 .add 10 (aq 1),ab 5 11])])
def QzU:List (Nat × Md):=eV [0,1,5]
def Qs0:af :=
 (ag [(.ae [ab 30 1,ab 4 30]),.ret])
def QSo:af :=
 (ag [(.ae [ab 4 (aq 0)]),(ag [(.ae [ab 5 (aq 0)]),(.block 0 (.loop QzU QB0))]),Qs0])
def QBK:List (bn × Md):=[(.t 4,.one .d)]
def Qq0:Qb:=TQ 0 0 QBK K
def QJX:Qb:=aY (aO NC 0 Qs0 (Qq0 K)) (Qq0 K)
def QJn:Qb:=a7 0 (QJX K)
def Dw(a:List bu)(k1:Int)(i:Int):Prop:=Loop NC 0 QzU QB0 (QJn K) ⟨[(0,(bg QP a)),(1,(aL k1)),(5,(aL i))],[],0⟩
theorem QBz(a:List bu)(k1:Int)(i:Int) (h :
 (aJ (decide (i<(a.length:Int))) ((0<=i/\Int.toNat i<a.length)/\(aJ (((ar eF a (Int.toNat i)).1) != k1) (K (pI (-1:Int))) ((0<=i/\Int.toNat i<a.length)/\(aJ (((ar eF a (Int.toNat i)).2) != (aG (k1+1))) (K (pI (-1:Int))) (Dw K a (aG ((aG (k1+1))+1)) (aG (i+1))))))) (K (pI k1)))):Dw K a k1 i :=
 Loop.of h
theorem QMj(a:List bu)(k:Int)(hp:Q5 (α:=List bu) a k):aK Tryz.prog 83 [(.c (.sl QP) a),(.c TI k)] (pI (aT (α:=List bu) a k)):=by
 refine bz NC QSo QBK 0 0 31 NB kn (λK =>
 (Dw K a k 0)) (λhb=>?_)
 have ff:a.length<=9223372036854775807:=hb.1.1;refine nK (A:=λkk ii=>Dw (λr'=>r'=pI (aT (α:=List bu) a k)) a kk ii) (Q:=λz=>pI z=pI (aT (α:=List bu) a k)) a k hp ?_ ?_ rfl
 ·intro kk pre post x ha fQ cm dj;have aW:pre.length<a.length:=by rw[ha];simp
  have hg:∀ d,ar d a pre.length=x:=λd=>by rw[ha];exact Ya d pre post x
  have hw:aG (((pre.length:Nat):Int)+1)=((pre.length+1:Nat):Int):=by rw[QG (by omega) (by omega)];omega
  refine QBz _ _ _ _ ?_;refine⟨λ_=>?_,λh=>absurd h (by simp;omega)⟩;simp only[Int.toNat_natCast,hg,hw,aW,Yp,and_true,true_and,Int.natCast_nonneg];have gH:=(Zb fQ).1;have fL:=(Zb fQ).2;simp only[o3,o4,o5,Prod.ext_iff]at cm dj gH fL;refine⟨λh=>cm (λe=>YS h (e.1).symm),λh0=>?_⟩;have e0:=(YW h0).symm;refine⟨λh=>cm (λe=>YS h (e.2).symm),λh1=>?_⟩;have e1:=(YW h1).symm;exact dj ⟨e0,e1⟩
 ·intro kk hq;refine QBz _ _ _ _ ?_;exact⟨λh=>absurd h (by simp),λ_=>hq⟩
theorem QJH:Qf Tryz.prog NB:=Qi λx h=>QMj x.1 x.2.1 h
def uR(t:Int × (List Qm)):aB:=⟨(aL t.1),[],[],true,[(.sl 0 Qu (.dp 0 false []) t.2)]⟩
def ND:aI:=Qg 182 [(.d Qu),(.c TI)] λx=>(none,uR (QT (α:=List Qm) x.1 x.2.1))
def NF:aF:=⟨[sC],true⟩
def Qy7:af :=
 (ag [(ag [(.ae [ab 6 5,ab 7 0,ba 8 7,aw 9 .lss 6 8]),(.cond 9 .skip (.exit 0))]),(.block 1 (ag [(.ae [ab 12 0,ab 13 5,ab 14 1,a0 15 12 13 Qu,ak 16 15 0,aU 16 14 1]),(.ae [ab 17 1,aw 18 .add 17 (aq 1),ab 1 18]),(.ae [ab 19 0,ab 20 5,a0 21 19 20 Qu,ak 22 21 1,an 23 22 1,ab 24 1,aD 25 26 [23,24],ab 1 25])])),(.ae [ab 10 5,aw 11 .add 10 (aq 1),ab 5 11])])
def QyE:List (Nat × Md):=[(0,.one .f),(1,.one .d),(5,.one .d)]
def QsK:af :=
 (ag [(.ae [ab 26 1,ab 4 26]),.ret])
def QOp:af :=
 (ag [(.ae [ab 4 (aq 0)]),(ag [(.ae [ab 5 (aq 0)]),(.block 0 (.loop QyE Qy7))]),QsK])
def Qsp:List (bn × Md):=[(.t 4,.one .d)]
def Qur:Qb:=TQ 0 1 Qsp K
def QXj:Qb:=aY (aO NF 1 QsK (Qur K)) (Qur K)
def QUj:Qb:=a7 0 (QXj K)
def Dx(a:List Qm)(k1:Int)(i:Int)(a1:List Qm):Prop:=Loop NF 1 QyE Qy7 (QUj K) ⟨[(0,(.r Qu 0 0 a.length)),(1,(aL k1)),(5,(aL i))],[(0,(.sl 0 Qu (.dp 0 false []) a1))],1⟩
theorem QyL(a:List Qm)(k1:Int)(i:Int)(a1:List Qm) (h :
 (aJ (decide (i<((a.length:Nat):Int))) (((0<=i/\Int.toNat i<a.length)/\((0+(Int.toNat i))<a1.length))/\(((0<=i/\Int.toNat i<a.length)/\(((0+(Int.toNat i))<((gu ((0,[]):Qm) (0+(Int.toNat i)) (λe_ k_=>(k_,e_.2)) (k1,a1)).2).length)/\((0+(Int.toNat i))<((gu ((0,[]):Qm) (0+(Int.toNat i)) (λe_ k_=>(k_,e_.2)) (k1,a1)).2).length)))/\(Dx K a ((f8 ((0,[]):Qm) (0+(Int.toNat i)) (λe_=>e_.2) (λe_ y_=>(e_.1,y_)) (QT (α:=List Int)) (gu ((0,[]):Qm) (0+(Int.toNat i)) (λe_ k_=>(k_,e_.2)) (k1,a1))).1) (aG (i+1)) ((f8 ((0,[]):Qm) (0+(Int.toNat i)) (λe_=>e_.2) (λe_ y_=>(e_.1,y_)) (QT (α:=List Int)) (gu ((0,[]):Qm) (0+(Int.toNat i)) (λe_ k_=>(k_,e_.2)) (k1,a1))).2)))) (K (uR (k1,a1))))):Dx K a k1 i a1 :=
 Loop.of h
theorem QJQ(a:List Qm)(k:Int):aK Tryz.prog 182 [(.ow 0 Qu dw a),(.c TI k)] (uR (QT (α:=List Qm) a k)):=by
 refine bz NF QOp Qsp 0 1 27 ND (kc y1 kn) (λK =>
 (Dx K a k 0 a)) (λhb=>?_)
 have ff:a.length<=9223372036854775807:=hb.1.1;refine nJ (A:=λkk ii ll=>Dx (λr'=>r'=uR (QT (α:=List Qm) a k)) a kk ii ll) (Q:=λz=>uR z=uR (QT (α:=List Qm) a k)) a k ?_ ?_ rfl
 ·intro kk pre post x hl hA;have aW:pre.length<a.length:=by omega
  have hw:aG (((pre.length:Nat):Int)+1)=((pre.length+1:Nat):Int):=by rw[QG (by omega) (by omega)];omega
  refine QyL _ _ _ _ _ ?_;refine⟨λ_=>?_,λh=>absurd h (by simp;omega)⟩;simp only[Int.toNat_natCast,Nat.zero_add,J5,nG,Ya,J6,hw,iJ,aW,Yp,and_true,true_and,Int.natCast_nonneg];exact hA
 ·intro kk l hl hq;refine QyL _ _ _ _ _ ?_;exact⟨λh=>absurd h (by simp),λ_=>hq⟩
theorem QV1:Qf Tryz.prog ND:=Qi λx _=>QJQ x.1 x.2.1
def pJ(t:Int):aB:=b6 (aL t)
def NG:aI:=Qg 214 [(.c (.sl Qu)),(.c TI)] λx=>(some (Q5 (α:=List Qm) x.1 x.2.1),pJ (aT (α:=List Qm) x.1 x.2.1))
def NH:aF:=⟨[sF],false⟩
def Qyp:af :=
 (ag [(ag [(.ae [ab 6 5,ab 7 0,ba 8 7,aw 9 .lss 6 8]),(.cond 9 .skip (.exit 0))]),(.block 1 (ag [(ag [(.ae [ab 12 0,ab 13 5,a0 14 12 13 Qu,ak 15 14 0,an 16 15 1,ab 17 1,aw 18 .neq 16 17]),(.cond 18 (ag [(.ae [ab 4 (aq (-1))]),.ret]) .skip)]),(.ae [ab 19 1,aw 20 .add 19 (aq 1),ab 1 20]),(.ae [ab 21 0,ab 22 5,a0 23 21 22 Qu,ak 24 23 1,an 25 24 1,ab 26 1,aD 27 27 [25,26],ab 1 27]),(.ae [ab 28 1,aw 29 .lss 28 (aq 0)]),(.cond 29 (ag [(.ae [ab 4 (aq (-1))]),.ret]) .skip)])),(.ae [ab 10 5,aw 11 .add 10 (aq 1),ab 5 11])])
def QDs:List (Nat × Md):=eV [0,1,5]
def Qy8:af :=
 (ag [(.ae [ab 30 1,ab 4 30]),.ret])
def QPw:af :=
 (ag [(.ae [ab 4 (aq 0)]),(ag [(.ae [ab 5 (aq 0)]),(.block 0 (.loop QDs Qyp))]),Qy8])
def QrW:List (bn × Md):=[(.t 4,.one .d)]
def Qva:Qb:=TQ 0 0 QrW K
def QG8:Qb:=aY (aO NH 0 Qy8 (Qva K)) (Qva K)
def QSn:Qb:=a7 0 (QG8 K)
def Dy(a:List Qm)(k1:Int)(i:Int):Prop:=Loop NH 0 QDs Qyp (QSn K) ⟨[(0,(bg Qu a)),(1,(aL k1)),(5,(aL i))],[],0⟩
theorem Qrp(a:List Qm)(k1:Int)(i:Int) (h :
 (aJ (decide (i<(a.length:Int))) ((0<=i/\Int.toNat i<a.length)/\(aJ (((ar ((0,[]):Qm) a (Int.toNat i)).1) != k1) (K (pJ (-1:Int))) (((0<=i/\Int.toNat i<a.length)/\(Q5 (α:=List Int) ((ar ((0,[]):Qm) a (Int.toNat i)).2) (aG (k1+1))))/\(aJ (decide ((aT (α:=List Int) ((ar ((0,[]):Qm) a (Int.toNat i)).2) (aG (k1+1)))<0)) (K (pJ (-1:Int))) (Dy K a (aT (α:=List Int) ((ar ((0,[]):Qm) a (Int.toNat i)).2) (aG (k1+1))) (aG (i+1))))))) (K (pJ k1)))):Dy K a k1 i :=
 Loop.of h
theorem QNF(a:List Qm)(k:Int)(hp:Q5 (α:=List Qm) a k):aK Tryz.prog 214 [(.c (.sl Qu) a),(.c TI k)] (pJ (aT (α:=List Qm) a k)):=by
 refine bz NH QPw QrW 0 0 31 NG (kc y2 kn) (λK =>
 (Dy K a k 0)) (λhb=>?_)
 have ff:a.length<=9223372036854775807:=hb.1.1;refine nK (A:=λkk ii=>Dy (λr'=>r'=pJ (aT (α:=List Qm) a k)) a kk ii) (Q:=λz=>pJ z=pJ (aT (α:=List Qm) a k)) a k hp ?_ ?_ rfl
 ·intro kk pre post x ha fQ cm dj;have aW:pre.length<a.length:=by rw[ha];simp
  have hg:∀ d,ar d a pre.length=x:=λd=>by rw[ha];exact Ya d pre post x
  have hw:aG (((pre.length:Nat):Int)+1)=((pre.length+1:Nat):Int):=by rw[QG (by omega) (by omega)];omega
  refine Qrp _ _ _ _ ?_;refine⟨λ_=>?_,λh=>absurd h (by simp;omega)⟩;simp only[Int.toNat_natCast,hg,hw,aW,Yp,and_true,true_and,Int.natCast_nonneg];have gH:=(Zb fQ).1;have fL:=(Zb fQ).2;simp only[o3,o4,o5,Prod.ext_iff]at cm dj gH fL;refine⟨λh=>cm (λe=>YS h (e.1).symm),λh0=>?_⟩;have e0:=(YW h0).symm;refine⟨fL,λh=>cm (λe=>Z9 fL (of_decide_eq_true h) (e.2)),λh1=>?_⟩;obtain⟨e1,h1⟩:=Z8 (of_decide_eq_false h1);rw[h1];exact dj ⟨e0,e1⟩
 ·intro kk hq;refine Qrp _ _ _ _ ?_;exact⟨λh=>absurd h (by simp),λ_=>hq⟩
theorem QPY:Qf Tryz.prog NG:=Qi λx h=>QNF x.1 x.2.1 h
def uS(t:Int × (List aH)):aB:=⟨(aL t.1),[],[],true,[(.sl 0 aM (.dp 0 false []) t.2)]⟩
def NI:aI:=Qg 80 [(.d aM),(.c TI)] λx=>(none,uS (QT (α:=List aH) x.1 x.2.1))
def NJ:aF:=⟨[sC],true⟩
def QvC:af :=
 (ag [(ag [(.ae [ab 6 5,ab 7 0,ba 8 7,aw 9 .lss 6 8]),(.cond 9 .skip (.exit 0))]),(.block 1 (ag [(.ae [ab 12 0,ab 13 5,ab 14 1,a0 15 12 13 aM,ak 16 15 0,aU 16 14 1]),(.ae [ab 17 1,aw 18 .add 17 (aq 1),ab 1 18]),(.ae [ab 19 0,ab 20 5,ab 21 1,a0 22 19 20 aM,ak 23 22 1,aU 23 21 1]),(.ae [ab 24 1,aw 25 .add 24 (aq 1),ab 1 25]),(.ae [ab 26 0,ab 27 5,ab 28 1,a0 29 26 27 aM,ak 30 29 2,aU 30 28 1]),(.ae [ab 31 1,aw 32 .add 31 (aq 1),ab 1 32]),(.ae [ab 33 0,ab 34 5,a0 35 33 34 aM,ak 36 35 3,an 37 36 1,ab 38 1,aD 39 26 [37,38],ab 1 39])])),(.ae [ab 10 5,aw 11 .add 10 (aq 1),ab 5 11])])
def Qth:List (Nat × Md):=[(0,.one .f),(1,.one .d),(5,.one .d)]
def QyG:af :=
 (ag [(.ae [ab 40 1,ab 4 40]),.ret])
def QTU:af :=
 (ag [(.ae [ab 4 (aq 0)]),(ag [(.ae [ab 5 (aq 0)]),(.block 0 (.loop Qth QvC))]),QyG])
def QBr:List (bn × Md):=[(.t 4,.one .d)]
def Qz9:Qb:=TQ 0 1 QBr K
def QVv:Qb:=aY (aO NJ 1 QyG (Qz9 K)) (Qz9 K)
def QHr:Qb:=a7 0 (QVv K)
def Dz(a:List aH)(k1:Int)(i:Int)(a1:List aH):Prop:=Loop NJ 1 Qth QvC (QHr K) ⟨[(0,(.r aM 0 0 a.length)),(1,(aL k1)),(5,(aL i))],[(0,(.sl 0 aM (.dp 0 false []) a1))],1⟩
theorem QxF(a:List aH)(k1:Int)(i:Int)(a1:List aH) (h :
 let z2:=gu b5 (0+(Int.toNat i)) (λe_ k_=>(k_,e_.2.1,e_.2.2.1,e_.2.2.2)) (k1,a1)
 let z4:=gu b5 (0+(Int.toNat i)) (λe_ k_=>(e_.1,k_,e_.2.2.1,e_.2.2.2)) z2
 let z1:=gu b5 (0+(Int.toNat i)) (λe_ k_=>(e_.1,e_.2.1,k_,e_.2.2.2)) z4
 let z3:=f8 b5 (0+(Int.toNat i)) (λe_=>e_.2.2.2) (λe_ y_=>(e_.1,e_.2.1,e_.2.2.1,y_)) (QT (α:=List Int)) z1
 (aJ (decide (i<((a.length:Nat):Int))) (((0<=i/\Int.toNat i<a.length)/\((0+(Int.toNat i))<a1.length))/\(((0<=i/\Int.toNat i<a.length)/\((0+(Int.toNat i))<(z2.2).length))/\(((0<=i/\Int.toNat i<a.length)/\((0+(Int.toNat i))<(z4.2).length))/\(((0<=i/\Int.toNat i<a.length)/\(((0+(Int.toNat i))<(z1.2).length)/\((0+(Int.toNat i))<(z1.2).length)))/\(Dz K a (z3.1) (aG (i+1)) (z3.2)))))) (K (uS (k1,a1))))):Dz K a k1 i a1 :=
 Loop.of h
theorem QRQ(a:List aH)(k:Int):aK Tryz.prog 80 [(.ow 0 aM dw a),(.c TI k)] (uS (QT (α:=List aH) a k)):=by
 refine bz NJ QTU QBr 0 1 41 NI (kc y1 kn) (λK =>
 (Dz K a k 0 a)) (λhb=>?_)
 have ff:a.length<=9223372036854775807:=hb.1.1;refine nJ (A:=λkk ii ll=>Dz (λr'=>r'=uS (QT (α:=List aH) a k)) a kk ii ll) (Q:=λz=>uS z=uS (QT (α:=List aH) a k)) a k ?_ ?_ rfl
 ·intro kk pre post x hl hA;have aW:pre.length<a.length:=by omega
  have hw:aG (((pre.length:Nat):Int)+1)=((pre.length+1:Nat):Int):=by rw[QG (by omega) (by omega)];omega
  refine QxF _ _ _ _ _ ?_
  conv=>zeta
  refine⟨λ_=>?_,λh=>absurd h (by simp;omega)⟩;simp only[Int.toNat_natCast,Nat.zero_add,J5,nG,Ya,J6,hw,iJ,aW,Yp,and_true,true_and,Int.natCast_nonneg];exact hA
 ·intro kk l hl hq;refine QxF _ _ _ _ _ ?_
  conv=>zeta
  exact⟨λh=>absurd h (by simp),λ_=>hq⟩
theorem QYd:Qf Tryz.prog NI:=Qi λx _=>QRQ x.1 x.2.1
def JW(t:Int):aB:=b6 (aL t)
def NK:aI:=Qg 84 [(.c (.sl aM)),(.c TI)] λx=>(some (Q5 (α:=List aH) x.1 x.2.1),JW (aT (α:=List aH) x.1 x.2.1))
def NL:aF:=⟨[sF],false⟩
def QCH:af :=
 (ag [(ag [(.ae [ab 6 5,ab 7 0,ba 8 7,aw 9 .lss 6 8]),(.cond 9 .skip (.exit 0))]),(.block 1 (ag [(ag [(.ae [ab 12 0,ab 13 5,a0 14 12 13 aM,ak 15 14 0,an 16 15 1,ab 17 1,aw 18 .neq 16 17]),(.cond 18 (ag [(.ae [ab 4 (aq (-1))]),.ret]) .skip)]),(.ae [ab 19 1,aw 20 .add 19 (aq 1),ab 1 20]),(ag [(.ae [ab 21 0,ab 22 5,a0 23 21 22 aM,ak 24 23 1,an 25 24 1,ab 26 1,aw 27 .neq 25 26]),(.cond 27 (ag [(.ae [ab 4 (aq (-1))]),.ret]) .skip)]),(.ae [ab 28 1,aw 29 .add 28 (aq 1),ab 1 29]),(ag [(.ae [ab 30 0,ab 31 5,a0 32 30 31 aM,ak 33 32 2,an 34 33 1,ab 35 1,aw 36 .neq 34 35]),(.cond 36 (ag [(.ae [ab 4 (aq (-1))]),.ret]) .skip)]),(.ae [ab 37 1,aw 38 .add 37 (aq 1),ab 1 38]),(.ae [ab 39 0,ab 40 5,a0 41 39 40 aM,ak 42 41 3,an 43 42 1,ab 44 1,aD 45 27 [43,44],ab 1 45]),(.ae [ab 46 1,aw 47 .lss 46 (aq 0)]),(.cond 47 (ag [(.ae [ab 4 (aq (-1))]),.ret]) .skip)])),(.ae [ab 10 5,aw 11 .add 10 (aq 1),ab 5 11])])
def QCR:List (Nat × Md):=eV [0,1,5]
def Qt5:af :=
 (ag [(.ae [ab 48 1,ab 4 48]),.ret])
def QWu:af :=
 (ag [(.ae [ab 4 (aq 0)]),(ag [(.ae [ab 5 (aq 0)]),(.block 0 (.loop QCR QCH))]),Qt5])
def QrZ:List (bn × Md):=[(.t 4,.one .d)]
def QEh:Qb:=TQ 0 0 QrZ K
def QKp:Qb:=aY (aO NL 0 Qt5 (QEh K)) (QEh K)
def QTX:Qb:=a7 0 (QKp K)
def DA(a:List aH)(k1:Int)(i:Int):Prop:=Loop NL 0 QCR QCH (QTX K) ⟨[(0,(bg aM a)),(1,(aL k1)),(5,(aL i))],[],0⟩
theorem QtT(a:List aH)(k1:Int)(i:Int) (h :
 (aJ (decide (i<(a.length:Int))) ((0<=i/\Int.toNat i<a.length)/\(aJ (((ar b5 a (Int.toNat i)).1) != k1) (K (JW (-1:Int))) ((0<=i/\Int.toNat i<a.length)/\(aJ (((ar b5 a (Int.toNat i)).2.1) != (aG (k1+1))) (K (JW (-1:Int))) ((0<=i/\Int.toNat i<a.length)/\(aJ (((ar b5 a (Int.toNat i)).2.2.1) != (aG ((aG (k1+1))+1))) (K (JW (-1:Int))) (((0<=i/\Int.toNat i<a.length)/\(Q5 (α:=List Int) ((ar b5 a (Int.toNat i)).2.2.2) (aG ((aG ((aG (k1+1))+1))+1))))/\(aJ (decide ((aT (α:=List Int) ((ar b5 a (Int.toNat i)).2.2.2) (aG ((aG ((aG (k1+1))+1))+1)))<0)) (K (JW (-1:Int))) (DA K a (aT (α:=List Int) ((ar b5 a (Int.toNat i)).2.2.2) (aG ((aG ((aG (k1+1))+1))+1))) (aG (i+1))))))))))) (K (JW k1)))):DA K a k1 i :=
 Loop.of h
theorem QJL(a:List aH)(k:Int)(hp:Q5 (α:=List aH) a k):aK Tryz.prog 84 [(.c (.sl aM) a),(.c TI k)] (JW (aT (α:=List aH) a k)):=by
 refine bz NL QWu QrZ 0 0 49 NK (kc y2 kn) (λK =>
 (DA K a k 0)) (λhb=>?_)
 have ff:a.length<=9223372036854775807:=hb.1.1;refine nK (A:=λkk ii=>DA (λr'=>r'=JW (aT (α:=List aH) a k)) a kk ii) (Q:=λz=>JW z=JW (aT (α:=List aH) a k)) a k hp ?_ ?_ rfl
 ·intro kk pre post x ha fQ cm dj;have aW:pre.length<a.length:=by rw[ha];simp
  have hg:∀ d,ar d a pre.length=x:=λd=>by rw[ha];exact Ya d pre post x
  have hw:aG (((pre.length:Nat):Int)+1)=((pre.length+1:Nat):Int):=by rw[QG (by omega) (by omega)];omega
  refine QtT _ _ _ _ ?_;refine⟨λ_=>?_,λh=>absurd h (by simp;omega)⟩;simp only[Int.toNat_natCast,hg,hw,aW,Yp,and_true,true_and,Int.natCast_nonneg];have gH:=(Zb fQ).1;have fL:=(Zb fQ).2;have eS:=(Zb fL).1;have iK:=(Zb fL).2;have fg:=(Zb iK).1;have gh:=(Zb iK).2;simp only[o3,o4,o5,Prod.ext_iff]at cm dj gH fL eS iK fg gh;refine⟨λh=>cm (λe=>YS h (e.1).symm),λh0=>?_⟩;have e0:=(YW h0).symm;refine⟨λh=>cm (λe=>YS h (e.2.1).symm),λh1=>?_⟩;have e1:=(YW h1).symm;refine⟨λh=>cm (λe=>YS h (e.2.2.1).symm),λh2=>?_⟩;have e2:=(YW h2).symm;refine⟨gh,λh=>cm (λe=>Z9 gh (of_decide_eq_true h) (e.2.2.2)),λh3=>?_⟩;obtain⟨e3,h3⟩:=Z8 (of_decide_eq_false h3);rw[h3];exact dj ⟨e0,e1,e2,e3⟩
 ·intro kk hq;refine QtT _ _ _ _ ?_;exact⟨λh=>absurd h (by simp),λ_=>hq⟩
theorem QGe:Qf Tryz.prog NK:=Qi λx h=>QJL x.1 x.2.1 h
def uT(t:Int × (List Qo)):aB:=⟨(aL t.1),[],[],true,[(.sl 0 QF (.dp 0 false []) t.2)]⟩
def NM:aI:=Qg 42 [(.d QF),(.c TI)] λx=>(none,uT (QT (α:=List Qo) x.1 x.2.1))
def NN:aF:=⟨[sC],true⟩
def QEF:af :=
 (ag [(ag [(.ae [ab 6 5,ab 7 0,ba 8 7,aw 9 .lss 6 8]),(.cond 9 .skip (.exit 0))]),(.block 1 (ag [(.ae [ab 12 0,ab 13 5,a0 14 12 13 QF,ak 15 14 0,an 16 15 1,ab 17 1,aD 18 26 [16,17],ab 1 18]),(.ae [ab 19 0,ab 20 5,a0 21 19 20 QF,ak 22 21 1,an 23 22 1,ab 24 1,aD 25 26 [23,24],ab 1 25])])),(.ae [ab 10 5,aw 11 .add 10 (aq 1),ab 5 11])])
def QEa:List (Nat × Md):=[(0,.one .f),(1,.one .d),(5,.one .d)]
def QvW:af :=
 (ag [(.ae [ab 26 1,ab 4 26]),.ret])
def QNV:af :=
 (ag [(.ae [ab 4 (aq 0)]),(ag [(.ae [ab 5 (aq 0)]),(.block 0 (.loop QEa QEF))]),QvW])
def Qsq:List (bn × Md):=[(.t 4,.one .d)]
def QB7:Qb:=TQ 0 1 Qsq K
def QJN:Qb:=aY (aO NN 1 QvW (QB7 K)) (QB7 K)
def QKU:Qb:=a7 0 (QJN K)
def DB(a:List Qo)(k1:Int)(i:Int)(a1:List Qo):Prop:=Loop NN 1 QEa QEF (QKU K) ⟨[(0,(.r QF 0 0 a.length)),(1,(aL k1)),(5,(aL i))],[(0,(.sl 0 QF (.dp 0 false []) a1))],1⟩
theorem QuM(a:List Qo)(k1:Int)(i:Int)(a1:List Qo) (h :
 (aJ (decide (i<((a.length:Nat):Int))) (((0<=i/\Int.toNat i<a.length)/\(((0+(Int.toNat i))<a1.length)/\((0+(Int.toNat i))<a1.length)))/\(((0<=i/\Int.toNat i<a.length)/\(((0+(Int.toNat i))<((f8 QV (0+(Int.toNat i)) (λe_=>e_.1) (λe_ y_=>(y_,e_.2)) (QT (α:=List Int)) (k1,a1)).2).length)/\((0+(Int.toNat i))<((f8 QV (0+(Int.toNat i)) (λe_=>e_.1) (λe_ y_=>(y_,e_.2)) (QT (α:=List Int)) (k1,a1)).2).length)))/\(DB K a ((f8 QV (0+(Int.toNat i)) (λe_=>e_.2) (λe_ y_=>(e_.1,y_)) (QT (α:=List Int)) (f8 QV (0+(Int.toNat i)) (λe_=>e_.1) (λe_ y_=>(y_,e_.2)) (QT (α:=List Int)) (k1,a1))).1) (aG (i+1)) ((f8 QV (0+(Int.toNat i)) (λe_=>e_.2) (λe_ y_=>(e_.1,y_)) (QT (α:=List Int)) (f8 QV (0+(Int.toNat i)) (λe_=>e_.1) (λe_ y_=>(y_,e_.2)) (QT (α:=List Int)) (k1,a1))).2)))) (K (uT (k1,a1))))):DB K a k1 i a1 :=
 Loop.of h
theorem QSb(a:List Qo)(k:Int):aK Tryz.prog 42 [(.ow 0 QF dw a),(.c TI k)] (uT (QT (α:=List Qo) a k)):=by
 refine bz NN QNV Qsq 0 1 27 NM (kc y1 kn) (λK =>
 (DB K a k 0 a)) (λhb=>?_)
 have ff:a.length<=9223372036854775807:=hb.1.1;refine nJ (A:=λkk ii ll=>DB (λr'=>r'=uT (QT (α:=List Qo) a k)) a kk ii ll) (Q:=λz=>uT z=uT (QT (α:=List Qo) a k)) a k ?_ ?_ rfl
 ·intro kk pre post x hl hA;have aW:pre.length<a.length:=by omega
  have hw:aG (((pre.length:Nat):Int)+1)=((pre.length+1:Nat):Int):=by rw[QG (by omega) (by omega)];omega
  refine QuM _ _ _ _ _ ?_;refine⟨λ_=>?_,λh=>absurd h (by simp;omega)⟩;simp only[Int.toNat_natCast,Nat.zero_add,J5,nG,Ya,J6,hw,iJ,aW,Yp,and_true,true_and,Int.natCast_nonneg];exact hA
 ·intro kk l hl hq;refine QuM _ _ _ _ _ ?_;exact⟨λh=>absurd h (by simp),λ_=>hq⟩
theorem QQY:Qf Tryz.prog NM:=Qi λx _=>QSb x.1 x.2.1
def pK(t:Int):aB:=b6 (aL t)
def NO:aI:=Qg 136 [(.c (.sl QF)),(.c TI)] λx=>(some (Q5 (α:=List Qo) x.1 x.2.1),pK (aT (α:=List Qo) x.1 x.2.1))
def NP:aF:=⟨[sF],false⟩
def Qrn:af :=
 (ag [(ag [(.ae [ab 6 5,ab 7 0,ba 8 7,aw 9 .lss 6 8]),(.cond 9 .skip (.exit 0))]),(.block 1 (ag [(.ae [ab 12 0,ab 13 5,a0 14 12 13 QF,ak 15 14 0,an 16 15 1,ab 17 1,aD 18 27 [16,17],ab 1 18]),(ag [(.ae [ab 19 1,aw 20 .lss 19 (aq 0)]),(.cond 20 (ag [(.ae [ab 4 (aq (-1))]),.ret]) .skip)]),(.ae [ab 21 0,ab 22 5,a0 23 21 22 QF,ak 24 23 1,an 25 24 1,ab 26 1,aD 27 27 [25,26],ab 1 27]),(.ae [ab 28 1,aw 29 .lss 28 (aq 0)]),(.cond 29 (ag [(.ae [ab 4 (aq (-1))]),.ret]) .skip)])),(.ae [ab 10 5,aw 11 .add 10 (aq 1),ab 5 11])])
def QvL:List (Nat × Md):=eV [0,1,5]
def QBf:af :=
 (ag [(.ae [ab 30 1,ab 4 30]),.ret])
def QIz:af :=
 (ag [(.ae [ab 4 (aq 0)]),(ag [(.ae [ab 5 (aq 0)]),(.block 0 (.loop QvL Qrn))]),QBf])
def QtG:List (bn × Md):=[(.t 4,.one .d)]
def Qza:Qb:=TQ 0 0 QtG K
def QNT:Qb:=aY (aO NP 0 QBf (Qza K)) (Qza K)
def QSL:Qb:=a7 0 (QNT K)
def DC(a:List Qo)(k1:Int)(i:Int):Prop:=Loop NP 0 QvL Qrn (QSL K) ⟨[(0,(bg QF a)),(1,(aL k1)),(5,(aL i))],[],0⟩
theorem Qsr(a:List Qo)(k1:Int)(i:Int) (h :
 (aJ (decide (i<(a.length:Int))) (((0<=i/\Int.toNat i<a.length)/\(Q5 (α:=List Int) ((ar QV a (Int.toNat i)).1) k1))/\(aJ (decide ((aT (α:=List Int) ((ar QV a (Int.toNat i)).1) k1)<0)) (K (pK (-1:Int))) (((0<=i/\Int.toNat i<a.length)/\(Q5 (α:=List Int) ((ar QV a (Int.toNat i)).2) (aT (α:=List Int) ((ar QV a (Int.toNat i)).1) k1)))/\(aJ (decide ((aT (α:=List Int) ((ar QV a (Int.toNat i)).2) (aT (α:=List Int) ((ar QV a (Int.toNat i)).1) k1))<0)) (K (pK (-1:Int))) (DC K a (aT (α:=List Int) ((ar QV a (Int.toNat i)).2) (aT (α:=List Int) ((ar QV a (Int.toNat i)).1) k1)) (aG (i+1))))))) (K (pK k1)))):DC K a k1 i :=
 Loop.of h
theorem QGC(a:List Qo)(k:Int)(hp:Q5 (α:=List Qo) a k):aK Tryz.prog 136 [(.c (.sl QF) a),(.c TI k)] (pK (aT (α:=List Qo) a k)):=by
 refine bz NP QIz QtG 0 0 31 NO (kc y2 kn) (λK =>
 (DC K a k 0)) (λhb=>?_)
 have ff:a.length<=9223372036854775807:=hb.1.1;refine nK (A:=λkk ii=>DC (λr'=>r'=pK (aT (α:=List Qo) a k)) a kk ii) (Q:=λz=>pK z=pK (aT (α:=List Qo) a k)) a k hp ?_ ?_ rfl
 ·intro kk pre post x ha fQ cm dj;have aW:pre.length<a.length:=by rw[ha];simp
  have hg:∀ d,ar d a pre.length=x:=λd=>by rw[ha];exact Ya d pre post x
  have hw:aG (((pre.length:Nat):Int)+1)=((pre.length+1:Nat):Int):=by rw[QG (by omega) (by omega)];omega
  refine Qsr _ _ _ _ ?_;refine⟨λ_=>?_,λh=>absurd h (by simp;omega)⟩;simp only[Int.toNat_natCast,hg,hw,aW,Yp,and_true,true_and,Int.natCast_nonneg];have gH:=(Zb fQ).1;have fL:=(Zb fQ).2;simp only[o3,o4,o5,Prod.ext_iff]at cm dj gH fL;refine⟨gH,λh=>cm (λe=>Z9 gH (of_decide_eq_true h) (e.1)),λh0=>?_⟩;obtain⟨e0,h0⟩:=Z8 (of_decide_eq_false h0);rw[h0];refine⟨fL,λh=>cm (λe=>Z9 fL (of_decide_eq_true h) (e.2)),λh1=>?_⟩;obtain⟨e1,h1⟩:=Z8 (of_decide_eq_false h1);rw[h1];exact dj ⟨e0,e1⟩
 ·intro kk hq;refine Qsr _ _ _ _ ?_;exact⟨λh=>absurd h (by simp),λ_=>hq⟩
theorem QT3:Qf Tryz.prog NO:=Qi λx h=>QGC x.1 x.2.1 h
def uU(t:Int × (List QD)):aB:=⟨(aL t.1),[],[],true,[(.sl 0 QE (.dp 0 false []) t.2)]⟩
def NQ:aI:=Qg 81 [(.d QE),(.c TI)] λx=>(none,uU (QT (α:=List QD) x.1 x.2.1))
def NR:aF:=⟨[Dr],true⟩
def Qy3:af :=
 (ag [(ag [(.ae [ab 6 5,ab 7 0,ba 8 7,aw 9 .lss 6 8]),(.cond 9 .skip (.exit 0))]),(.block 1 (ag [(.ae [ab 12 0,ab 13 5,ab 14 1,a0 15 12 13 QE,ak 16 15 0,aU 16 14 1]),(.ae [ab 17 1,aw 18 .add 17 (aq 1),ab 1 18]),(.ae [ab 19 0,ab 20 5,a0 21 19 20 QE,ak 22 21 1,an 23 22 1,ab 24 1,aD 25 82 [23,24],ab 1 25])])),(.ae [ab 10 5,aw 11 .add 10 (aq 1),ab 5 11])])
def Qq7:List (Nat × Md):=[(0,.one .f),(1,.one .d),(5,.one .d)]
def QzC:af :=
 (ag [(.ae [ab 26 1,ab 4 26]),.ret])
def QRw:af :=
 (ag [(.ae [ab 4 (aq 0)]),(ag [(.ae [ab 5 (aq 0)]),(.block 0 (.loop Qq7 Qy3))]),QzC])
def Qvb:List (bn × Md):=[(.t 4,.one .d)]
def QuC:Qb:=TQ 0 1 Qvb K
def QJk:Qb:=aY (aO NR 1 QzC (QuC K)) (QuC K)
def QMt:Qb:=a7 0 (QJk K)
def DE(a:List QD)(k1:Int)(i:Int)(a1:List QD):Prop:=Loop NR 1 Qq7 Qy3 (QMt K) ⟨[(0,(.r QE 0 0 a.length)),(1,(aL k1)),(5,(aL i))],[(0,(.sl 0 QE (.dp 0 false []) a1))],1⟩
theorem QDM(a:List QD)(k1:Int)(i:Int)(a1:List QD) (h :
 (aJ (decide (i<((a.length:Nat):Int))) (((0<=i/\Int.toNat i<a.length)/\((0+(Int.toNat i))<a1.length))/\(((0<=i/\Int.toNat i<a.length)/\(((0+(Int.toNat i))<((gu QS (0+(Int.toNat i)) (λe_ k_=>(k_,e_.2)) (k1,a1)).2).length)/\((0+(Int.toNat i))<((gu QS (0+(Int.toNat i)) (λe_ k_=>(k_,e_.2)) (k1,a1)).2).length)))/\(DE K a ((f8 QS (0+(Int.toNat i)) (λe_=>e_.2) (λe_ y_=>(e_.1,y_)) (QT (α:=List (List Int))) (gu QS (0+(Int.toNat i)) (λe_ k_=>(k_,e_.2)) (k1,a1))).1) (aG (i+1)) ((f8 QS (0+(Int.toNat i)) (λe_=>e_.2) (λe_ y_=>(e_.1,y_)) (QT (α:=List (List Int))) (gu QS (0+(Int.toNat i)) (λe_ k_=>(k_,e_.2)) (k1,a1))).2)))) (K (uU (k1,a1))))):DE K a k1 i a1 :=
 Loop.of h
theorem QLK(a:List QD)(k:Int):aK Tryz.prog 81 [(.ow 0 QE dw a),(.c TI k)] (uU (QT (α:=List QD) a k)):=by
 refine bz NR QRw Qvb 0 1 27 NQ (kc QsD kn) (λK =>
 (DE K a k 0 a)) (λhb=>?_)
 have ff:a.length<=9223372036854775807:=hb.1.1;refine nJ (A:=λkk ii ll=>DE (λr'=>r'=uU (QT (α:=List QD) a k)) a kk ii ll) (Q:=λz=>uU z=uU (QT (α:=List QD) a k)) a k ?_ ?_ rfl
 ·intro kk pre post x hl hA;have aW:pre.length<a.length:=by omega
  have hw:aG (((pre.length:Nat):Int)+1)=((pre.length+1:Nat):Int):=by rw[QG (by omega) (by omega)];omega
  refine QDM _ _ _ _ _ ?_;refine⟨λ_=>?_,λh=>absurd h (by simp;omega)⟩;simp only[Int.toNat_natCast,Nat.zero_add,J5,nG,Ya,J6,hw,iJ,aW,Yp,and_true,true_and,Int.natCast_nonneg];exact hA
 ·intro kk l hl hq;refine QDM _ _ _ _ _ ?_;exact⟨λh=>absurd h (by simp),λ_=>hq⟩
theorem QU2:Qf Tryz.prog NQ:=Qi λx _=>QLK x.1 x.2.1
def pL(t:Int):aB:=b6 (aL t)
def NS:aI:=Qg 85 [(.c (.sl QE)),(.c TI)] λx=>(some (Q5 (α:=List QD) x.1 x.2.1),pL (aT (α:=List QD) x.1 x.2.1))
def NT:aF:=⟨[Dt],false⟩
def Qq6:af :=
 (ag [(ag [(.ae [ab 6 5,ab 7 0,ba 8 7,aw 9 .lss 6 8]),(.cond 9 .skip (.exit 0))]),(.block 1 (ag [(ag [(.ae [ab 12 0,ab 13 5,a0 14 12 13 QE,ak 15 14 0,an 16 15 1,ab 17 1,aw 18 .neq 16 17]),(.cond 18 (ag [(.ae [ab 4 (aq (-1))]),.ret]) .skip)]),(.ae [ab 19 1,aw 20 .add 19 (aq 1),ab 1 20]),(.ae [ab 21 0,ab 22 5,a0 23 21 22 QE,ak 24 23 1,an 25 24 1,ab 26 1,aD 27 86 [25,26],ab 1 27]),(.ae [ab 28 1,aw 29 .lss 28 (aq 0)]),(.cond 29 (ag [(.ae [ab 4 (aq (-1))]),.ret]) .skip)])),(.ae [ab 10 5,aw 11 .add 10 (aq 1),ab 5 11])])
def QEn:List (Nat × Md):=eV [0,1,5]
def QAj:af :=
 (ag [(.ae [ab 30 1,ab 4 30]),.ret])
def QJd:af :=
 (ag [(.ae [ab 4 (aq 0)]),(ag [(.ae [ab 5 (aq 0)]),(.block 0 (.loop QEn Qq6))]),QAj])
def QxA:List (bn × Md):=[(.t 4,.one .d)]
def QxQ:Qb:=TQ 0 0 QxA K
def QGI:Qb:=aY (aO NT 0 QAj (QxQ K)) (QxQ K)
def QG5:Qb:=a7 0 (QGI K)
def DF(a:List QD)(k1:Int)(i:Int):Prop:=Loop NT 0 QEn Qq6 (QG5 K) ⟨[(0,(bg QE a)),(1,(aL k1)),(5,(aL i))],[],0⟩
theorem QxJ(a:List QD)(k1:Int)(i:Int) (h :
 (aJ (decide (i<(a.length:Int))) ((0<=i/\Int.toNat i<a.length)/\(aJ (((ar QS a (Int.toNat i)).1) != k1) (K (pL (-1:Int))) (((0<=i/\Int.toNat i<a.length)/\(Q5 (α:=List (List Int)) ((ar QS a (Int.toNat i)).2) (aG (k1+1))))/\(aJ (decide ((aT (α:=List (List Int)) ((ar QS a (Int.toNat i)).2) (aG (k1+1)))<0)) (K (pL (-1:Int))) (DF K a (aT (α:=List (List Int)) ((ar QS a (Int.toNat i)).2) (aG (k1+1))) (aG (i+1))))))) (K (pL k1)))):DF K a k1 i :=
 Loop.of h
theorem QHu(a:List QD)(k:Int)(hp:Q5 (α:=List QD) a k):aK Tryz.prog 85 [(.c (.sl QE) a),(.c TI k)] (pL (aT (α:=List QD) a k)):=by
 refine bz NT QJd QxA 0 0 31 NS (kc QCi kn) (λK =>
 (DF K a k 0)) (λhb=>?_)
 have ff:a.length<=9223372036854775807:=hb.1.1;refine nK (A:=λkk ii=>DF (λr'=>r'=pL (aT (α:=List QD) a k)) a kk ii) (Q:=λz=>pL z=pL (aT (α:=List QD) a k)) a k hp ?_ ?_ rfl
 ·intro kk pre post x ha fQ cm dj;have aW:pre.length<a.length:=by rw[ha];simp
  have hg:∀ d,ar d a pre.length=x:=λd=>by rw[ha];exact Ya d pre post x
  have hw:aG (((pre.length:Nat):Int)+1)=((pre.length+1:Nat):Int):=by rw[QG (by omega) (by omega)];omega
  refine QxJ _ _ _ _ ?_;refine⟨λ_=>?_,λh=>absurd h (by simp;omega)⟩;simp only[Int.toNat_natCast,hg,hw,aW,Yp,and_true,true_and,Int.natCast_nonneg];have gH:=(Zb fQ).1;have fL:=(Zb fQ).2;simp only[o3,o4,o5,Prod.ext_iff]at cm dj gH fL;refine⟨λh=>cm (λe=>YS h (e.1).symm),λh0=>?_⟩;have e0:=(YW h0).symm;refine⟨fL,λh=>cm (λe=>Z9 fL (of_decide_eq_true h) (e.2)),λh1=>?_⟩;obtain⟨e1,h1⟩:=Z8 (of_decide_eq_false h1);rw[h1];exact dj ⟨e0,e1⟩
 ·intro kk hq;refine QxJ _ _ _ _ ?_;exact⟨λh=>absurd h (by simp),λ_=>hq⟩
theorem QMC:Qf Tryz.prog NS:=Qi λx h=>QHu x.1 x.2.1 h
def uV(t:Int × (List Qd)):aB:=⟨(aL t.1),[],[],true,[(.sl 0 Qh (.dp 0 false []) t.2)]⟩
def NU:aI:=Qg 96 [(.d Qh),(.c TI)] λx=>(none,uV (QT (α:=List Qd) x.1 x.2.1))
def NV:aF:=⟨[ND],true⟩
def QCy:af :=
 (ag [(ag [(.ae [ab 6 5,ab 7 0,ba 8 7,aw 9 .lss 6 8]),(.cond 9 .skip (.exit 0))]),(.block 1 (ag [(.ae [ab 12 0,ab 13 5,ab 14 1,a0 15 12 13 Qh,ak 16 15 0,aU 16 14 1]),(.ae [ab 17 1,aw 18 .add 17 (aq 1),ab 1 18]),(.ae [ab 19 0,ab 20 5,a0 21 19 20 Qh,ak 22 21 1,an 23 22 1,ab 24 1,aD 25 182 [23,24],ab 1 25])])),(.ae [ab 10 5,aw 11 .add 10 (aq 1),ab 5 11])])
def QAA:List (Nat × Md):=[(0,.one .f),(1,.one .d),(5,.one .d)]
def QBg:af :=
 (ag [(.ae [ab 26 1,ab 4 26]),.ret])
def QUH:af :=
 (ag [(.ae [ab 4 (aq 0)]),(ag [(.ae [ab 5 (aq 0)]),(.block 0 (.loop QAA QCy))]),QBg])
def Qrz:List (bn × Md):=[(.t 4,.one .d)]
def Qts:Qb:=TQ 0 1 Qrz K
def QNU:Qb:=aY (aO NV 1 QBg (Qts K)) (Qts K)
def QXV:Qb:=a7 0 (QNU K)
def DG(a:List Qd)(k1:Int)(i:Int)(a1:List Qd):Prop:=Loop NV 1 QAA QCy (QXV K) ⟨[(0,(.r Qh 0 0 a.length)),(1,(aL k1)),(5,(aL i))],[(0,(.sl 0 Qh (.dp 0 false []) a1))],1⟩
theorem Qxk(a:List Qd)(k1:Int)(i:Int)(a1:List Qd) (h :
 (aJ (decide (i<((a.length:Nat):Int))) (((0<=i/\Int.toNat i<a.length)/\((0+(Int.toNat i))<a1.length))/\(((0<=i/\Int.toNat i<a.length)/\(((0+(Int.toNat i))<((gu Qx (0+(Int.toNat i)) (λe_ k_=>(k_,e_.2)) (k1,a1)).2).length)/\((0+(Int.toNat i))<((gu Qx (0+(Int.toNat i)) (λe_ k_=>(k_,e_.2)) (k1,a1)).2).length)))/\(DG K a ((f8 Qx (0+(Int.toNat i)) (λe_=>e_.2) (λe_ y_=>(e_.1,y_)) (QT (α:=List Qm)) (gu Qx (0+(Int.toNat i)) (λe_ k_=>(k_,e_.2)) (k1,a1))).1) (aG (i+1)) ((f8 Qx (0+(Int.toNat i)) (λe_=>e_.2) (λe_ y_=>(e_.1,y_)) (QT (α:=List Qm)) (gu Qx (0+(Int.toNat i)) (λe_ k_=>(k_,e_.2)) (k1,a1))).2)))) (K (uV (k1,a1))))):DG K a k1 i a1 :=
 Loop.of h
theorem QFd(a:List Qd)(k:Int):aK Tryz.prog 96 [(.ow 0 Qh dw a),(.c TI k)] (uV (QT (α:=List Qd) a k)):=by
 refine bz NV QUH Qrz 0 1 27 NU (kc QV1 kn) (λK =>
 (DG K a k 0 a)) (λhb=>?_)
 have ff:a.length<=9223372036854775807:=hb.1.1;refine nJ (A:=λkk ii ll=>DG (λr'=>r'=uV (QT (α:=List Qd) a k)) a kk ii ll) (Q:=λz=>uV z=uV (QT (α:=List Qd) a k)) a k ?_ ?_ rfl
 ·intro kk pre post x hl hA;have aW:pre.length<a.length:=by omega
  have hw:aG (((pre.length:Nat):Int)+1)=((pre.length+1:Nat):Int):=by rw[QG (by omega) (by omega)];omega
  refine Qxk _ _ _ _ _ ?_;refine⟨λ_=>?_,λh=>absurd h (by simp;omega)⟩;simp only[Int.toNat_natCast,Nat.zero_add,J5,nG,Ya,J6,hw,iJ,aW,Yp,and_true,true_and,Int.natCast_nonneg];exact hA
 ·intro kk l hl hq;refine Qxk _ _ _ _ _ ?_;exact⟨λh=>absurd h (by simp),λ_=>hq⟩
theorem QIU:Qf Tryz.prog NU:=Qi λx _=>QFd x.1 x.2.1
def pM(t:Int):aB:=b6 (aL t)
def NW:aI:=Qg 138 [(.c (.sl Qh)),(.c TI)] λx=>(some (Q5 (α:=List Qd) x.1 x.2.1),pM (aT (α:=List Qd) x.1 x.2.1))
def NX:aF:=⟨[NG],false⟩
def QEz:af :=
 (ag [(ag [(.ae [ab 6 5,ab 7 0,ba 8 7,aw 9 .lss 6 8]),(.cond 9 .skip (.exit 0))]),(.block 1 (ag [(ag [(.ae [ab 12 0,ab 13 5,a0 14 12 13 Qh,ak 15 14 0,an 16 15 1,ab 17 1,aw 18 .neq 16 17]),(.cond 18 (ag [(.ae [ab 4 (aq (-1))]),.ret]) .skip)]),(.ae [ab 19 1,aw 20 .add 19 (aq 1),ab 1 20]),(.ae [ab 21 0,ab 22 5,a0 23 21 22 Qh,ak 24 23 1,an 25 24 1,ab 26 1,aD 27 214 [25,26],ab 1 27]),(.ae [ab 28 1,aw 29 .lss 28 (aq 0)]),(.cond 29 (ag [(.ae [ab 4 (aq (-1))]),.ret]) .skip)])),(.ae [ab 10 5,aw 11 .add 10 (aq 1),ab 5 11])])
def QxH:List (Nat × Md):=eV [0,1,5]
def QEJ:af :=
 (ag [(.ae [ab 30 1,ab 4 30]),.ret])
def QVU:af :=
 (ag [(.ae [ab 4 (aq 0)]),(ag [(.ae [ab 5 (aq 0)]),(.block 0 (.loop QxH QEz))]),QEJ])
def QDR:List (bn × Md):=[(.t 4,.one .d)]
def Quq:Qb:=TQ 0 0 QDR K
def QKJ:Qb:=aY (aO NX 0 QEJ (Quq K)) (Quq K)
def QVj:Qb:=a7 0 (QKJ K)
def DH(a:List Qd)(k1:Int)(i:Int):Prop:=Loop NX 0 QxH QEz (QVj K) ⟨[(0,(bg Qh a)),(1,(aL k1)),(5,(aL i))],[],0⟩
theorem QsS(a:List Qd)(k1:Int)(i:Int) (h :
 (aJ (decide (i<(a.length:Int))) ((0<=i/\Int.toNat i<a.length)/\(aJ (((ar Qx a (Int.toNat i)).1) != k1) (K (pM (-1:Int))) (((0<=i/\Int.toNat i<a.length)/\(Q5 (α:=List Qm) ((ar Qx a (Int.toNat i)).2) (aG (k1+1))))/\(aJ (decide ((aT (α:=List Qm) ((ar Qx a (Int.toNat i)).2) (aG (k1+1)))<0)) (K (pM (-1:Int))) (DH K a (aT (α:=List Qm) ((ar Qx a (Int.toNat i)).2) (aG (k1+1))) (aG (i+1))))))) (K (pM k1)))):DH K a k1 i :=
 Loop.of h
theorem QMg(a:List Qd)(k:Int)(hp:Q5 (α:=List Qd) a k):aK Tryz.prog 138 [(.c (.sl Qh) a),(.c TI k)] (pM (aT (α:=List Qd) a k)):=by
 refine bz NX QVU QDR 0 0 31 NW (kc QPY kn) (λK =>
 (DH K a k 0)) (λhb=>?_)
 have ff:a.length<=9223372036854775807:=hb.1.1;refine nK (A:=λkk ii=>DH (λr'=>r'=pM (aT (α:=List Qd) a k)) a kk ii) (Q:=λz=>pM z=pM (aT (α:=List Qd) a k)) a k hp ?_ ?_ rfl
 ·intro kk pre post x ha fQ cm dj;have aW:pre.length<a.length:=by rw[ha];simp
  have hg:∀ d,ar d a pre.length=x:=λd=>by rw[ha];exact Ya d pre post x
  have hw:aG (((pre.length:Nat):Int)+1)=((pre.length+1:Nat):Int):=by rw[QG (by omega) (by omega)];omega
  refine QsS _ _ _ _ ?_;refine⟨λ_=>?_,λh=>absurd h (by simp;omega)⟩;simp only[Int.toNat_natCast,hg,hw,aW,Yp,and_true,true_and,Int.natCast_nonneg];have gH:=(Zb fQ).1;have fL:=(Zb fQ).2;simp only[o3,o4,o5,Prod.ext_iff]at cm dj gH fL;refine⟨λh=>cm (λe=>YS h (e.1).symm),λh0=>?_⟩;have e0:=(YW h0).symm;refine⟨fL,λh=>cm (λe=>Z9 fL (of_decide_eq_true h) (e.2)),λh1=>?_⟩;obtain⟨e1,h1⟩:=Z8 (of_decide_eq_false h1);rw[h1];exact dj ⟨e0,e1⟩
 ·intro kk hq;refine QsS _ _ _ _ ?_;exact⟨λh=>absurd h (by simp),λ_=>hq⟩
theorem QP7:Qf Tryz.prog NW:=Qi λx h=>QMg x.1 x.2.1 h
def uW(t:Int × (List Qc)):aB:=⟨(aL t.1),[],[],true,[(.sl 0 Qe (.dp 0 false []) t.2)]⟩
def NY:aI:=Qg 95 [(.d Qe),(.c TI)] λx=>(none,uW (QT (α:=List Qc) x.1 x.2.1))
def NZ:aF:=⟨[Nz,NI,NQ,Dr,sC],true⟩
def QuT:af :=
 (ag [(ag [(.ae [ab 6 5,ab 7 0,ba 8 7,aw 9 .lss 6 8]),(.cond 9 .skip (.exit 0))]),(.block 1 (ag [(.ae [ab 12 0,ab 13 5,ab 14 1,a0 15 12 13 Qe,ak 16 15 0,aU 16 14 1]),(.ae [ab 17 1,aw 18 .add 17 (aq 1),ab 1 18]),(.ae [ab 19 0,ab 20 5,a0 21 19 20 Qe,ak 22 21 1,an 23 22 1,ab 24 1,aD 25 79 [23,24],ab 1 25]),(.ae [ab 26 0,ab 27 5,a0 28 26 27 Qe,ak 29 28 2,an 30 29 1,ab 31 1,aD 32 80 [30,31],ab 1 32]),(.ae [ab 33 0,ab 34 5,ab 35 1,aw 36 .rem 35 (aq 3),aw 37 .eql 36 (aq 0),a0 38 33 34 Qe,ak 39 38 3,aU 39 37 1]),(.ae [ab 40 1,aw 41 .add 40 (aq 1),ab 1 41]),(.ae [ab 42 0,ab 43 5,ab 44 1,aw 45 .rem 44 (aq 3),aw 46 .eql 45 (aq 0),a0 47 42 43 Qe,ak 48 47 4,aU 48 46 1]),(.ae [ab 49 1,aw 50 .add 49 (aq 1),ab 1 50]),(.ae [ab 51 0,ab 52 5,a0 53 51 52 Qe,ak 54 53 5,an 55 54 1,ab 56 1,aD 57 81 [55,56],ab 1 57]),(.ae [ab 58 0,ab 59 5,a0 60 58 59 Qe,ak 61 60 6,an 62 61 1,ab 63 1,aD 64 82 [62,63],ab 1 64]),(.ae [ab 65 0,ab 66 5,a0 67 65 66 Qe,ak 68 67 7,an 69 68 1,ab 70 1,aD 71 26 [69,70],ab 1 71]),(.ae [ab 72 0,ab 73 5,a0 74 72 73 Qe,ak 75 74 8,an 76 75 1,ab 77 1,aD 78 26 [76,77],ab 1 78]),(.ae [ab 79 0,ab 80 5,a0 81 79 80 Qe,ak 82 81 9,an 83 82 1,ab 84 1,aD 85 26 [83,84],ab 1 85]),(.ae [ab 86 0,ab 87 5,a0 88 86 87 Qe,ak 89 88 10,an 90 89 1,ab 91 1,aD 92 26 [90,91],ab 1 92]),(.ae [ab 93 0,ab 94 5,a0 95 93 94 Qe,ak 96 95 11,ak 97 96 0,an 98 97 1,ab 99 1,aD 100 82 [98,99],ab 1 100]),(.ae [ab 101 0,ab 102 5,ab 103 1,a0 104 101 102 Qe,ak 105 104 11,ak 106 105 1,aU 106 103 1]),(.ae [ab 107 1,aw 108 .add 107 (aq 1),ab 1 108]),(.ae [ab 109 0,ab 110 5,ab 111 1,aw 112 .rem 111 (aq 3),aw 113 .eql 112 (aq 0),a0 114 109 110 Qe,ak 115 114 11,ak 116 115 2,aU 116 113 1]),(.ae [ab 117 1,aw 118 .add 117 (aq 1),ab 1 118])])),(.ae [ab 10 5,aw 11 .add 10 (aq 1),ab 5 11])])
def QEo:List (Nat × Md):=[(0,.one .f),(1,.one .d),(5,.one .d)]
def QqN:af :=
 (ag [(.ae [ab 119 1,ab 4 119]),.ret])
def QWg:af :=
 (ag [(.ae [ab 4 (aq 0)]),(ag [(.ae [ab 5 (aq 0)]),(.block 0 (.loop QEo QuT))]),QqN])
def QEm:List (bn × Md):=[(.t 4,.one .d)]
def QEG:Qb:=TQ 0 1 QEm K
def QPU:Qb:=aY (aO NZ 1 QqN (QEG K)) (QEG K)
def QWZ:Qb:=a7 0 (QPU K)
def DI(a:List Qc)(k1:Int)(i:Int)(a1:List Qc):Prop:=Loop NZ 1 QEo QuT (QWZ K) ⟨[(0,(.r Qe 0 0 a.length)),(1,(aL k1)),(5,(aL i))],[(0,(.sl 0 Qe (.dp 0 false []) a1))],1⟩
theorem QBa(a:List Qc)(k1:Int)(i:Int)(a1:List Qc) (h :
 let eW:=gu Qz (0+(Int.toNat i)) (λe_ k_=>(k_,e_.2.1,e_.2.2.1,e_.2.2.2.1,e_.2.2.2.2.1,e_.2.2.2.2.2.1,e_.2.2.2.2.2.2.1,e_.2.2.2.2.2.2.2.1,e_.2.2.2.2.2.2.2.2.1,e_.2.2.2.2.2.2.2.2.2.1,e_.2.2.2.2.2.2.2.2.2.2.1,e_.2.2.2.2.2.2.2.2.2.2.2.1,e_.2.2.2.2.2.2.2.2.2.2.2.2.1,e_.2.2.2.2.2.2.2.2.2.2.2.2.2)) (k1,a1)
 let z5:=f8 Qz (0+(Int.toNat i)) (λe_=>e_.2.1) (λe_ y_=>(e_.1,y_,e_.2.2.1,e_.2.2.2.1,e_.2.2.2.2.1,e_.2.2.2.2.2.1,e_.2.2.2.2.2.2.1,e_.2.2.2.2.2.2.2.1,e_.2.2.2.2.2.2.2.2.1,e_.2.2.2.2.2.2.2.2.2.1,e_.2.2.2.2.2.2.2.2.2.2.1,e_.2.2.2.2.2.2.2.2.2.2.2.1,e_.2.2.2.2.2.2.2.2.2.2.2.2.1,e_.2.2.2.2.2.2.2.2.2.2.2.2.2)) (QT (α:=List bu)) eW
 let dQ:=f8 Qz (0+(Int.toNat i)) (λe_=>e_.2.2.1) (λe_ y_=>(e_.1,e_.2.1,y_,e_.2.2.2.1,e_.2.2.2.2.1,e_.2.2.2.2.2.1,e_.2.2.2.2.2.2.1,e_.2.2.2.2.2.2.2.1,e_.2.2.2.2.2.2.2.2.1,e_.2.2.2.2.2.2.2.2.2.1,e_.2.2.2.2.2.2.2.2.2.2.1,e_.2.2.2.2.2.2.2.2.2.2.2.1,e_.2.2.2.2.2.2.2.2.2.2.2.2.1,e_.2.2.2.2.2.2.2.2.2.2.2.2.2)) (QT (α:=List aH)) z5
 let z3:=gu Qz (0+(Int.toNat i)) (λe_ k_=>(e_.1,e_.2.1,e_.2.2.1,((Int.tmod k_ (3:Int))==0),e_.2.2.2.2.1,e_.2.2.2.2.2.1,e_.2.2.2.2.2.2.1,e_.2.2.2.2.2.2.2.1,e_.2.2.2.2.2.2.2.2.1,e_.2.2.2.2.2.2.2.2.2.1,e_.2.2.2.2.2.2.2.2.2.2.1,e_.2.2.2.2.2.2.2.2.2.2.2.1,e_.2.2.2.2.2.2.2.2.2.2.2.2.1,e_.2.2.2.2.2.2.2.2.2.2.2.2.2)) dQ
 let eX:=gu Qz (0+(Int.toNat i)) (λe_ k_=>(e_.1,e_.2.1,e_.2.2.1,e_.2.2.2.1,((Int.tmod k_ (3:Int))==0),e_.2.2.2.2.2.1,e_.2.2.2.2.2.2.1,e_.2.2.2.2.2.2.2.1,e_.2.2.2.2.2.2.2.2.1,e_.2.2.2.2.2.2.2.2.2.1,e_.2.2.2.2.2.2.2.2.2.2.1,e_.2.2.2.2.2.2.2.2.2.2.2.1,e_.2.2.2.2.2.2.2.2.2.2.2.2.1,e_.2.2.2.2.2.2.2.2.2.2.2.2.2)) z3
 let z7:=f8 Qz (0+(Int.toNat i)) (λe_=>e_.2.2.2.2.2.1) (λe_ y_=>(e_.1,e_.2.1,e_.2.2.1,e_.2.2.2.1,e_.2.2.2.2.1,y_,e_.2.2.2.2.2.2.1,e_.2.2.2.2.2.2.2.1,e_.2.2.2.2.2.2.2.2.1,e_.2.2.2.2.2.2.2.2.2.1,e_.2.2.2.2.2.2.2.2.2.2.1,e_.2.2.2.2.2.2.2.2.2.2.2.1,e_.2.2.2.2.2.2.2.2.2.2.2.2.1,e_.2.2.2.2.2.2.2.2.2.2.2.2.2)) (QT (α:=List QD)) eX
 let z1:=f8 Qz (0+(Int.toNat i)) (λe_=>e_.2.2.2.2.2.2.1) (λe_ y_=>(e_.1,e_.2.1,e_.2.2.1,e_.2.2.2.1,e_.2.2.2.2.1,e_.2.2.2.2.2.1,y_,e_.2.2.2.2.2.2.2.1,e_.2.2.2.2.2.2.2.2.1,e_.2.2.2.2.2.2.2.2.2.1,e_.2.2.2.2.2.2.2.2.2.2.1,e_.2.2.2.2.2.2.2.2.2.2.2.1,e_.2.2.2.2.2.2.2.2.2.2.2.2.1,e_.2.2.2.2.2.2.2.2.2.2.2.2.2)) (QT (α:=List (List Int))) z7
 let gy:=QT (α:=List Int)
 let z8:=f8 Qz (0+(Int.toNat i)) (λe_=>e_.2.2.2.2.2.2.2.1) (λe_ y_=>(e_.1,e_.2.1,e_.2.2.1,e_.2.2.2.1,e_.2.2.2.2.1,e_.2.2.2.2.2.1,e_.2.2.2.2.2.2.1,y_,e_.2.2.2.2.2.2.2.2.1,e_.2.2.2.2.2.2.2.2.2.1,e_.2.2.2.2.2.2.2.2.2.2.1,e_.2.2.2.2.2.2.2.2.2.2.2.1,e_.2.2.2.2.2.2.2.2.2.2.2.2.1,e_.2.2.2.2.2.2.2.2.2.2.2.2.2)) gy z1
 let z6:=f8 Qz (0+(Int.toNat i)) (λe_=>e_.2.2.2.2.2.2.2.2.1) (λe_ y_=>(e_.1,e_.2.1,e_.2.2.1,e_.2.2.2.1,e_.2.2.2.2.1,e_.2.2.2.2.2.1,e_.2.2.2.2.2.2.1,e_.2.2.2.2.2.2.2.1,y_,e_.2.2.2.2.2.2.2.2.2.1,e_.2.2.2.2.2.2.2.2.2.2.1,e_.2.2.2.2.2.2.2.2.2.2.2.1,e_.2.2.2.2.2.2.2.2.2.2.2.2.1,e_.2.2.2.2.2.2.2.2.2.2.2.2.2)) gy z8
 let z2:=f8 Qz (0+(Int.toNat i)) (λe_=>e_.2.2.2.2.2.2.2.2.2.1) (λe_ y_=>(e_.1,e_.2.1,e_.2.2.1,e_.2.2.2.1,e_.2.2.2.2.1,e_.2.2.2.2.2.1,e_.2.2.2.2.2.2.1,e_.2.2.2.2.2.2.2.1,e_.2.2.2.2.2.2.2.2.1,y_,e_.2.2.2.2.2.2.2.2.2.2.1,e_.2.2.2.2.2.2.2.2.2.2.2.1,e_.2.2.2.2.2.2.2.2.2.2.2.2.1,e_.2.2.2.2.2.2.2.2.2.2.2.2.2)) gy z6
 let z9:=f8 Qz (0+(Int.toNat i)) (λe_=>e_.2.2.2.2.2.2.2.2.2.2.1) (λe_ y_=>(e_.1,e_.2.1,e_.2.2.1,e_.2.2.2.1,e_.2.2.2.2.1,e_.2.2.2.2.2.1,e_.2.2.2.2.2.2.1,e_.2.2.2.2.2.2.2.1,e_.2.2.2.2.2.2.2.2.1,e_.2.2.2.2.2.2.2.2.2.1,y_,e_.2.2.2.2.2.2.2.2.2.2.2.1,e_.2.2.2.2.2.2.2.2.2.2.2.2.1,e_.2.2.2.2.2.2.2.2.2.2.2.2.2)) gy z2
 let z4:=f8 Qz (0+(Int.toNat i)) (λe_=>e_.2.2.2.2.2.2.2.2.2.2.2.1) (λe_ y_=>(e_.1,e_.2.1,e_.2.2.1,e_.2.2.2.1,e_.2.2.2.2.1,e_.2.2.2.2.2.1,e_.2.2.2.2.2.2.1,e_.2.2.2.2.2.2.2.1,e_.2.2.2.2.2.2.2.2.1,e_.2.2.2.2.2.2.2.2.2.1,e_.2.2.2.2.2.2.2.2.2.2.1,y_,e_.2.2.2.2.2.2.2.2.2.2.2.2.1,e_.2.2.2.2.2.2.2.2.2.2.2.2.2)) (QT (α:=List (List Int))) z9
 let gx:=gu Qz (0+(Int.toNat i)) (λe_ k_=>(e_.1,e_.2.1,e_.2.2.1,e_.2.2.2.1,e_.2.2.2.2.1,e_.2.2.2.2.2.1,e_.2.2.2.2.2.2.1,e_.2.2.2.2.2.2.2.1,e_.2.2.2.2.2.2.2.2.1,e_.2.2.2.2.2.2.2.2.2.1,e_.2.2.2.2.2.2.2.2.2.2.1,e_.2.2.2.2.2.2.2.2.2.2.2.1,k_,e_.2.2.2.2.2.2.2.2.2.2.2.2.2)) z4
 (aJ (decide (i<((a.length:Nat):Int))) (((0<=i/\Int.toNat i<a.length)/\((0+(Int.toNat i))<a1.length))/\(((0<=i/\Int.toNat i<a.length)/\(((0+(Int.toNat i))<(eW.2).length)/\((0+(Int.toNat i))<(eW.2).length)))/\(((0<=i/\Int.toNat i<a.length)/\(((0+(Int.toNat i))<(z5.2).length)/\((0+(Int.toNat i))<(z5.2).length)))/\(((¬ ((3:Int):Int)=0)/\((0<=i/\Int.toNat i<a.length)/\((0+(Int.toNat i))<(dQ.2).length)))/\(((¬ ((3:Int):Int)=0)/\((0<=i/\Int.toNat i<a.length)/\((0+(Int.toNat i))<(z3.2).length)))/\(((0<=i/\Int.toNat i<a.length)/\(((0+(Int.toNat i))<(eX.2).length)/\((0+(Int.toNat i))<(eX.2).length)))/\(((0<=i/\Int.toNat i<a.length)/\(((0+(Int.toNat i))<(z7.2).length)/\((0+(Int.toNat i))<(z7.2).length)))/\(((0<=i/\Int.toNat i<a.length)/\(((0+(Int.toNat i))<(z1.2).length)/\((0+(Int.toNat i))<(z1.2).length)))/\(((0<=i/\Int.toNat i<a.length)/\(((0+(Int.toNat i))<(z8.2).length)/\((0+(Int.toNat i))<(z8.2).length)))/\(((0<=i/\Int.toNat i<a.length)/\(((0+(Int.toNat i))<(z6.2).length)/\((0+(Int.toNat i))<(z6.2).length)))/\(((0<=i/\Int.toNat i<a.length)/\(((0+(Int.toNat i))<(z2.2).length)/\((0+(Int.toNat i))<(z2.2).length)))/\(((0<=i/\Int.toNat i<a.length)/\(((0+(Int.toNat i))<(z9.2).length)/\((0+(Int.toNat i))<(z9.2).length)))/\(((0<=i/\Int.toNat i<a.length)/\((0+(Int.toNat i))<(z4.2).length))/\(((¬ ((3:Int):Int)=0)/\((0<=i/\Int.toNat i<a.length)/\((0+(Int.toNat i))<(gx.2).length)))/\(DI K a (aG ((aG ((z4.1)+1))+1)) (aG (i+1)) ((gu Qz (0+(Int.toNat i)) (λe_ k_=>(e_.1,e_.2.1,e_.2.2.1,e_.2.2.2.1,e_.2.2.2.2.1,e_.2.2.2.2.2.1,e_.2.2.2.2.2.2.1,e_.2.2.2.2.2.2.2.1,e_.2.2.2.2.2.2.2.2.1,e_.2.2.2.2.2.2.2.2.2.1,e_.2.2.2.2.2.2.2.2.2.2.1,e_.2.2.2.2.2.2.2.2.2.2.2.1,e_.2.2.2.2.2.2.2.2.2.2.2.2.1,((Int.tmod k_ (3:Int))==0))) gx).2)))))))))))))))) (K (uW (k1,a1))))):DI K a k1 i a1 :=
 Loop.of h
theorem QJt(a:List Qc)(k:Int):aK Tryz.prog 95 [(.ow 0 Qe dw a),(.c TI k)] (uW (QT (α:=List Qc) a k)):=by
 refine bz NZ QWg QEm 0 1 120 NY (kc QM5 (kc QYd (kc QU2 (kc QsD (kc y1 kn))))) (λK =>
 (DI K a k 0 a)) (λhb=>?_)
 have ff:a.length<=9223372036854775807:=hb.1.1;refine nJ (A:=λkk ii ll=>DI (λr'=>r'=uW (QT (α:=List Qc) a k)) a kk ii ll) (Q:=λz=>uW z=uW (QT (α:=List Qc) a k)) a k ?_ ?_ rfl
 ·intro kk pre post x hl hA;have aW:pre.length<a.length:=by omega
  have hw:aG (((pre.length:Nat):Int)+1)=((pre.length+1:Nat):Int):=by rw[QG (by omega) (by omega)];omega
  refine QBa _ _ _ _ _ ?_
  conv=>zeta
  refine⟨λ_=>?_,λh=>absurd h (by simp;omega)⟩;simp only[Int.toNat_natCast,Nat.zero_add,J5,nG,Ya,J6,hw,iJ,aW,Yp,and_true,true_and,Int.natCast_nonneg];exact hA
 ·intro kk l hl hq;refine QBa _ _ _ _ _ ?_
  conv=>zeta
  exact⟨λh=>absurd h (by simp),λ_=>hq⟩
theorem QGf:Qf Tryz.prog NY:=Qi λx _=>QJt x.1 x.2.1
def Yd(t:Int):aB:=b6 (aL t)
def N0:aI:=Qg 137 [(.c (.sl Qe)),(.c TI)] λx=>(some (Q5 (α:=List Qc) x.1 x.2.1),Yd (aT (α:=List Qc) x.1 x.2.1))
def N1:aF:=⟨[NB,NK,NS,Dt,sF],false⟩
def QBS:af :=
 (ag [(ag [(.ae [ab 6 5,ab 7 0,ba 8 7,aw 9 .lss 6 8]),(.cond 9 .skip (.exit 0))]),(.block 1 (ag [(ag [(.ae [ab 12 0,ab 13 5,a0 14 12 13 Qe,ak 15 14 0,an 16 15 1,ab 17 1,aw 18 .neq 16 17]),(.cond 18 (ag [(.ae [ab 4 (aq (-1))]),.ret]) .skip)]),(.ae [ab 19 1,aw 20 .add 19 (aq 1),ab 1 20]),(.ae [ab 21 0,ab 22 5,a0 23 21 22 Qe,ak 24 23 1,an 25 24 1,ab 26 1,aD 27 83 [25,26],ab 1 27]),(ag [(.ae [ab 28 1,aw 29 .lss 28 (aq 0)]),(.cond 29 (ag [(.ae [ab 4 (aq (-1))]),.ret]) .skip)]),(.ae [ab 30 0,ab 31 5,a0 32 30 31 Qe,ak 33 32 2,an 34 33 1,ab 35 1,aD 36 84 [34,35],ab 1 36]),(ag [(.ae [ab 37 1,aw 38 .lss 37 (aq 0)]),(.cond 38 (ag [(.ae [ab 4 (aq (-1))]),.ret]) .skip)]),(ag [(.ae [ab 39 0,ab 40 5,a0 41 39 40 Qe,ak 42 41 3,an 43 42 1,ab 44 1,aw 45 .rem 44 (aq 3),aw 46 .eql 45 (aq 0),aC 47 (.ic true 43 46)]),(.cond 47 (ag [(.ae [ab 4 (aq (-1))]),.ret]) .skip)]),(.ae [ab 48 1,aw 49 .add 48 (aq 1),ab 1 49]),(ag [(.ae [ab 50 0,ab 51 5,a0 52 50 51 Qe,ak 53 52 4,an 54 53 1,ab 55 1,aw 56 .rem 55 (aq 3),aw 57 .eql 56 (aq 0),aC 58 (.ic true 54 57)]),(.cond 58 (ag [(.ae [ab 4 (aq (-1))]),.ret]) .skip)]),(.ae [ab 59 1,aw 60 .add 59 (aq 1),ab 1 60]),(.ae [ab 61 0,ab 62 5,a0 63 61 62 Qe,ak 64 63 5,an 65 64 1,ab 66 1,aD 67 85 [65,66],ab 1 67]),(ag [(.ae [ab 68 1,aw 69 .lss 68 (aq 0)]),(.cond 69 (ag [(.ae [ab 4 (aq (-1))]),.ret]) .skip)]),(.ae [ab 70 0,ab 71 5,a0 72 70 71 Qe,ak 73 72 6,an 74 73 1,ab 75 1,aD 76 86 [74,75],ab 1 76]),(ag [(.ae [ab 77 1,aw 78 .lss 77 (aq 0)]),(.cond 78 (ag [(.ae [ab 4 (aq (-1))]),.ret]) .skip)]),(.ae [ab 79 0,ab 80 5,a0 81 79 80 Qe,ak 82 81 7,an 83 82 1,ab 84 1,aD 85 27 [83,84],ab 1 85]),(ag [(.ae [ab 86 1,aw 87 .lss 86 (aq 0)]),(.cond 87 (ag [(.ae [ab 4 (aq (-1))]),.ret]) .skip)]),(.ae [ab 88 0,ab 89 5,a0 90 88 89 Qe,ak 91 90 8,an 92 91 1,ab 93 1,aD 94 27 [92,93],ab 1 94]),(ag [(.ae [ab 95 1,aw 96 .lss 95 (aq 0)]),(.cond 96 (ag [(.ae [ab 4 (aq (-1))]),.ret]) .skip)]),(.ae [ab 97 0,ab 98 5,a0 99 97 98 Qe,ak 100 99 9,an 101 100 1,ab 102 1,aD 103 27 [101,102],ab 1 103]),(ag [(.ae [ab 104 1,aw 105 .lss 104 (aq 0)]),(.cond 105 (ag [(.ae [ab 4 (aq (-1))]),.ret]) .skip)]),(.ae [ab 106 0,ab 107 5,a0 108 106 107 Qe,ak 109 108 10,an 110 109 1,ab 111 1,aD 112 27 [110,111],ab 1 112]),(ag [(.ae [ab 113 1,aw 114 .lss 113 (aq 0)]),(.cond 114 (ag [(.ae [ab 4 (aq (-1))]),.ret]) .skip)]),(.ae [ab 115 0,ab 116 5,a0 117 115 116 Qe,ak 118 117 11,ak 119 118 0,an 120 119 1,ab 121 1,aD 122 86 [120,121],ab 1 122]),(ag [(.ae [ab 123 1,aw 124 .lss 123 (aq 0)]),(.cond 124 (ag [(.ae [ab 4 (aq (-1))]),.ret]) .skip)]),(ag [(.ae [ab 125 0,ab 126 5,a0 127 125 126 Qe,ak 128 127 11,ak 129 128 1,an 130 129 1,ab 131 1,aw 132 .neq 130 131]),(.cond 132 (ag [(.ae [ab 4 (aq (-1))]),.ret]) .skip)]),(.ae [ab 133 1,aw 134 .add 133 (aq 1),ab 1 134]),(ag [(.ae [ab 135 0,ab 136 5,a0 137 135 136 Qe,ak 138 137 11,ak 139 138 2,an 140 139 1,ab 141 1,aw 142 .rem 141 (aq 3),aw 143 .eql 142 (aq 0),aC 144 (.ic true 140 143)]),(.cond 144 (ag [(.ae [ab 4 (aq (-1))]),.ret]) .skip)]),(.ae [ab 145 1,aw 146 .add 145 (aq 1),ab 1 146])])),(.ae [ab 10 5,aw 11 .add 10 (aq 1),ab 5 11])])
def Qvw:List (Nat × Md):=eV [0,1,5]
def QAd:af :=
 (ag [(.ae [ab 147 1,ab 4 147]),.ret])
def QNK:af :=
 (ag [(.ae [ab 4 (aq 0)]),(ag [(.ae [ab 5 (aq 0)]),(.block 0 (.loop Qvw QBS))]),QAd])
def QAK:List (bn × Md):=[(.t 4,.one .d)]
def QBi:Qb:=TQ 0 0 QAK K
def QGH:Qb:=aY (aO N1 0 QAd (QBi K)) (QBi K)
def QLI:Qb:=a7 0 (QGH K)
def DJ(a:List Qc)(k1:Int)(i:Int):Prop:=Loop N1 0 Qvw QBS (QLI K) ⟨[(0,(bg Qe a)),(1,(aL k1)),(5,(aL i))],[],0⟩
theorem Qsa(a:List Qc)(k1:Int)(i:Int) (h :
 let z2:=ar Qz a (Int.toNat i)
 let z8:=aT (α:=List bu) (z2.2.1) (aG (k1+1))
 let z4:=aT (α:=List aH) (z2.2.2.1) z8
 let z5:=aT (α:=List QD) (z2.2.2.2.2.2.1) (aG ((aG (z4+1))+1))
 let z9:=aT (α:=List (List Int)) (z2.2.2.2.2.2.2.1) z5
 let z1:=aT (α:=List Int) (z2.2.2.2.2.2.2.2.1) z9
 let eX:=aT (α:=List Int) (z2.2.2.2.2.2.2.2.2.1) z1
 let z6:=aT (α:=List Int) (z2.2.2.2.2.2.2.2.2.2.1) eX
 let z3:=aT (α:=List Int) (z2.2.2.2.2.2.2.2.2.2.2.1) z6
 let z7:=aT (α:=List (List Int)) (z2.2.2.2.2.2.2.2.2.2.2.2.1) z3
 (aJ (decide (i<(a.length:Int))) ((0<=i/\Int.toNat i<a.length)/\(aJ ((z2.1) != k1) (K (Yd (-1:Int))) (((0<=i/\Int.toNat i<a.length)/\(Q5 (α:=List bu) (z2.2.1) (aG (k1+1))))/\(aJ (decide (z8<0)) (K (Yd (-1:Int))) (((0<=i/\Int.toNat i<a.length)/\(Q5 (α:=List aH) (z2.2.2.1) z8))/\(aJ (decide (z4<0)) (K (Yd (-1:Int))) (((0<=i/\Int.toNat i<a.length)/\(¬ ((3:Int):Int)=0))/\(aJ (!((z2.2.2.2.1)==((Int.tmod z4 (3:Int))==0))) (K (Yd (-1:Int))) (((0<=i/\Int.toNat i<a.length)/\(¬ ((3:Int):Int)=0))/\(aJ (!((z2.2.2.2.2.1)==((Int.tmod (aG (z4+1)) (3:Int))==0))) (K (Yd (-1:Int))) (((0<=i/\Int.toNat i<a.length)/\(Q5 (α:=List QD) (z2.2.2.2.2.2.1) (aG ((aG (z4+1))+1))))/\(aJ (decide (z5<0)) (K (Yd (-1:Int))) (((0<=i/\Int.toNat i<a.length)/\(Q5 (α:=List (List Int)) (z2.2.2.2.2.2.2.1) z5))/\(aJ (decide (z9<0)) (K (Yd (-1:Int))) (((0<=i/\Int.toNat i<a.length)/\(Q5 (α:=List Int) (z2.2.2.2.2.2.2.2.1) z9))/\(aJ (decide (z1<0)) (K (Yd (-1:Int))) (((0<=i/\Int.toNat i<a.length)/\(Q5 (α:=List Int) (z2.2.2.2.2.2.2.2.2.1) z1))/\(aJ (decide (eX<0)) (K (Yd (-1:Int))) (((0<=i/\Int.toNat i<a.length)/\(Q5 (α:=List Int) (z2.2.2.2.2.2.2.2.2.2.1) eX))/\(aJ (decide (z6<0)) (K (Yd (-1:Int))) (((0<=i/\Int.toNat i<a.length)/\(Q5 (α:=List Int) (z2.2.2.2.2.2.2.2.2.2.2.1) z6))/\(aJ (decide (z3<0)) (K (Yd (-1:Int))) (((0<=i/\Int.toNat i<a.length)/\(Q5 (α:=List (List Int)) (z2.2.2.2.2.2.2.2.2.2.2.2.1) z3))/\(aJ (decide (z7<0)) (K (Yd (-1:Int))) ((0<=i/\Int.toNat i<a.length)/\(aJ ((z2.2.2.2.2.2.2.2.2.2.2.2.2.1) != z7) (K (Yd (-1:Int))) (((0<=i/\Int.toNat i<a.length)/\(¬ ((3:Int):Int)=0))/\(aJ (!((z2.2.2.2.2.2.2.2.2.2.2.2.2.2)==((Int.tmod (aG (z7+1)) (3:Int))==0))) (K (Yd (-1:Int))) (DJ K a (aG ((aG (z7+1))+1)) (aG (i+1))))))))))))))))))))))))))))))) (K (Yd k1)))):DJ K a k1 i :=
 Loop.of h
theorem QGi(a:List Qc)(k:Int)(hp:Q5 (α:=List Qc) a k):aK Tryz.prog 137 [(.c (.sl Qe) a),(.c TI k)] (Yd (aT (α:=List Qc) a k)):=by
 refine bz N1 QNK QAK 0 0 148 N0 (kc QJH (kc QGe (kc QMC (kc QCi (kc y2 kn))))) (λK =>
 (DJ K a k 0)) (λhb=>?_)
 have ff:a.length<=9223372036854775807:=hb.1.1;refine nK (A:=λkk ii=>DJ (λr'=>r'=Yd (aT (α:=List Qc) a k)) a kk ii) (Q:=λz=>Yd z=Yd (aT (α:=List Qc) a k)) a k hp ?_ ?_ rfl
 ·intro kk pre post x ha fQ cm dj;have aW:pre.length<a.length:=by rw[ha];simp
  have hg:∀ d,ar d a pre.length=x:=λd=>by rw[ha];exact Ya d pre post x
  have hw:aG (((pre.length:Nat):Int)+1)=((pre.length+1:Nat):Int):=by rw[QG (by omega) (by omega)];omega
  refine Qsa _ _ _ _ ?_
  conv=>zeta
  refine⟨λ_=>?_,λh=>absurd h (by simp;omega)⟩;simp only[Int.toNat_natCast,hg,hw,aW,Yp,and_true,true_and,Int.natCast_nonneg];have gH:=(Zb fQ).1;have fL:=(Zb fQ).2;have eS:=(Zb fL).1;have iK:=(Zb fL).2;have fg:=(Zb iK).1;have gh:=(Zb iK).2;have hp3:=(Zb gh).1;have wI:=(Zb gh).2;have hp4:=(Zb wI).1;have N2:=(Zb wI).2;have N3:=(Zb N2).1;have N4:=(Zb N2).2;have N5:=(Zb N4).1;have N6:=(Zb N4).2;have N7:=(Zb N6).1;have N8:=(Zb N6).2;have N9:=(Zb N8).1;have Oa:=(Zb N8).2;have Ob:=(Zb Oa).1;have Oc:=(Zb Oa).2;have sI:=(Zb Oc).1;have sJ:=(Zb Oc).2;have sK:=(Zb sJ).1;have sL:=(Zb sJ).2;have Od:=(Zb sL).1;have Oe:=(Zb sL).2;simp only[o3,o4,o5,Prod.ext_iff]at cm dj gH fL eS iK fg gh hp3 wI hp4 N2 N3 N4 N5 N6 N7 N8 N9 Oa Ob Oc sI sJ sK sL Od Oe;refine⟨λh=>cm (λe=>YS h (e.1).symm),λh0=>?_⟩;have e0:=(YW h0).symm;refine⟨eS,λh=>cm (λe=>Z9 eS (of_decide_eq_true h) (e.2.1)),λh1=>?_⟩;obtain⟨e1,h1⟩:=Z8 (of_decide_eq_false h1);rw[h1];refine⟨fg,λh=>cm (λe=>Z9 fg (of_decide_eq_true h) (e.2.2.1)),λh2=>?_⟩;obtain⟨e2,h2⟩:=Z8 (of_decide_eq_false h2);rw[h2];refine⟨λh=>cm (λe=>YS h (e.2.2.2.1).symm),λh3=>?_⟩;have e3:=(YW h3).symm;refine⟨λh=>cm (λe=>YS h (e.2.2.2.2.1).symm),λh4=>?_⟩;have e4:=(YW h4).symm;refine⟨N3,λh=>cm (λe=>Z9 N3 (of_decide_eq_true h) (e.2.2.2.2.2.1)),λh5=>?_⟩;obtain⟨e5,h5⟩:=Z8 (of_decide_eq_false h5);rw[h5];refine⟨N5,λh=>cm (λe=>Z9 N5 (of_decide_eq_true h) (e.2.2.2.2.2.2.1)),λh6=>?_⟩;obtain⟨e6,h6⟩:=Z8 (of_decide_eq_false h6);rw[h6];refine⟨N7,λh=>cm (λe=>Z9 N7 (of_decide_eq_true h) (e.2.2.2.2.2.2.2.1)),λh7=>?_⟩;obtain⟨e7,h7⟩:=Z8 (of_decide_eq_false h7);rw[h7];refine⟨N9,λh=>cm (λe=>Z9 N9 (of_decide_eq_true h) (e.2.2.2.2.2.2.2.2.1)),λh8=>?_⟩;obtain⟨e8,h8⟩:=Z8 (of_decide_eq_false h8);rw[h8];refine⟨Ob,λh=>cm (λe=>Z9 Ob (of_decide_eq_true h) (e.2.2.2.2.2.2.2.2.2.1)),λh9=>?_⟩;obtain⟨e9,h9⟩:=Z8 (of_decide_eq_false h9);rw[h9];refine⟨sI,λh=>cm (λe=>Z9 sI (of_decide_eq_true h) (e.2.2.2.2.2.2.2.2.2.2.1)),λnh=>?_⟩;obtain⟨e10,nh⟩:=Z8 (of_decide_eq_false nh);rw[nh];refine⟨sK,λh=>cm (λe=>Z9 sK (of_decide_eq_true h) (e.2.2.2.2.2.2.2.2.2.2.2.1)),λxC=>?_⟩;obtain⟨e11,xC⟩:=Z8 (of_decide_eq_false xC);rw[xC];refine⟨λh=>cm (λe=>YS h (e.2.2.2.2.2.2.2.2.2.2.2.2.1).symm),λh12=>?_⟩;have e12:=(YW h12).symm;refine⟨λh=>cm (λe=>YS h (e.2.2.2.2.2.2.2.2.2.2.2.2.2).symm),λh13=>?_⟩;have e13:=(YW h13).symm;exact dj ⟨e0,e1,e2,e3,e4,e5,e6,e7,e8,e9,e10,e11,e12,e13⟩
 ·intro kk hq;refine Qsa _ _ _ _ ?_
  conv=>zeta
  exact⟨λh=>absurd h (by simp),λ_=>hq⟩
theorem QV7:Qf Tryz.prog N0:=Qi λx h=>QGi x.1 x.2.1 h
def Of(t:Int × Qk):aB:=⟨(aL t.1),[],[],true,[(.sl 0 QF (.dp 0 false []) t.2.1),(.sl 0 Qe (.dp 0 false []) t.2.2.1),(.sl 0 Qh (.dp 0 false []) t.2.2.2.1),(.sl 0 Qh (.dp 0 false []) t.2.2.2.2)]⟩
def Og:aI:=Qg 25 [(.s QM),(.c TI)] λx=>(none,Of (ZZ (α:=Qk) x.1 x.2.1))
def QTw:aF:=⟨[NM,NY,NU],true⟩
def QST:af :=
 (ag [(.ae [aC 2 (.box 56 0 4),ab 4 (aq 0)]),(.ae [ak 5 2 0,an 6 5 1,ab 7 1,aD 8 42 [6,7],ab 1 8]),(.ae [ak 9 2 1,an 10 9 1,ab 11 1,aD 12 95 [10,11],ab 1 12]),(.ae [ak 13 2 2,an 14 13 1,ab 15 1,aD 16 96 [14,15],ab 1 16]),(.ae [ak 17 2 3,an 18 17 1,ab 19 1,aD 20 96 [18,19],ab 1 20]),(.ae [ab 21 1,ab 4 21]),.ret])
def QHf:List (bn × Md):=[(.t 4,.one .d)]
theorem QTP(a:Qk)(k:Int):aK Tryz.prog 25 [(.a [(.ow 0 QF dw a.1),(.ow 0 Qe dw a.2.1),(.ow 0 Qh dw a.2.2.1),(.ow 0 Qh dw a.2.2.2)]),(.c TI k)] (Of (ZZ (α:=Qk) a k)):=by
 refine bz QTw QST QHf 0 4 22 Og (kc QQY (kc QGf (kc QIU kn))) (λK =>
 (((a.1).length=(a.1).length)/\(((a.2.1).length=(a.2.1).length)/\(((a.2.2.1).length=(a.2.2.1).length)/\(((a.2.2.2).length=(a.2.2.2).length)/\K (Of ((QT (α:=List Qd) a.2.2.2 ((QT (α:=List Qd) a.2.2.1 ((QT (α:=List Qc) a.2.1 ((QT (α:=List Qo) a.1 k).1)).1)).1)).1,((QT (α:=List Qo) a.1 k).2,(QT (α:=List Qc) a.2.1 ((QT (α:=List Qo) a.1 k).1)).2,(QT (α:=List Qd) a.2.2.1 ((QT (α:=List Qc) a.2.1 ((QT (α:=List Qo) a.1 k).1)).1)).2,(QT (α:=List Qd) a.2.2.2 ((QT (α:=List Qd) a.2.2.1 ((QT (α:=List Qc) a.2.1 ((QT (α:=List Qo) a.1 k).1)).1)).1)).2)))))))) (λhb=>?_)
 have sM:(a.1).length<=9223372036854775807:=hb.1.1.1;have sN:(a.2.1).length<=9223372036854775807:=hb.1.2.1.1;have sO:(a.2.2.1).length<=9223372036854775807:=hb.1.2.2.1.1;have sP:(a.2.2.2).length<=9223372036854775807:=hb.1.2.2.2.1.1;repeat' apply And.intro
 all_goals first | rfl | exact au rfl
theorem QLC:Qf Tryz.prog Og:=Qi λx _=>QTP x.1 x.2.1
def sQ(t:Int):aB:=b6 (aL t)
def Oh:aI:=Qg 43 [(.a QM),(.c TI)] λx=>(some (Jn (α:=Qk) x.1 x.2.1),sQ (ef (α:=Qk) x.1 x.2.1))
def QJ1:aF:=⟨[NO,N0,NW],false⟩
def QIO:af :=
 (ag [(.ae [aC 2 (.box 56 0 4),ab 4 (aq 0)]),(.ae [ak 5 2 0,an 6 5 1,ab 7 1,aD 8 136 [6,7],ab 1 8]),(ag [(.ae [ab 9 1,aw 10 .lss 9 (aq 0)]),(.cond 10 (ag [(.ae [ab 4 (aq (-1))]),.ret]) .skip)]),(.ae [ak 11 2 1,an 12 11 1,ab 13 1,aD 14 137 [12,13],ab 1 14]),(ag [(.ae [ab 15 1,aw 16 .lss 15 (aq 0)]),(.cond 16 (ag [(.ae [ab 4 (aq (-1))]),.ret]) .skip)]),(.ae [ak 17 2 2,an 18 17 1,ab 19 1,aD 20 138 [18,19],ab 1 20]),(ag [(.ae [ab 21 1,aw 22 .lss 21 (aq 0)]),(.cond 22 (ag [(.ae [ab 4 (aq (-1))]),.ret]) .skip)]),(.ae [ak 23 2 3,an 24 23 1,ab 25 1,aD 26 138 [24,25],ab 1 26]),(ag [(.ae [ab 27 1,aw 28 .lss 27 (aq 0)]),(.cond 28 (ag [(.ae [ab 4 (aq (-1))]),.ret]) .skip)]),(.ae [ab 29 1,ab 4 29]),.ret])
def QU0:List (bn × Md):=[(.t 4,.one .d)]
theorem QUu(a:Qk)(k:Int)(hp:Jn (α:=Qk) a k):aK Tryz.prog 43 [(.a (aS.cells QM a)),(.c TI k)] (sQ (ef (α:=Qk) a k)):=by
 refine bz QJ1 QIO QU0 0 0 30 Oh (kc QT3 (kc QV7 (kc QP7 kn))) (λK =>
 let z3:=aT (α:=List Qo) a.1 k
 let z1:=aT (α:=List Qc) a.2.1 z3
 let z2:=aT (α:=List Qd) a.2.2.1 z1
 ((Q5 (α:=List Qo) a.1 k)/\(aJ (decide (z3<0)) (K (sQ (-1:Int))) ((Q5 (α:=List Qc) a.2.1 z3)/\(aJ (decide (z1<0)) (K (sQ (-1:Int))) ((Q5 (α:=List Qd) a.2.2.1 z1)/\(aJ (decide (z2<0)) (K (sQ (-1:Int))) ((Q5 (α:=List Qd) a.2.2.2 z2)/\(aJ (decide ((aT (α:=List Qd) a.2.2.2 z2)<0)) (K (sQ (-1:Int))) (K (sQ (aT (α:=List Qd) a.2.2.2 z2)))))))))))) (λhb=>?_)
 have sM:(a.1).length<=9223372036854775807:=hb.1.1.1;have sN:(a.2.1).length<=9223372036854775807:=hb.1.2.1.1;have sO:(a.2.2.1).length<=9223372036854775807:=hb.1.2.2.1.1;have sP:(a.2.2.2).length<=9223372036854775807:=hb.1.2.2.2.1.1
 conv=>zeta
 have gH:=(tN hp).1;have fL:=(tN hp).2;have eS:=(tN fL).1;have iK:=(tN fL).2;have fg:=(tN iK).1;have gh:=(tN iK).2;simp only[QGb,QH1,QJG,QSw]at gH fL eS iK fg gh;refine⟨(o6 gH),λh=>au (AD (λe=>Z9 (o6 gH) (of_decide_eq_true h) (congrArg (λz=>z.1) e))).symm,λg0=>?_⟩;obtain⟨e0,h0⟩:=Z8 (of_decide_eq_false g0);rw[h0];refine⟨(o6 eS),λh=>au (AD (λe=>Z9 (o6 eS) (of_decide_eq_true h) (congrArg (λz=>z.2.1) e))).symm,λg1=>?_⟩;obtain⟨e1,h1⟩:=Z8 (of_decide_eq_false g1);rw[h1];refine⟨(o6 fg),λh=>au (AD (λe=>Z9 (o6 fg) (of_decide_eq_true h) (congrArg (λz=>z.2.2.1) e))).symm,λg2=>?_⟩;obtain⟨e2,h2⟩:=Z8 (of_decide_eq_false g2);rw[h2];refine⟨(o6 gh),λh=>au (AD (λe=>Z9 (o6 gh) (of_decide_eq_true h) (congrArg (λz=>z.2.2.2) e))).symm,λg3=>?_⟩;obtain⟨e3,h3⟩:=Z8 (of_decide_eq_false g3);rw[h3];exact au (Ty (x:=a) (k:=k) (Prod.ext e0 (Prod.ext e1 (Prod.ext e2 e3)))).symm
theorem QL3:Qf Tryz.prog Oh:=Qi λx h=>QUu x.1 x.2.1 h
end
end Go.Proofs.YtdplaepmjogjjaaGreat.Am

namespace Go.Proofs.YtdplaepmjogjjaaGreat.Am
open Go Go.RowKit Go.Proofs.YtdplaepmjogjjaaGreat
set_option linter.all false
set_option maxHeartbeats 2000000
noncomputable section
variable (K:aB->Prop)
def Jg(t:Bool):aB:=b6 (bE t)
def QJ9:aI:=Qg 10 [(.a QM),(.c TI)] λx=>(none,Jg (Ge x.1 x.2.1))
def QPZ:aF:=⟨[Iv,Ix,Ns,Np,Iy,Og,Oh],false⟩
def QGv:af :=
 (ag [(.ae [aC 2 (.box 49 0 4),ab 4 (a6 false)]),(.ae [ab 5 (aq 1048576)]),(.ae [a8 13 2 4,ab 14 5,aD 15 19 [13,14],ab 5 15]),(ag [(.ae [ab 16 5,aw 17 .lss 16 (aq 0)]),(.cond 17 (ag [(.ae [ab 4 (a6 true)]),.ret]) .skip)]),(.ae [a8 18 2 4,aD 19 21 [18],ab 20 1,aD 21 51 [19,20],aC 6 (.new 56 (bG QM)),aU 6 21 4]),(.ae [a8 22 2 4,aD 23 21 [22],aC 7 (.new 56 (bG QM)),aU 7 23 4]),(.ae [a8 24 7 4,ab 25 1,aD 26 52 [24,25],aC 8 (.new 56 (bG QM)),aU 8 26 4]),(ag [(.ae [a8 27 8 4,a8 28 6 4,aD 29 24 [27,28],bL 30 29]),(.cond 30 (ag [(.ae [ab 4 (a6 false)]),.ret]) .skip)]),(ag [(.draw [a8 31 7 4,a8 32 2 4,aD 33 21 [32],aD 34 24 [31,33],bL 35 34] [(0,2)]),(.cond 35 (ag [(.ae [ab 4 (a6 false)]),.ret]) .skip)]),(.ae [ab 9 (aq 1)]),(.ae [a8 36 7 4,ab 37 9,aD 38 25 [36,37],ab 9 38]),(ag [(.ae [ab 39 9,aw 40 .lss 39 (aq 0),ab 41 40,.bt 41 false [a8 42 8 4,a8 43 6 4,aD 44 24 [42,43],bL 45 44] 46 45]),(.cond 46 (ag [(.ae [ab 4 (a6 false)]),.ret]) .skip)]),(.ae [ab 10 (aq 1)]),(.ae [a8 47 8 4,ab 48 10,aD 49 25 [47,48],ab 10 49]),(.ae [ab 11 (aq 1)]),(.ae [a8 50 8 4,ab 51 11,aD 52 43 [50,51],ab 11 52]),(ag [(.ae [ab 53 11,aw 54 .lss 53 (aq 0)]),(.cond 54 (ag [(.ae [ab 4 (a6 false)]),.ret]) .skip)]),(ag [(.ae [ab 55 11,ab 56 10,aw 57 .neq 55 56]),(.cond 57 (ag [(.ae [ab 4 (a6 false)]),.ret]) .skip)]),(.ae [a8 58 2 4,aD 59 21 [58],ab 60 1,aD 61 52 [59,60],aC 12 (.new 56 (bG QM)),aU 12 61 4]),(ag [(.ae [a8 62 12 4,a8 63 6 4,aD 64 24 [62,63],bL 65 64]),(.cond 65 (ag [(.ae [ab 4 (a6 false)]),.ret]) .skip)]),(.ae [ab 11 (aq 1)]),(.ae [a8 66 8 4,ab 67 11,aD 68 43 [66,67],ab 11 68]),(ag [(.ae [ab 69 11,aw 70 .lss 69 (aq 0)]),(.cond 70 (ag [(.ae [ab 4 (a6 false)]),.ret]) .skip)]),(ag [(.ae [ab 71 11,ab 72 10,aw 73 .neq 71 72]),(.cond 73 (ag [(.ae [ab 4 (a6 false)]),.ret]) .skip)]),(.ae [ab 4 (a6 true)]),.ret])
def QYe:List (bn × Md):=[(.t 4,.one .d)]
theorem fN(aP:Qk)(aN:Int):aK Tryz.prog 10 [(.a (aS.cells QM aP)),(.c TI aN)] (Jg (Ge aP aN)):=by
 refine bz QPZ QGv QYe 0 0 74 QJ9 (kc QWt (kc QLa (kc QXq (kc QQc (kc QE9 (kc QLC (kc QL3 kn))))))) (λK =>
 let z3:=id (α:=Qk) aP
 let z8:=List.take ((z3.2.2.1).length) (List.drop 0 (z3.2.2.1))
 let z9:=List.take ((z3.2.2.2).length) (List.drop 0 (z3.2.2.2))
 let eX:=List.take ((z3.2.1).length) (List.drop 0 (z3.2.1))
 let eW:=List.take ((z3.1).length) (List.drop 0 (z3.1))
 let z1:=Zy (eW,eX,z8,z9) aN
 let z4:=aZ (α:=Qk) ((List.take ((z1.1).length) (List.drop 0 (z1.1))),(List.take ((z1.2.1).length) (List.drop 0 (z1.2.1))),(List.take ((z1.2.2.1).length) (List.drop 0 (z1.2.2.1))),(List.take ((z1.2.2.2).length) (List.drop 0 (z1.2.2.2)))) z1
 let z5:=sv (eW,eX,z8,z9) aN
 let z6:=ZZ (α:=Qk) z1 (1:Int)
 let dQ:=bB (α:=Qk) aP
 let gx:=List.take ((z1.2.2.1).length) (List.drop 0 ((z6.2).2.2.1))
 let gy:=List.take ((z1.2.2.2).length) (List.drop 0 ((z6.2).2.2.2))
 let gU:=List.take ((z1.2.1).length) (List.drop 0 ((z6.2).2.1))
 let gV:=List.take ((z1.1).length) (List.drop 0 ((z6.2).1))
 let z2:=ef (α:=Qk) (gV,gU,gx,gy) (1:Int)
 let z7:=Jn (α:=Qk) (gV,gU,gx,gy) (1:Int)
 ((bJ (α:=Qk) aP (1048576:Int))/\(aJ (decide ((bh (α:=Qk) aP (1048576:Int))<(0:Int))) (K (Jg true)) ((dQ/\z5)/\(dQ/\(z5/\(aJ (!z4) (K (Jg false)) (dQ/\(aJ (!(aZ (α:=Qk) (eW,eX,z8,z9) (eW,eX,z8,z9))) (K (Jg false)) ((((z3.1).length=(z3.1).length)/\(((z3.2.1).length=(z3.2.1).length)/\(((z3.2.2.1).length=(z3.2.2.1).length)/\((z3.2.2.2).length=(z3.2.2.2).length))))/\(aJ ((decide (((ZZ (α:=Qk) z3 (1:Int)).1)<(0:Int)))||(!z4)) (K (Jg false)) ((((z1.1).length=(z1.1).length)/\(((z1.2.1).length=(z1.2.1).length)/\(((z1.2.2.1).length=(z1.2.2.1).length)/\((z1.2.2.2).length=(z1.2.2.2).length))))/\(z7/\(aJ (decide (z2<(0:Int))) (K (Jg false)) (aJ (z2 != (z6.1)) (K (Jg false)) ((dQ/\z5)/\(aJ (!z4) (K (Jg false)) (z7/\(aJ (decide (z2<(0:Int))) (K (Jg false)) (aJ (z2 != (z6.1)) (K (Jg false)) (K (Jg true)))))))))))))))))))))) (λhb=>?_)
 refine⟨Gg,λ_=>rfl,λOi=>?_⟩;have sR:=QGJ (of_decide_eq_false Oi) (Int.le_refl _);have s1:Sz.sz aP<=1048576:=sR;have hl:sv aP aN:=by unfold sv;omega
 have iM:Sz.sz (Zy aP aN)<=4294967296:=by have:=QXT aP aN;omega
 have ka0:=TC (x:=aP) (k:=(1:Int)) (b:=1) (c:=1048576) ⟨by omega,by omega⟩ (TB aP) (show Sz.sz aP<=1048576 from sR) (by omega);have kn:¬ ((ZZ aP (1:Int)).1<0):=by have:=ka0.2.1;omega
 have kr0:=TC (x:=(Zy aP aN)) (k:=(1:Int)) (b:=1) (c:=4294967296) ⟨by omega,by omega⟩ (TB _) iM (by omega);obtain⟨kp0,kh0⟩:=QHj kr0.1;have kn0:¬ ((ZZ (Zy aP aN) (1:Int)).1<0):=by have:=kr0.2.1;omega
 have y3:List.take ((Zy aP aN).1).length ((ZZ (Zy aP aN) (1:Int)).2.1)=(ZZ (Zy aP aN) (1:Int)).2.1:=AA _ _;have y4:List.take ((Zy aP aN).2.1).length ((ZZ (Zy aP aN) (1:Int)).2.2.1)=(ZZ (Zy aP aN) (1:Int)).2.2.1:=AA _ _;have y6:List.take ((Zy aP aN).2.2.1).length ((ZZ (Zy aP aN) (1:Int)).2.2.2.1)=(ZZ (Zy aP aN) (1:Int)).2.2.2.1:=AA _ _;have y7:List.take ((Zy aP aN).2.2.2).length ((ZZ (Zy aP aN) (1:Int)).2.2.2.2)=(ZZ (Zy aP aN) (1:Int)).2.2.2.2:=AA _ _;simp only[id_eq,List.drop_zero,List.take_length,Prod.eta];simp[aJ,aZ,QOK,Ge,QTq,QFK,QTv,sR,kn,kp0,kh0,kn0,y3,y4,y6,y7,hl]
end
end Go.Proofs.YtdplaepmjogjjaaGreat.Am

