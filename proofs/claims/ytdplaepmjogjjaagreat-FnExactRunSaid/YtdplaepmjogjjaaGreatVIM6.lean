/-
  Written by program: the code of functions, what it asks, and that it comes to what the models say.
-/
import Derived.Test.YtdplaepmjogjjaaGreatVIM5
namespace Go.Proofs.YtdplaepmjogjjaaGreat.Am
open Go Go.RowKit Go.Proofs.YtdplaepmjogjjaaGreat
set_option linter.all false
noncomputable section
variable (K:aB->Prop)
def C4(t:bp):aB:=b7 (.a [(aL t.1),(aL t.2)])
def C5:aI:=Qg 144 [(.a QM),(.c TI)] λx=>(none,C4 (Ql x.1 x.2.1))
def QWD:aF:=⟨[YQ],false⟩
def QPh:af :=
 (ag [(.ae [aC 2 (.box 56 0 4),aC 4 (.new 175 (bG QQ))]),(ag [(.draw [ab 5 1,ak 6 2 1,an 7 6 1,a9 8 7,aw 9 .sub 8 (ar 1),aD 10 158 [5,(ar 0),9],bL 11 10,ab 12 11,.bt 12 false [ak 13 2 1,an 14 13 1,ab 15 1,aZ 16 14 15 Qe,ak 17 16 0,an 18 17 1,ak 19 2 1,an 20 19 1,ab 21 1,aZ 22 20 21 Qe,ak 23 22 1,an 24 23 1,a9 25 24,aw 26 .sub 25 (ar 1),aD 27 158 [18,(ar 0),26],bL 28 27] 29 28] []),(.cond 29 (ag [(.ae [aC 30 (.build (bG QQ) []),aT 4 30 2]),.ret]) .skip)]),(.draw [ak 31 2 1,an 32 31 1,ab 33 1,aZ 34 32 33 Qe,ak 35 34 1,an 36 35 1,ak 37 2 1,an 38 37 1,ab 39 1,aZ 40 38 39 Qe,ak 41 40 0,an 42 41 1,aZ 43 36 42 QQ,a7 44 43 2,aT 4 44 2] []),.ret])
def QML:List (bm × Md):=[(.l 4 2 true,.b [.d,.d])]
theorem QVu(p:Qk)(s:Int):aK Tryz.prog 144 [(.a (aR.cells QM p)),(.c TI s)] (C4 (Ql p s)):=by
 refine bw QWD QPh QML 0 0 45 C5 (kc Jo kn) (λK =>
 (((!(!(bh s (0:Int) (aG (((p.2.1).length:Int)-1)))))=true->((0<=s/\Int.toNat s<(p.2.1).length)/\(0<=s/\Int.toNat s<(p.2.1).length)))/\(aJ ((!(bh s (0:Int) (aG (((p.2.1).length:Int)-1))))||(!(bh ((aq Qz p.2.1 (Int.toNat s)).1) (0:Int) (aG ((((aq Qz p.2.1 (Int.toNat s)).2.1).length:Int)-1))))) (K (C4 ((0:Int),(0:Int)))) (((0<=s/\Int.toNat s<(p.2.1).length)/\((0<=s/\Int.toNat s<(p.2.1).length)/\((0:Int)<=(aq Qz p.2.1 (Int.toNat s)).1/\Int.toNat ((aq Qz p.2.1 (Int.toNat s)).1)<((aq Qz p.2.1 (Int.toNat s)).2.1).length)))/\K (C4 (aq eG ((aq Qz p.2.1 (Int.toNat s)).2.1) (Int.toNat ((aq Qz p.2.1 (Int.toNat s)).1)))))))) (λhb=>?_)
 have f5:(p.1).length<=9223372036854775807:=hb.1.1.1;have fC:(p.2.1).length<=9223372036854775807:=hb.1.2.1.1;have gW:(p.2.2.1).length<=9223372036854775807:=hb.1.2.2.1.1;have gX:(p.2.2.2).length<=9223372036854775807:=hb.1.2.2.2.1.1;have e1:aG ((p.2.1.length:Int)-1)=p.2.1.length-1:=QG (by omega) (by omega);rw[e1];by_cases h0:bh s 0 (p.2.1.length-1)=true
 ·have h1:=Zb.1 h0;have aU:s.toNat<p.2.1.length:=by omega
  have dF:=JI aU Qz;have jW:(aq Qz p.2.1 s.toNat).2.1.length<=9223372036854775807:=(hb.1.2.1.2 _ dF).2.1.1;rw[QG (x:=((aq Qz p.2.1 s.toNat).2.1.length:Int)-1) (by omega) (by omega)];refine⟨λ_=>⟨⟨h1.1,aU⟩,h1.1,aU⟩,λh=>au ?_,λh=>⟨⟨⟨h1.1,aU⟩,⟨h1.1,aU⟩,?_⟩,au ?_⟩⟩
  ·simp[h0]at h;simp[Ql,h0,ry,h]
  ·simp[h0]at h;have:=Zb.1 h;omega
  ·simp[h0]at h;simp[Ql,h0,ry,h]
 ·refine⟨λh=>by simp[h0]at h,λh=>au ?_,λh=>by simp[h0]at h⟩;simp[Ql,h0]
theorem QvL:Qf Tryz.prog C5:=Qi λx _=>QVu x.1 x.2.1
def yS(t:bp):aB:=b7 (.a [(aL t.1),(aL t.2)])
def C6:aI:=Qg 148 [(.a QM),(.c TI)] λx=>(none,yS (Ql x.1 x.2.1))
def QOv:aF:=⟨[],false⟩
def QPZ:af :=
 (ag [(.ae [aC 2 (.box 56 0 4),aC 4 (.new 175 (bG QQ))]),(ag [(.ae [ab 6 1,aw 7 .lss 6 (ar 0),ab 8 7,.bt 8 false [ab 9 1,ak 10 2 1,an 11 10 1,a9 12 11,aw 13 .geq 9 12] 14 13]),(.cond 14 (ag [(.ae [aC 15 (.build (bG QQ) []),aT 4 15 2]),.ret]) .skip)]),(.ae [ak 16 2 1,an 17 16 1,ab 18 1,aZ 19 17 18 Qe,a7 20 19 14,aC 5 (.new 39 (bG Qe)),aT 5 20 14]),(ag [(.ae [ak 21 5 0,an 22 21 1,aw 23 .lss 22 (ar 0),ab 24 23,.bt 24 false [ak 25 5 0,an 26 25 1,ak 27 5 1,an 28 27 1,a9 29 28,aw 30 .geq 26 29] 31 30]),(.cond 31 (ag [(.ae [aC 32 (.build (bG QQ) []),aT 4 32 2]),.ret]) .skip)]),(.ae [ak 33 5 1,an 34 33 1,ak 35 5 0,an 36 35 1,aZ 37 34 36 QQ,a7 38 37 2,aT 4 38 2]),.ret])
def QPT:List (bm × Md):=[(.l 4 2 true,.b [.d,.d])]
theorem QNx(p:Qk)(s:Int):aK Tryz.prog 148 [(.a (aR.cells QM p)),(.c TI s)] (yS (Ql p s)):=by
 refine bw QOv QPZ QPT 0 0 39 C6 kn (λK =>
 (aJ ((decide (s<0))||(decide (s>=((p.2.1).length:Int)))) (K (yS ((0:Int),(0:Int)))) ((0<=s/\Int.toNat s<(p.2.1).length)/\(aJ ((decide (((aq Qz p.2.1 (Int.toNat s)).1)<0))||(decide (((aq Qz p.2.1 (Int.toNat s)).1)>=(((aq Qz p.2.1 (Int.toNat s)).2.1).length:Int)))) (K (yS ((0:Int),(0:Int)))) (((0:Int)<=(aq Qz p.2.1 (Int.toNat s)).1/\Int.toNat ((aq Qz p.2.1 (Int.toNat s)).1)<((aq Qz p.2.1 (Int.toNat s)).2.1).length)/\K (yS (aq eG ((aq Qz p.2.1 (Int.toNat s)).2.1) (Int.toNat ((aq Qz p.2.1 (Int.toNat s)).1))))))))) (λhb=>?_)
 refine⟨λh=>au ?_,λh=>?_⟩
 ·have h0:bh s 0 (p.2.1.length-1)=false:=by simp at h;simp[bh];omega
  simp[Ql,h0]
 have h0:bh s 0 (p.2.1.length-1)=true:=by simp at h;simp[bh];omega
 have h1:=Zb.1 h0;have aU:s.toNat<p.2.1.length:=by omega
 refine⟨⟨h1.1,aU⟩,λh=>au ?_,λh=>?_⟩
 ·have h2:bh (aq Qz p.2.1 s.toNat).1 0 ((aq Qz p.2.1 s.toNat).2.1.length-1)=false:=by simp at h;simp[bh];omega
  simp[Ql,h0,ry,h2]
 ·have h2:bh (aq Qz p.2.1 s.toNat).1 0 ((aq Qz p.2.1 s.toNat).2.1.length-1)=true:=by simp at h;simp[bh];omega
  have h3:=Zb.1 h2;refine⟨⟨h3.1,by omega⟩,au ?_⟩;simp[Ql,h0,ry,h2]
theorem QuZ:Qf Tryz.prog C6:=Qi λx _=>QNx x.1 x.2.1
def yT(t:Bool):aB:=b7 (bE t)
def Nj:aI:=Qg 177 [(.a QM)] λx=>(none,yT (oX x.1))
def Nk:aF:=⟨[],false⟩
def QCe:af :=
 (ag [(ag [(.ae [ab 4 3,ak 5 1 1,an 6 5 1,a9 7 6,aw 8 .lss 4 7]),(.cond 8 .skip (.exit 0))]),(.block 1 (ag [(.draw [ak 11 1 1,an 12 11 1,ab 13 3,aZ 14 12 13 Qe,ak 15 14 0,an 16 15 1,ak 17 1 1,an 18 17 1,ab 19 3,aZ 20 18 19 Qe,ak 21 20 1,an 22 21 1,a9 23 22,aw 24 .sub 23 (ar 1),aw 25 .lss 16 24] []),(.cond 25 (ag [(.ae [ab 2 (a0 false)]),.ret]) .skip)])),(.ae [ab 9 3,aw 10 .add 9 (ar 1),ab 3 10])])
def QEm:List (Nat × Md):=[(1,.b (dH 4)),(3,.one .d)]
def QEo:af :=
 (ag [(.ae [ab 2 (a0 true)]),.ret])
def QRo:af :=
 (ag [(.ae [aC 1 (.box 56 0 4),ab 2 (a0 false)]),(ag [(.ae [ab 3 (ar 0)]),(.block 0 (.loop QEm QCe))]),QEo])
def Qrv:List (bm × Md):=[(.t 2,.one .d)]
def QC1:Qb:=TQ 0 0 Qrv K
def QFK:Qb:=aY (aN Nk 0 QEo (QC1 K)) (QC1 K)
def QJb:Qb:=a6 0 (QFK K)
def C7(p:Qk)(s:Int):Prop:=Loop Nk 0 QEm QCe (QJb K) ⟨[(1,(.p 0 0 0)),(3,(aL s))],[(0,(.box (aR.cells QM p)))],1⟩
theorem Qtq(p:Qk)(s:Int) (h :
 (aJ (decide (s<((p.2.1).length:Int))) (((0<=s/\Int.toNat s<(p.2.1).length)/\(0<=s/\Int.toNat s<(p.2.1).length))/\(aJ (decide (((aq Qz p.2.1 (Int.toNat s)).1)<(aG ((((aq Qz p.2.1 (Int.toNat s)).2.1).length:Int)-1)))) (K (yT false)) (C7 K p (aG (s+1))))) (K (yT true)))):C7 K p s :=
 Loop.of h
theorem QXM(p:Qk):aK Tryz.prog 177 [(.a (aR.cells QM p))] (yT (oX p)):=by
 refine bw Nk QRo Qrv 0 0 26 Nj kn (λK =>
 (C7 K p 0)) (λhb=>?_)
 have f5:(p.1).length<=9223372036854775807:=hb.1.1.1;have fC:(p.2.1).length<=9223372036854775807:=hb.1.2.1.1;have gW:(p.2.2.1).length<=9223372036854775807:=hb.1.2.2.1.1;have gX:(p.2.2.2).length<=9223372036854775807:=hb.1.2.2.2.1.1;refine Za p.2.1 (λr k=>r.all Y8=p.2.1.all Y8->C7 (λr'=>r'=yT (oX p)) p k) ?_ ?_ rfl
 ·intro he;refine Qtq _ _ _ ⟨λh=>by simp at h,λ_=>au ?_⟩;exact he
 ·intro k x r hk aU hg ih he;have dF:x∈p.2.1:=List.mem_of_mem_drop (i:=k) (by rw[hk];exact List.mem_cons_self);have jW:x.2.1.length<=9223372036854775807:=(hb.1.2.1.2 x dF).2.1.1;refine Qtq _ _ _ ⟨λ_=>?_,λh=>by simp at h;omega⟩;rw[Int.toNat_natCast,hg,QG (x:=(k:Int)+1) (by omega) (by omega),QG (x:=(x.2.1.length:Int)-1) (by omega) (by omega)];rw[List.all_cons]at he;refine⟨⟨⟨by omega,aU⟩,by omega,aU⟩,λh=>au ?_,λh=>ih ?_⟩
  ·have:Y8 x=false:=by simp at h;simp[Y8];omega
   rw[this]at he;exact he
  ·have:Y8 x=true:=by simp at h;simp[Y8];omega
   rw[this,Bool.true_and]at he;exact he
theorem QJ6:Qf Tryz.prog Nj:=Qi λx _=>QXM x.1
def Jh(t:Bool):aB:=b7 (bE t)
def Nl:aI:=Qg 89 [(.a QM),(.c TI)] λx=>(none,Jh (ZI x.1 x.2.1))
def Nm:aF:=⟨[M9,YQ,C5,Nj],false⟩
def Qto:af :=
 (.cond 100 (ag [(.ae [ab 4 (a0 true)]),.ret]) (ag [(.ae [aw 105 .eql 20 (ar 8),ab 104 105]),(.cond 104 (ag [(.ae [a7 106 2 4,aD 107 177 [106],ab 4 107]),.ret]) .skip)]))
def QS4:List (Nat × Md):=[(2,.b (dH 4)),(20,.one .d),(100,.one .d)]
def QLF:af:=.wk QS4 Qto
def Qrb:af :=
 (ag [(.ae [ab 4 (a0 false)]),.ret])
def QKa:af :=
 (ag [(.ae [aC 2 (.box 56 0 4),ab 4 (a0 false)]),(ag [(.ae [a7 5 2 4,aD 6 176 [5],bL 7 6,ab 8 7,.bt 8 false [ab 9 1,ak 10 2 1,an 11 10 1,a9 12 11,aw 13 .sub 12 (ar 1),aD 14 158 [9,(ar 0),13],bL 15 14] 16 15]),(.cond 16 (ag [(.ae [ab 4 (a0 false)]),.ret]) .skip)]),(ag [(.ae [a7 17 2 4,ab 18 1,aD 19 144 [17,18],aC 20 (.kY 19 0 1 false)]),(.block 0 (ag [(.ae [aw 22 .eql 20 (ar 1),ab 21 22]),(.cond 21 (ag [(.ae [ab 23 1,aw 24 .gtr 23 (ar 0),ab 25 24,.bt 25 true [ak 26 2 2,an 27 26 1,ab 28 1,aw 29 .sub 28 (ar 1),aZ 30 27 29 Qh,ak 31 30 1,an 32 31 1,a9 33 32,aw 34 .gtr 33 (ar 0)] 35 34,ab 4 35]),.ret]) (ag [(.ae [aw 37 .eql 20 (ar 3),ab 36 37]),(.cond 36 (ag [(.draw [ab 38 1,ak 39 2 1,an 40 39 1,a9 41 40,aw 42 .sub 41 (ar 1),aw 43 .lss 38 42,ab 44 43,.bt 44 true [ak 45 2 2,an 46 45 1,ab 47 1,aZ 48 46 47 Qh,ak 49 48 1,an 50 49 1,a9 51 50,ak 52 2 2,an 53 52 1,ab 54 1,aZ 55 53 54 Qh,ak 56 55 0,an 57 56 1,aw 58 .lss 51 57] 59 58,ab 4 59] []),.ret]) (ag [(.ae [aw 61 .eql 20 (ar 4),ab 60 61]),(.cond 60 (ag [(.ae [ab 62 1,ak 63 2 1,an 64 63 1,a9 65 64,aw 66 .sub 65 (ar 1),aw 67 .lss 62 66,ab 68 67,.bt 68 true [ak 69 2 3,an 70 69 1,ab 71 1,aZ 72 70 71 Qh,ak 73 72 1,an 74 73 1,a9 75 74,aw 76 .gtr 75 (ar 0)] 77 76,ab 4 77]),.ret]) (ag [(.ae [aw 79 .eql 20 (ar 7),ab 78 79]),(.cond 78 (ag [(.draw [ab 80 1,aw 81 .gtr 80 (ar 0),ab 82 81,.bt 82 true [ak 83 2 3,an 84 83 1,ab 85 1,aw 86 .sub 85 (ar 1),aZ 87 84 86 Qh,ak 88 87 1,an 89 88 1,a9 90 89,ak 91 2 3,an 92 91 1,ab 93 1,aw 94 .sub 93 (ar 1),aZ 95 92 94 Qh,ak 96 95 0,an 97 96 1,aw 98 .lss 90 97] 99 98,ab 4 99] []),.ret]) (ag [(ag [(.ae [aw 101 .eql 20 (ar 2),ab 100 101]),(.cond 100 .skip (ag [(.ae [aw 102 .eql 20 (ar 5),ab 100 102]),(.cond 100 .skip (.ae [aw 103 .eql 20 (ar 6),ab 100 103]))]))]),QLF]))]))]))]))]))]),Qrb])
def QxK:List (bm × Md):=[(.t 4,.one .d)]
def QqZ:Qb:=TQ 0 0 QxK K
def QIA:Qb:=aY (aN Nm 0 Qrb (QqZ K)) (QqZ K)
def QTH:Qb:=a6 0 (QIA K)
@[irreducible] def yU(p:Qk)(s:Int)(x:Bool):Prop:=aN Nm 0 Qto (QTH K) ⟨[(2,(.p 0 0 0)),(20,(aL ((Ql p s).1))),(100,(bE x))],[(0,(.box (aR.cells QM p)))],1⟩
theorem QV8(p:Qk)(s:Int)(x:Bool) (h :
 (aJ x (K (Jh true)) (aJ (((Ql p s).1)==8) (K (Jh (oX p))) (K (Jh false))))):du (yU K p s x) :=
 du.of h
theorem QTy(p:Qk)(s:Int):aK Tryz.prog 89 [(.a (aR.cells QM p)),(.c TI s)] (Jh (ZI p s)):=by
 refine bw Nm QKa QxK 0 0 108 Nl (kc QPu (kc Jo (kc QvL (kc QJ6 kn)))) (λK =>
 (aJ ((!(Zk p))||(!(bh s (0:Int) (aG (((p.2.1).length:Int)-1))))) (K (Jh false)) (aJ (((Ql p s).1)==1) (((decide (s>0))=true->(0<=aG (s-1)/\Int.toNat (aG (s-1))<(p.2.2.1).length))/\K (Jh ((decide (s>0))&&(decide ((((aq Qx p.2.2.1 (Int.toNat (aG (s-1)))).2).length:Int)>0))))) (aJ (((Ql p s).1)==3) (((decide (s<(aG (((p.2.1).length:Int)-1))))=true->((0<=s/\Int.toNat s<(p.2.2.1).length)/\(0<=s/\Int.toNat s<(p.2.2.1).length)))/\K (Jh ((decide (s<(aG (((p.2.1).length:Int)-1))))&&(decide ((((aq Qx p.2.2.1 (Int.toNat s)).2).length:Int)<((aq Qx p.2.2.1 (Int.toNat s)).1)))))) (aJ (((Ql p s).1)==4) (((decide (s<(aG (((p.2.1).length:Int)-1))))=true->(0<=s/\Int.toNat s<(p.2.2.2).length))/\K (Jh ((decide (s<(aG (((p.2.1).length:Int)-1))))&&(decide ((((aq Qx p.2.2.2 (Int.toNat s)).2).length:Int)>0))))) (aJ (((Ql p s).1)==7) (((decide (s>0))=true->((0<=aG (s-1)/\Int.toNat (aG (s-1))<(p.2.2.2).length)/\(0<=aG (s-1)/\Int.toNat (aG (s-1))<(p.2.2.2).length)))/\K (Jh ((decide (s>0))&&(decide ((((aq Qx p.2.2.2 (Int.toNat (aG (s-1)))).2).length:Int)<((aq Qx p.2.2.2 (Int.toNat (aG (s-1)))).1)))))) (aJ (((Ql p s).1)==2) (yU K p s (((Ql p s).1)==2)) (aJ (((Ql p s).1)==5) (yU K p s (((Ql p s).1)==5)) (yU K p s (((Ql p s).1)==6)))))))))) (λhb=>?_)
 have f5:(p.1).length<=9223372036854775807:=hb.1.1.1;have fC:(p.2.1).length<=9223372036854775807:=hb.1.2.1.1;have gW:(p.2.2.1).length<=9223372036854775807:=hb.1.2.2.1.1;have gX:(p.2.2.2).length<=9223372036854775807:=hb.1.2.2.2.1.1;by_cases h0:(Zk p&&bh s 0 (p.2.1.length-1))=true;rotate_left
 ·have e1:aG ((p.2.1.length:Int)-1)=p.2.1.length-1:=QG (by omega) (by omega);rw[e1];refine⟨λh=>au (by grind[ZI]),λh=>by grind⟩
 have yV:=h0;simp only[Bool.and_eq_true,Zb]at yV;have fh:=yV.1;simp only[Zk,Bool.and_eq_true,Zb,beq_iff_eq]at fh;have e1:aG ((p.2.1.length:Int)-1)=p.2.1.length-1:=QG (by omega) (by omega);have e2:aG (s-1)=s-1:=QG (by omega) (by omega);rw[e1,e2];have e4:Int.toNat (s-1)=s.toNat-1:=by omega
 rw[e4];have hM:(ZI p s)=Jr p s (Ql p s).1:=by unfold ZI;rw[h0,Bool.true_and]
 have k2:∀ b:Bool,(b=true->Jr p s (Ql p s).1=true)->(b=false->Jr p s (Ql p s).1=if(Ql p s).1=8 then oX p else false)->yU (λr'=>r'=Jh (ZI p s)) p s b:=by
  intro b iv fy;refine(QV8 (λr'=>r'=Jh (ZI p s)) p s _ ⟨λh=>au ?_,λh=>⟨λh8=>au ?_,λh8=>au ?_⟩⟩).h
  ·rw[hM,iv h]
  ·rw[hM,fy h,if_pos (by simpa using h8)]
  ·rw[hM,fy h,if_neg (by simpa using h8)]
 generalize(Ql p s).1=kd at *;refine⟨λh=>by grind,λ_=>⟨λh1=>⟨λh=>by simp at h;omega,au ?_⟩,λh1=>⟨λh2=>⟨λh=>by simp at h;omega,au ?_⟩,λh2=>⟨λh3=>⟨λh=>by simp at h;omega,au ?_⟩,λh3=>⟨λh4=>⟨λh=>by simp at h;omega,au ?_⟩,λh4=>⟨λh5=>k2 _ ?_ ?_,λh5=>⟨λh6=>k2 _ ?_ ?_,λh6=>k2 _ ?_ ?_⟩⟩⟩⟩⟩⟩⟩
 all_goals (try rw[hM]);simp only[Jr,oW]at *;grind
theorem QM2:Qf Tryz.prog Nl:=Qi λx _=>QTy x.1 x.2.1
def Yu(t:Bool):aB:=b7 (bE t)
def Nn:aI:=Qg 92 [(.a QM),(.c TI)] λx=>(none,Yu (ZI x.1 x.2.1))
def yW:aF:=⟨[Nd,C6,MW],false⟩
def Qru:af :=
 (ag [(.ae [aw 94 .lss 93 92]),(.cond 94 .skip (.exit 1)),(.block 2 (ag [(.ae [aZ 95 91 93 Qe,a7 96 95 14,aC 7 (.new 39 (bG Qe)),aT 7 96 14]),(.ae [ak 97 7 0,an 98 97 1,ak 99 7 1,an 100 99 1,a9 101 100,aw 102 .sub 101 (ar 1),aw 103 .lss 98 102]),(.cond 103 (ag [(.ae [ab 4 (a0 false)]),.ret]) .skip)])),(.ae [aw 104 .add 93 (ar 1),ab 93 104])])
def Qw1:List (Nat × Md):=eW [91,92,93]
def Qv4:af :=
 (ag [(.ae [ab 4 (a0 true)]),.ret])
def QCV:af :=
 (.cond 84 (ag [(.ae [ab 4 (a0 true)]),.ret]) (ag [(.ae [aw 89 .eql 31 (ar 8),ab 88 89]),(.cond 88 (ag [(ag [(.ae [ak 90 2 1,an 91 90 1,a9 92 91,ab 93 (ar 0)]),(.block 1 (.loop Qw1 Qru))]),Qv4]) .skip)]))
def QHy:List (Nat × Md):=[(2,.b (dH 4)),(31,.one .d),(84,.one .d)]
def QNR:af:=.wk QHy QCV
def Qzz:af :=
 (ag [(.ae [ab 4 (a0 false)]),.ret])
def QJ2:af :=
 (ag [(.ae [aC 2 (.box 56 0 4),ab 4 (a0 false)]),(ag [(.ae [a7 8 2 4,aD 9 179 [8],bL 10 9,ab 11 10,.bt 11 false [ab 12 1,aw 13 .lss 12 (ar 0)] 14 13,ab 15 14,.bt 15 false [ab 16 1,ak 17 2 1,an 18 17 1,a9 19 18,aw 20 .geq 16 19] 21 20]),(.cond 21 (ag [(.ae [ab 4 (a0 false)]),.ret]) .skip)]),(.ae [ab 22 1,ak 23 2 1,an 24 23 1,a9 25 24,aw 26 .sub 25 (ar 1),aw 27 .lss 22 26,ab 5 27]),(ag [(.ae [a7 28 2 4,ab 29 1,aD 30 148 [28,29],aC 31 (.kY 30 0 1 false)]),(.block 0 (ag [(.ae [aw 33 .eql 31 (ar 1),ab 32 33]),(.cond 32 (ag [(.ae [ab 34 1,aw 35 .gtr 34 (ar 0),ab 36 35,.bt 36 true [ak 37 2 2,an 38 37 1,ab 39 1,aw 40 .sub 39 (ar 1),aZ 41 38 40 Qh,ak 42 41 1,an 43 42 1,a9 44 43,aw 45 .gtr 44 (ar 0)] 46 45,ab 4 46]),.ret]) (ag [(.ae [aw 48 .eql 31 (ar 3),ab 47 48]),(.cond 47 (ag [(.ae [ab 49 5,ab 50 49,.bt 50 true [ak 51 2 2,an 52 51 1,ab 53 1,aZ 54 52 53 Qh,a7 55 54 2,aD 56 180 [55]] 57 56,ab 4 57]),.ret]) (ag [(.ae [aw 59 .eql 31 (ar 4),ab 58 59]),(.cond 58 (ag [(.ae [ab 60 5,ab 61 60,.bt 61 true [ak 62 2 3,an 63 62 1,ab 64 1,aZ 65 63 64 Qh,ak 66 65 1,an 67 66 1,a9 68 67,aw 69 .gtr 68 (ar 0)] 70 69,ab 4 70]),.ret]) (ag [(.ae [aw 72 .eql 31 (ar 7),ab 71 72]),(.cond 71 (ag [(.ae [ab 73 1,aw 74 .gtr 73 (ar 0),ab 75 74,.bt 75 true [ak 76 2 3,an 77 76 1,ab 78 1,aw 79 .sub 78 (ar 1),aZ 80 77 79 Qh,a7 81 80 2,aD 82 180 [81]] 83 82,ab 4 83]),.ret]) (ag [(ag [(.ae [aw 85 .eql 31 (ar 2),ab 84 85]),(.cond 84 .skip (ag [(.ae [aw 86 .eql 31 (ar 5),ab 84 86]),(.cond 84 .skip (.ae [aw 87 .eql 31 (ar 6),ab 84 87]))]))]),QNR]))]))]))]))]))]),Qzz])
def Qsm:List (bm × Md):=[(.t 4,.one .d)]
def Qtw:Qb:=TQ 0 0 Qsm K
def QPE:Qb:=aY (aN yW 0 Qzz (Qtw K)) (Qtw K)
def Np:Qb:=a6 0 (QPE K)
def QNM:Qb:=aY (aN yW 0 Qv4 (Np K)) (Np K)
def QMX:Qb:=a6 1 (QNM K)
def yX(p:Qk)(x1:Int):Prop:=Loop yW 0 Qw1 Qru (QMX K) ⟨[(91,(bc Qe p.2.1)),(92,(aL ((p.2.1).length:Int))),(93,(aL x1))],[],0⟩
@[irreducible] def yY(p:Qk)(s:Int)(x:Bool):Prop:=aN yW 0 QCV (Np K) ⟨[(2,(.p 0 0 0)),(31,(aL ((Ql p s).1))),(84,(bE x))],[(0,(.box (aR.cells QM p)))],1⟩
theorem QyH(p:Qk)(x1:Int) (h :
 (aJ (decide (x1<((p.2.1).length:Int))) ((0<=x1/\Int.toNat x1<(p.2.1).length)/\(aJ (decide (((aq Qz p.2.1 (Int.toNat x1)).1)<(aG ((((aq Qz p.2.1 (Int.toNat x1)).2.1).length:Int)-1)))) (K (Yu false)) (yX K p (aG (x1+1))))) (K (Yu true)))):yX K p x1 :=
 Loop.of h
theorem QSL(p:Qk)(s:Int)(x:Bool) (h :
 (aJ x (K (Yu true)) (aJ (((Ql p s).1)==8) (yX K p 0) (K (Yu false))))):du (yY K p s x) :=
 du.of h
theorem QTr(p:Qk)(s:Int):aK Tryz.prog 92 [(.a (aR.cells QM p)),(.c TI s)] (Yu (ZI p s)):=by
 refine bw yW QJ2 Qsm 0 0 105 Nn (kc QMv (kc QuZ (kc QUQ kn))) (λK =>
 (aJ (((!(Zk p))||(decide (s<0)))||(decide (s>=((p.2.1).length:Int)))) (K (Yu false)) (aJ (((Ql p s).1)==1) (((decide (s>0))=true->(0<=aG (s-1)/\Int.toNat (aG (s-1))<(p.2.2.1).length))/\K (Yu ((decide (s>0))&&(decide ((((aq Qx p.2.2.1 (Int.toNat (aG (s-1)))).2).length:Int)>0))))) (aJ (((Ql p s).1)==3) (((decide (s<(aG (((p.2.1).length:Int)-1))))=true->(0<=s/\Int.toNat s<(p.2.2.1).length))/\K (Yu ((decide (s<(aG (((p.2.1).length:Int)-1))))&&(oW (aq Qx p.2.2.1 (Int.toNat s)))))) (aJ (((Ql p s).1)==4) (((decide (s<(aG (((p.2.1).length:Int)-1))))=true->(0<=s/\Int.toNat s<(p.2.2.2).length))/\K (Yu ((decide (s<(aG (((p.2.1).length:Int)-1))))&&(decide ((((aq Qx p.2.2.2 (Int.toNat s)).2).length:Int)>0))))) (aJ (((Ql p s).1)==7) (((decide (s>0))=true->(0<=aG (s-1)/\Int.toNat (aG (s-1))<(p.2.2.2).length))/\K (Yu ((decide (s>0))&&(oW (aq Qx p.2.2.2 (Int.toNat (aG (s-1)))))))) (aJ (((Ql p s).1)==2) (yY K p s (((Ql p s).1)==2)) (aJ (((Ql p s).1)==5) (yY K p s (((Ql p s).1)==5)) (yY K p s (((Ql p s).1)==6)))))))))) (λhb=>?_)
 have f5:(p.1).length<=9223372036854775807:=hb.1.1.1;have fC:(p.2.1).length<=9223372036854775807:=hb.1.2.1.1;have gW:(p.2.2.1).length<=9223372036854775807:=hb.1.2.2.1.1;have gX:(p.2.2.2).length<=9223372036854775807:=hb.1.2.2.2.1.1;by_cases h0:(Zk p&&bh s 0 (p.2.1.length-1))=true;rotate_left
 ·refine⟨λh=>au (by grind[ZI]),λh=>by grind[bh]⟩
 have yV:=h0;simp only[Bool.and_eq_true,Zb]at yV;have fh:=yV.1;simp only[Zk,Bool.and_eq_true,Zb,beq_iff_eq]at fh;have e1:aG ((p.2.1.length:Int)-1)=p.2.1.length-1:=QG (by omega) (by omega);have e2:aG (s-1)=s-1:=QG (by omega) (by omega);rw[e1,e2];have e4:Int.toNat (s-1)=s.toNat-1:=by omega
 rw[e4];have hM:(ZI p s)=Jr p s (Ql p s).1:=by unfold ZI;rw[h0,Bool.true_and]
 have ew:Jr p s (Ql p s).1=oX p->yX (λr'=>r'=Yu (ZI p s)) p ((0:Nat):Int):=by
  intro hm;refine Za p.2.1 (λr k=>r.all Y8=p.2.1.all Y8->yX (λr'=>r'=Yu (ZI p s)) p k) ?_ ?_ rfl
  ·intro he;refine QyH (λr'=>r'=Yu (ZI p s)) p _ ⟨λh=>by simp at h,λ_=>au ?_⟩;rw[hM,hm];exact he
  ·intro k x r hk aU hg ih he;have dF:x∈p.2.1:=List.mem_of_mem_drop (i:=k) (by rw[hk];exact List.mem_cons_self);have jW:x.2.1.length<=9223372036854775807:=(hb.1.2.1.2 x dF).2.1.1;refine QyH (λr'=>r'=Yu (ZI p s)) p _ ⟨λ_=>?_,λh=>by simp at h;omega⟩;rw[Int.toNat_natCast,hg,QG (x:=(k:Int)+1) (by omega) (by omega),QG (x:=(x.2.1.length:Int)-1) (by omega) (by omega)];rw[List.all_cons]at he;refine⟨⟨by omega,aU⟩,λh=>au ?_,λh=>ih ?_⟩
   ·have:Y8 x=false:=by simp at h;simp[Y8];omega
    rw[this]at he;rw[hM,hm];exact he
   ·have:Y8 x=true:=by simp at h;simp[Y8];omega
    rw[this,Bool.true_and]at he;exact he
 have k2:∀ b:Bool,(b=true->Jr p s (Ql p s).1=true)->(b=false->Jr p s (Ql p s).1=if(Ql p s).1=8 then oX p else false)->yY (λr'=>r'=Yu (ZI p s)) p s b:=by
  intro b iv fy;refine(QSL (λr'=>r'=Yu (ZI p s)) p s _ ⟨λh=>au ?_,λh=>⟨λh8=>ew ?_,λh8=>au ?_⟩⟩).h
  ·rw[hM,iv h]
  ·rw[fy h,if_pos (by simpa using h8)]
  ·rw[hM,fy h,if_neg (by simpa using h8)]
 clear ew;generalize(Ql p s).1=kd at *;refine⟨λh=>by grind[bh],λ_=>⟨λh1=>⟨λh=>by simp at h;omega,au ?_⟩,λh1=>⟨λh2=>⟨λh=>by simp at h;omega,au ?_⟩,λh2=>⟨λh3=>⟨λh=>by simp at h;omega,au ?_⟩,λh3=>⟨λh4=>⟨λh=>by simp at h;omega,au ?_⟩,λh4=>⟨λh5=>k2 _ ?_ ?_,λh5=>⟨λh6=>k2 _ ?_ ?_,λh6=>k2 _ ?_ ?_⟩⟩⟩⟩⟩⟩⟩
 all_goals (try rw[hM]);simp only[Jr,oW]at *;grind
theorem QO4:Qf Tryz.prog Nn:=Qi λx _=>QTr x.1 x.2.1
end
end Go.Proofs.YtdplaepmjogjjaaGreat.Am

namespace Go.Proofs.YtdplaepmjogjjaaGreat.Am
open Go Go.RowKit Go.Proofs.YtdplaepmjogjjaaGreat
set_option linter.all false
set_option maxHeartbeats 2000000
noncomputable section
variable (K:aB->Prop)
def JS(t:Qk):aB:=⟨(.a [(.r QF 0 0 ((t.1).length)),(.r Qe 1 0 ((t.2.1).length)),(.r Qh 2 0 ((t.2.2.1).length)),(.r Qh 3 0 ((t.2.2.2).length))]),[(.sl 154 QF (.dp 0 true []) t.1),(.sl 39 Qe (.dp 0 true []) t.2.1),(.sl 161 Qh (.dp 0 true []) t.2.2.1),(.sl 161 Qh (.dp 0 true []) t.2.2.2)],[],false,[]⟩
def C8:aI:=Qg 147 [(.a QM)] λx=>(some (Qs (α:=Qk) x.1),JS (id (α:=Qk) x.1))
def sI:aF:=⟨[KC,uJ,yM],true⟩
def QuR:af :=
 (ag [(.ae [aw 18 .lss 17 16]),(.cond 18 .skip (.exit 0)),(.block 1 (ag [(.ae [aZ 19 15 17 Qe,a7 20 19 14,aC 5 (.new 39 (bG Qe)),aT 5 20 14]),(.draw [ak 21 3 1,an 22 21 1,a7 23 5 14,aD 24 70 [23],aC 25 (.bW 39 Qe [24]),aC 26 (.app 22 25 39 Qe),ak 27 3 1,aT 27 26 1] [(0,3),(1,3),(0,4),(1,4)])])),(.ae [aw 28 .add 17 (ar 1),ab 17 28])])
def Qtp:List (Nat × Md):=[(1,.b (dH 4)),(2,.b [.f,.f,.f,.f]),(3,.b [.f,.p 39,.p 161,.p 161]),(15,.one .d),(16,.one .d),(17,.one .d)]
def QAR:af :=
 (ag [(.ae [aw 33 .lss 32 31]),(.cond 33 .skip (.exit 2)),(.block 3 (ag [(.ae [aZ 34 30 32 Qh,a7 35 34 2,aC 7 (.new 161 (bG Qh)),aT 7 35 2]),(.draw [ak 36 3 2,an 37 36 1,a7 38 7 2,aD 39 219 [38],aC 40 (.bW 161 Qh [39]),aC 41 (.app 37 40 161 Qh),ak 42 3 2,aT 42 41 1] [(0,3),(1,3),(0,4),(1,4)])])),(.ae [aw 43 .add 32 (ar 1),ab 32 43])])
def QDN:List (Nat × Md):=[(1,.b (dH 4)),(2,.b [.f,.f,.f,.f]),(3,.b [.f,.f,.f,.f]),(30,.one .d),(31,.one .d),(32,.one .d)]
def QDa:af :=
 (ag [(.ae [aw 48 .lss 47 46]),(.cond 48 .skip (.exit 4)),(.block 5 (ag [(.ae [aZ 49 45 47 Qh,a7 50 49 2,aC 9 (.new 161 (bG Qh)),aT 9 50 2]),(.draw [ak 51 3 3,an 52 51 1,a7 53 9 2,aD 54 219 [53],aC 55 (.bW 161 Qh [54]),aC 56 (.app 52 55 161 Qh),ak 57 3 3,aT 57 56 1] [(0,3),(1,3),(0,4),(1,4)])])),(.ae [aw 58 .add 47 (ar 1),ab 47 58])])
def Qyk:List (Nat × Md):=[(2,.b [.f,.f,.f,.f]),(3,.b [.f,.f,.f,.f]),(45,.one .d),(46,.one .d),(47,.one .d)]
def Qr7:af :=
 (ag [(.ae [a7 59 3 4,aT 2 59 4]),.ret])
def QvJ:af :=
 (ag [(ag [(.ae [ak 44 1 3,an 45 44 1,a9 46 45,ab 47 (ar 0)]),(.block 4 (.loop Qyk QDa))]),Qr7])
def Qsy:af :=
 (ag [(ag [(.ae [ak 29 1 2,an 30 29 1,a9 31 30,ab 32 (ar 0)]),(.block 2 (.loop QDN QAR))]),QvJ])
def QQf:af :=
 (ag [(.ae [aC 1 (.box 56 0 4),aC 2 (.new 56 (bG QM))]),(.ae [ak 10 1 0,an 11 10 1,aD 12 126 [11],aC 13 (.build (bG QM) [(0,1,12)]),aC 3 (.new 56 (bG QM)),aT 3 13 4]),(ag [(.ae [ak 14 1 1,an 15 14 1,a9 16 15,ab 17 (ar 0)]),(.block 0 (.loop Qtp QuR))]),Qsy])
def QwZ:List (bm × Md):=[(.l 2 4 true,.b [.p 154,.p 39,.p 161,.p 161])]
def uS:Qb:=TQ 0 0 QwZ K
def QGR:Qb:=aY (aN sI 0 Qr7 (uS K)) (uS K)
def QPi:Qb:=a6 4 (QGR K)
def yZ(p:Qk)(x2:Int)(pA:List Qo)(pB:List Qc)(pC:List Qd)(q3:List Qd):Prop:=Loop sI 0 Qyk QDa (QPi K) ⟨[(2,(.p 0 0 0)),(3,(.p 5 0 0)),(45,(bc Qh p.2.2.2)),(46,(aL ((p.2.2.2).length:Int))),(47,(aL x2))],[(0,(.box [(.n QF),(.n Qe),(.n Qh),(.n Qh)])),(1,(.sl 154 QF (.dp 0 true []) pA)),(2,(.sl 39 Qe (.dp 0 true []) pB)),(3,(.sl 161 Qh (.dp 0 true []) pC)),(4,(.sl 161 Qh (.dp 0 true []) q3)),(5,(.box [(.r QF 1 0 pA.length),(.r Qe 2 0 pB.length),(.r Qh 3 0 pC.length),(.r Qh 4 0 q3.length)]))],6⟩
def QKP:Qb:=aY (aN sI 0 QvJ (uS K)) (uS K)
def QN2:Qb:=a6 2 (QKP K)
def y1(p:Qk)(x1:Int)(pD:List Qo)(pE:List Qc)(q2:List Qd):Prop:=Loop sI 0 QDN QAR (QN2 K) ⟨[(1,(.p 0 0 0)),(2,(.p 1 0 0)),(3,(.p 6 0 0)),(30,(bc Qh p.2.2.1)),(31,(aL ((p.2.2.1).length:Int))),(32,(aL x1))],[(0,(.box (aR.cells QM p))),(1,(.box [(.n QF),(.n Qe),(.n Qh),(.n Qh)])),(2,(.sl 154 QF (.dp 0 true []) pD)),(3,(.sl 39 Qe (.dp 0 true []) pE)),(4,(.sl 161 Qh (.dp 0 true []) q2)),(5,(.sl 161 Qh (.dp 0 true []) ([]:List Qd))),(6,(.box [(.r QF 2 0 pD.length),(.r Qe 3 0 pE.length),(.r Qh 4 0 q2.length),(.r Qh 5 0 0)]))],7⟩
def QOl:Qb:=aY (aN sI 0 Qsy (uS K)) (uS K)
def QHz:Qb:=a6 0 (QOl K)
def C9(p:Qk)(x:Int)(q0:List Qo)(q1:List Qc):Prop:=Loop sI 0 Qtp QuR (QHz K) ⟨[(1,(.p 0 0 0)),(2,(.p 1 0 0)),(3,(.p 6 0 0)),(15,(bc Qe p.2.1)),(16,(aL ((p.2.1).length:Int))),(17,(aL x))],[(0,(.box (aR.cells QM p))),(1,(.box [(.n QF),(.n Qe),(.n Qh),(.n Qh)])),(2,(.sl 154 QF (.dp 0 true []) q0)),(3,(.sl 39 Qe (.dp 0 true []) q1)),(4,(.sl 161 Qh (.dp 0 true []) ([]:List Qd))),(5,(.sl 161 Qh (.dp 0 true []) ([]:List Qd))),(6,(.box [(.r QF 2 0 q0.length),(.r Qe 3 0 q1.length),(.r Qh 4 0 0),(.r Qh 5 0 0)]))],7⟩
theorem Qu3(p:Qk)(x2:Int)(pA:List Qo)(pB:List Qc)(pC:List Qd)(q3:List Qd) (h :
 (aJ (decide (x2<((p.2.2.2).length:Int))) ((0<=x2/\Int.toNat x2<(p.2.2.2).length)/\(((Qs (α:=Qd) (aq Qx p.2.2.2 (Int.toNat x2)))/\((q3.length=q3.length\/q3.length+1<=q3.length)/\q3.length+1<=cc))/\(yZ K p (aG (x2+1)) (List.take pA.length pA) (List.take pB.length pB) (List.take pC.length pC) (List.take (q3.length+1) ((List.take q3.length q3)++([((id (α:=Qd) (aq Qx p.2.2.2 (Int.toNat x2))).1,(List.take (((id (α:=Qd) (aq Qx p.2.2.2 (Int.toNat x2))).2).length) (List.drop 0 ((id (α:=Qd) (aq Qx p.2.2.2 (Int.toNat x2))).2))))])))))) (K (JS ((List.take pA.length pA),(List.take pB.length pB),(List.take pC.length pC),(List.take q3.length q3)))))):yZ K p x2 pA pB pC q3 :=
 Loop.of h
theorem Qy0(p:Qk)(x1:Int)(pD:List Qo)(pE:List Qc)(q2:List Qd) (h :
 (aJ (decide (x1<((p.2.2.1).length:Int))) ((0<=x1/\Int.toNat x1<(p.2.2.1).length)/\(((Qs (α:=Qd) (aq Qx p.2.2.1 (Int.toNat x1)))/\((q2.length=q2.length\/q2.length+1<=q2.length)/\q2.length+1<=cc))/\(y1 K p (aG (x1+1)) (List.take pD.length pD) (List.take pE.length pE) (List.take (q2.length+1) ((List.take q2.length q2)++([((id (α:=Qd) (aq Qx p.2.2.1 (Int.toNat x1))).1,(List.take (((id (α:=Qd) (aq Qx p.2.2.1 (Int.toNat x1))).2).length) (List.drop 0 ((id (α:=Qd) (aq Qx p.2.2.1 (Int.toNat x1))).2))))])))))) (yZ K p 0 (List.take pD.length pD) (List.take pE.length pE) (List.take q2.length q2) ([]:List Qd)))):y1 K p x1 pD pE q2 :=
 Loop.of h
theorem QDj(p:Qk)(x:Int)(q0:List Qo)(q1:List Qc) (h :
 let z1:=id (α:=Qc) (aq Qz p.2.1 (Int.toNat x))
 (aJ (decide (x<((p.2.1).length:Int))) ((0<=x/\Int.toNat x<(p.2.1).length)/\(((Qs (α:=Qc) (aq Qz p.2.1 (Int.toNat x)))/\((q1.length=q1.length\/q1.length+1<=q1.length)/\q1.length+1<=cc))/\(C9 K p (aG (x+1)) (List.take q0.length q0) (List.take (q1.length+1) ((List.take q1.length q1)++([(z1.1,(List.take ((z1.2.1).length) (List.drop 0 (z1.2.1))),(List.take ((z1.2.2.1).length) (List.drop 0 (z1.2.2.1))),z1.2.2.2.1,z1.2.2.2.2.1,(List.take ((z1.2.2.2.2.2.1).length) (List.drop 0 (z1.2.2.2.2.2.1))),(List.take ((z1.2.2.2.2.2.2.1).length) (List.drop 0 (z1.2.2.2.2.2.2.1))),(List.take ((z1.2.2.2.2.2.2.2.1).length) (List.drop 0 (z1.2.2.2.2.2.2.2.1))),(List.take ((z1.2.2.2.2.2.2.2.2.1).length) (List.drop 0 (z1.2.2.2.2.2.2.2.2.1))),(List.take ((z1.2.2.2.2.2.2.2.2.2.1).length) (List.drop 0 (z1.2.2.2.2.2.2.2.2.2.1))),(List.take ((z1.2.2.2.2.2.2.2.2.2.2.1).length) (List.drop 0 (z1.2.2.2.2.2.2.2.2.2.2.1))),(List.take ((z1.2.2.2.2.2.2.2.2.2.2.2.1).length) (List.drop 0 (z1.2.2.2.2.2.2.2.2.2.2.2.1))),z1.2.2.2.2.2.2.2.2.2.2.2.2.1,z1.2.2.2.2.2.2.2.2.2.2.2.2.2)])))))) (y1 K p 0 (List.take q0.length q0) (List.take q1.length q1) ([]:List Qd)))):C9 K p x q0 q1 :=
 Loop.of h
theorem QKy(p:Qk)(hp:Qs (α:=Qk) p):aK Tryz.prog 147 [(.a (aR.cells QM p))] (JS (id (α:=Qk) p)):=by
 refine bw sI QQf QwZ 0 0 60 C8 (kc QJg (kc CF (kc MZ kn))) (λK =>
 ((Qs (α:=List Qo) p.1)/\(C9 K p 0 (List.take ((id (α:=List Qo) p.1).length) (id (α:=List Qo) p.1)) ([]:List Qc)))) (λhb=>?_)
 have il:Sz.sz p<=2147483648:=hp;have hs:Sz.sz p=Sz.sz p.1+Sz.sz p.2.1+Sz.sz p.2.2.1+Sz.sz p.2.2.2:=uF p;have k6:yZ (λr'=>r'=JS (id (α:=Qk) p)) p 0 p.1 p.2.1 p.2.2.1 ([]):=by
  refine YE (l:=p.2.2.2) (A:=λi v=>yZ (λr'=>r'=JS (id (α:=Qk) p)) p i p.1 p.2.1 p.2.2.1 v) (Q:=λz=>JS (p.1,p.2.1,p.2.2.1,z)=JS (id (α:=Qk) p)) (by omega) (λk x v hk hl hg hv hx ih=>?_) (λhq=>?_) (au rfl)
  ·refine Qu3 _ _ _ _ _ _ _ ⟨λ_=>?_,λh=>by simp at h;omega⟩;rw[Int.toNat_natCast,hg,dM (by omega),Q9];simp only[id,List.drop_zero,List.take_length];exact⟨⟨by omega,hk⟩,⟨by unfold Qs;omega,(by first | exact room (by omega) | (simp[Zf];omega))⟩,ih⟩
  ·refine Qu3 _ _ _ _ _ _ _ ⟨λh=>by simp at h,λ_=>?_⟩;simp only[id,List.drop_zero,List.take_length]
   first | done | exact hq | trivial
 have k4:y1 (λr'=>r'=JS (id (α:=Qk) p)) p 0 p.1 p.2.1 ([]):=by
  refine YE (l:=p.2.2.1) (A:=λi v=>y1 (λr'=>r'=JS (id (α:=Qk) p)) p i p.1 p.2.1 v) (Q:=λz=>z=p.2.2.1) (by omega) (λk x v hk hl hg hv hx ih=>?_) (λhq=>?_) rfl
  ·refine Qy0 _ _ _ _ _ _ ⟨λ_=>?_,λh=>by simp at h;omega⟩;rw[Int.toNat_natCast,hg,dM (by omega),Q9];simp only[id,List.drop_zero,List.take_length];exact⟨⟨by omega,hk⟩,⟨by unfold Qs;omega,(by first | exact room (by omega) | (simp[Zf];omega))⟩,ih⟩
  ·refine Qy0 _ _ _ _ _ _ ⟨λh=>by simp at h,λ_=>?_⟩;simp only[id,List.drop_zero,List.take_length];exact k6
 refine⟨by unfold Qs;omega,?_⟩;simp only[id,List.take_length];refine YE (l:=p.2.1) (A:=λi v=>C9 (λr'=>r'=JS (id (α:=Qk) p)) p i p.1 v) (Q:=λz=>z=p.2.1) (by omega) (λk x v hk hl hg hv hx ih=>?_) (λhq=>?_) rfl
 ·refine QDj _ _ _ _ _ ⟨λ_=>?_,λh=>by simp at h;omega⟩;rw[Int.toNat_natCast,hg,dM (by omega),Q9];simp only[id,List.drop_zero,List.take_length];exact⟨⟨by omega,hk⟩,⟨by unfold Qs;omega,(by first | exact room (by omega) | (simp[Zf];omega))⟩,ih⟩
 ·refine QDj _ _ _ _ _ ⟨λh=>by simp at h,λ_=>?_⟩;simp only[id,List.drop_zero,List.take_length];exact k4
theorem Qvd:Qf Tryz.prog C8:=Qi λx h=>QKy x.1 h
def Jq(t:Qk):aB:=⟨(.a [(bc QF t.1),(.r Qe 0 0 ((t.2.1).length)),(.r Qh 1 0 ((t.2.2.1).length)),(.r Qh 2 0 ((t.2.2.2).length))]),[(.sl 39 Qe .ow t.2.1),(.sl 161 Qh .ow t.2.2.1),(.sl 161 Qh .ow t.2.2.2)],[],true,[]⟩
def Da:aI:=Qg 143 [(.a QM)] λx=>(some (Qs (α:=Qk) x.1),Jq (id (α:=Qk) x.1))
def oa:aF:=⟨[uL,yO],false⟩
def QES:af :=
 (ag [(ag [(.ae [ab 9 4,ak 10 1 0,an 11 10 1,a9 12 11,aw 13 .lss 9 12]),(.cond 13 .skip (.exit 0))]),(.block 1 (.draw [ak 16 3 0,an 17 16 1,aC 18 (.bW 3 [TI] []),ak 19 1 0,an 20 19 1,ab 21 4,aZ 22 20 21 QF,ak 23 22 0,an 24 23 1,aC 25 (.app 18 24 3 [TI]),aC 26 (.bW 3 [TI] []),ak 27 1 0,an 28 27 1,ab 29 4,aZ 30 28 29 QF,ak 31 30 1,an 32 31 1,aC 33 (.app 26 32 3 [TI]),aC 34 (.build (bG QF) [(0,1,25),(1,1,33)]),aC 35 (.bW 154 QF [34]),aC 36 (.app 17 35 154 QF),ak 37 3 0,aT 37 36 1] [(0,2),(1,2),(2,3),(2,4),(2,6),(2,7),(2,8),(0,9),(1,9),(0,10),(1,10),(2,10),(3,10),(4,10),(6,10),(7,10),(8,10),(9,10),(2,11),(9,11),(10,11),(2,12),(9,12),(10,12),(2,14),(9,14),(10,14),(2,15),(9,15),(10,15),(2,16),(9,16),(10,16),(0,17),(1,17),(0,19),(1,19)])),(.ae [ab 14 4,aw 15 .add 14 (ar 1),ab 4 15])])
def QEF:List (Nat × Md):=[(1,.b (dH 4)),(2,.b (dH 4)),(3,.b [.o 154,.o 39,.o 161,.o 161]),(4,.one .d)]
def QxD:af :=
 (ag [(ag [(.ae [ab 38 5,ak 39 1 1,an 40 39 1,a9 41 40,aw 42 .lss 38 41]),(.cond 42 .skip (.exit 2))]),(.block 3 (.draw [ak 45 3 1,an 46 45 1,ak 47 1 1,an 48 47 1,ab 49 5,aZ 50 48 49 Qe,a7 51 50 14,aD 52 61 [51],aC 53 (.bW 39 Qe [52]),aC 54 (.app 46 53 39 Qe),ak 55 3 1,aT 55 54 1] [(0,7),(1,7),(0,8),(1,8)])),(.ae [ab 43 5,aw 44 .add 43 (ar 1),ab 5 44])])
def Qyz:List (Nat × Md):=[(1,.b (dH 4)),(2,.b (dH 4)),(3,.b [.f,.f,.f,.f]),(5,.one .d)]
def QvC:af :=
 (ag [(ag [(.ae [ab 56 6,ak 57 1 2,an 58 57 1,a9 59 58,aw 60 .lss 56 59]),(.cond 60 .skip (.exit 4))]),(.block 5 (.draw [ak 63 3 2,an 64 63 1,ak 65 1 2,an 66 65 1,ab 67 6,aZ 68 66 67 Qh,a7 69 68 2,aD 70 217 [69],aC 71 (.bW 161 Qh [70]),aC 72 (.app 64 71 161 Qh),ak 73 3 2,aT 73 72 1] [(0,7),(1,7),(0,8),(1,8)])),(.ae [ab 61 6,aw 62 .add 61 (ar 1),ab 6 62])])
def QtJ:List (Nat × Md):=[(1,.b (dH 4)),(2,.b (dH 4)),(3,.b [.f,.f,.f,.f]),(6,.one .d)]
def Qum:af :=
 (ag [(ag [(.ae [ab 74 7,ak 75 1 3,an 76 75 1,a9 77 76,aw 78 .lss 74 77]),(.cond 78 .skip (.exit 6))]),(.block 7 (.draw [ak 81 3 3,an 82 81 1,ak 83 1 3,an 84 83 1,ab 85 7,aZ 86 84 85 Qh,a7 87 86 2,aD 88 217 [87],aC 89 (.bW 161 Qh [88]),aC 90 (.app 82 89 161 Qh),ak 91 3 3,aT 91 90 1] [(0,7),(1,7),(0,8),(1,8)])),(.ae [ab 79 7,aw 80 .add 79 (ar 1),ab 7 80])])
def Qt8:List (Nat × Md):=[(1,.b (dH 4)),(2,.b (dH 4)),(3,.b [.f,.f,.f,.f]),(7,.one .d)]
def Qs1:af :=
 (ag [(.ae [a7 92 3 4,aT 2 92 4]),.ret])
def Qxs:af :=
 (ag [(ag [(.ae [ab 7 (ar 0)]),(.block 6 (.loop Qt8 Qum))]),Qs1])
def Qym:af :=
 (ag [(ag [(.ae [ab 6 (ar 0)]),(.block 4 (.loop QtJ QvC))]),Qxs])
def Qvp:af :=
 (ag [(ag [(.ae [ab 5 (ar 0)]),(.block 2 (.loop Qyz QxD))]),Qym])
def QQ5:af :=
 (ag [(.ae [aC 1 (.box 56 0 4),aC 2 (.new 56 (bG QM))]),(.ae [aC 8 (.build (bG QM) []),aC 3 (.new 56 (bG QM)),aT 3 8 4]),(ag [(.ae [ab 4 (ar 0)]),(.block 0 (.loop QEF QES))]),Qvp])
def QEf:List (bm × Md):=[(.l 2 4 true,.b [.d,.o 39,.o 161,.o 161])]
def pF:Qb:=TQ 0 0 QEf K
def QM3:Qb:=aY (aN oa 0 Qs1 (pF K)) (pF K)
def QQQ:Qb:=a6 6 (QM3 K)
def y2(p:Qk)(i3:Int)(pG:List Qo)(pH:List Qc)(pI:List Qd)(x3:List Qd):Prop:=Loop oa 0 Qt8 Qum (QQQ K) ⟨[(1,(.p 0 0 0)),(2,(.p 1 0 0)),(3,(.p 6 0 0)),(7,(aL i3))],[(0,(.box (aR.cells QM p))),(1,(.box (aR.cells QM ([],[],[],[])))),(2,(.sl 154 QF .ow pG)),(3,(.sl 39 Qe .ow pH)),(4,(.sl 161 Qh .ow pI)),(5,(.sl 161 Qh .ow x3)),(6,(.box [(.r QF 2 0 pG.length),(.r Qe 3 0 pH.length),(.r Qh 4 0 pI.length),(.r Qh 5 0 x3.length)]))],7⟩
def QMR:Qb:=aY (aN oa 0 Qxs (pF K)) (pF K)
def QOa:Qb:=a6 4 (QMR K)
def y3(p:Qk)(i2:Int)(pJ:List Qo)(pK:List Qc)(x2:List Qd):Prop:=Loop oa 0 QtJ QvC (QOa K) ⟨[(1,(.p 0 0 0)),(2,(.p 1 0 0)),(3,(.p 6 0 0)),(6,(aL i2))],[(0,(.box (aR.cells QM p))),(1,(.box (aR.cells QM ([],[],[],[])))),(2,(.sl 154 QF .ow pJ)),(3,(.sl 39 Qe .ow pK)),(4,(.sl 161 Qh .ow x2)),(5,(.sl 161 Qh .ow ([]:List Qd))),(6,(.box [(.r QF 2 0 pJ.length),(.r Qe 3 0 pK.length),(.r Qh 4 0 x2.length),(.r Qh 5 0 0)]))],7⟩
def QNS:Qb:=aY (aN oa 0 Qym (pF K)) (pF K)
def QWN:Qb:=a6 2 (QNS K)
def y4(p:Qk)(i1:Int)(pL:List Qo)(x1:List Qc):Prop:=Loop oa 0 Qyz QxD (QWN K) ⟨[(1,(.p 0 0 0)),(2,(.p 1 0 0)),(3,(.p 6 0 0)),(5,(aL i1))],[(0,(.box (aR.cells QM p))),(1,(.box (aR.cells QM ([],[],[],[])))),(2,(.sl 154 QF .ow pL)),(3,(.sl 39 Qe .ow x1)),(4,(.sl 161 Qh .ow ([]:List Qd))),(5,(.sl 161 Qh .ow ([]:List Qd))),(6,(.box [(.r QF 2 0 pL.length),(.r Qe 3 0 x1.length),(.r Qh 4 0 0),(.r Qh 5 0 0)]))],7⟩
def QHg:Qb:=aY (aN oa 0 Qvp (pF K)) (pF K)
def QW7:Qb:=a6 0 (QHg K)
def Db(p:Qk)(i:Int)(x0:List Qo):Prop:=Loop oa 0 QEF QES (QW7 K) ⟨[(1,(.p 0 0 0)),(2,(.p 1 0 0)),(3,(.p 6 0 0)),(4,(aL i))],[(0,(.box (aR.cells QM p))),(1,(.box (aR.cells QM ([],[],[],[])))),(2,(.sl 154 QF .ow x0)),(3,(.sl 39 Qe .ow ([]:List Qc))),(4,(.sl 161 Qh .ow ([]:List Qd))),(5,(.sl 161 Qh .ow ([]:List Qd))),(6,(.box [(.r QF 2 0 x0.length),(.r Qe 3 0 0),(.r Qh 4 0 0),(.r Qh 5 0 0)]))],7⟩
theorem QrH(p:Qk)(i3:Int)(pG:List Qo)(pH:List Qc)(pI:List Qd)(x3:List Qd) (h :
 (aJ (decide (i3<((p.2.2.2).length:Int))) (((0<=i3/\Int.toNat i3<(p.2.2.2).length)/\((Qs (α:=Qd) (aq Qx p.2.2.2 (Int.toNat i3)))/\((x3.length=x3.length\/x3.length+1<=x3.length)/\x3.length+1<=cc)))/\(y2 K p (aG (i3+1)) (List.take pG.length pG) (List.take pH.length pH) (List.take pI.length pI) (List.take (x3.length+1) ((List.take x3.length x3)++([((id (α:=Qd) (aq Qx p.2.2.2 (Int.toNat i3))).1,(List.take (((id (α:=Qd) (aq Qx p.2.2.2 (Int.toNat i3))).2).length) (List.drop 0 ((id (α:=Qd) (aq Qx p.2.2.2 (Int.toNat i3))).2))))]))))) (K (Jq ((List.take pG.length (List.drop 0 pG)),(List.take pH.length pH),(List.take pI.length pI),(List.take x3.length x3)))))):y2 K p i3 pG pH pI x3 :=
 Loop.of h
theorem QAj(p:Qk)(i2:Int)(pJ:List Qo)(pK:List Qc)(x2:List Qd) (h :
 (aJ (decide (i2<((p.2.2.1).length:Int))) (((0<=i2/\Int.toNat i2<(p.2.2.1).length)/\((Qs (α:=Qd) (aq Qx p.2.2.1 (Int.toNat i2)))/\((x2.length=x2.length\/x2.length+1<=x2.length)/\x2.length+1<=cc)))/\(y3 K p (aG (i2+1)) (List.take pJ.length pJ) (List.take pK.length pK) (List.take (x2.length+1) ((List.take x2.length x2)++([((id (α:=Qd) (aq Qx p.2.2.1 (Int.toNat i2))).1,(List.take (((id (α:=Qd) (aq Qx p.2.2.1 (Int.toNat i2))).2).length) (List.drop 0 ((id (α:=Qd) (aq Qx p.2.2.1 (Int.toNat i2))).2))))]))))) (y2 K p 0 (List.take pJ.length pJ) (List.take pK.length pK) (List.take x2.length x2) ([]:List Qd)))):y3 K p i2 pJ pK x2 :=
 Loop.of h
theorem Qy6(p:Qk)(i1:Int)(pL:List Qo)(x1:List Qc) (h :
 let z1:=id (α:=Qc) (aq Qz p.2.1 (Int.toNat i1))
 (aJ (decide (i1<((p.2.1).length:Int))) (((0<=i1/\Int.toNat i1<(p.2.1).length)/\((Qs (α:=Qc) (aq Qz p.2.1 (Int.toNat i1)))/\((x1.length=x1.length\/x1.length+1<=x1.length)/\x1.length+1<=cc)))/\(y4 K p (aG (i1+1)) (List.take pL.length pL) (List.take (x1.length+1) ((List.take x1.length x1)++([(z1.1,z1.2.1,z1.2.2.1,z1.2.2.2.1,z1.2.2.2.2.1,(List.take ((z1.2.2.2.2.2.1).length) (List.drop 0 (z1.2.2.2.2.2.1))),z1.2.2.2.2.2.2.1,z1.2.2.2.2.2.2.2.1,z1.2.2.2.2.2.2.2.2.1,z1.2.2.2.2.2.2.2.2.2.1,z1.2.2.2.2.2.2.2.2.2.2.1,z1.2.2.2.2.2.2.2.2.2.2.2.1,z1.2.2.2.2.2.2.2.2.2.2.2.2.1,z1.2.2.2.2.2.2.2.2.2.2.2.2.2)]))))) (y3 K p 0 (List.take pL.length pL) (List.take x1.length x1) ([]:List Qd)))):y4 K p i1 pL x1 :=
 Loop.of h
theorem QD7(p:Qk)(i:Int)(x0:List Qo) (h :
 (aJ (decide (i<((p.1).length:Int))) (((0<=i/\Int.toNat i<(p.1).length)/\(((0=0\/0+((aq QW p.1 (Int.toNat i)).1).length<=0)/\0+((aq QW p.1 (Int.toNat i)).1).length<=cc)/\((0<=i/\Int.toNat i<(p.1).length)/\(((0=0\/0+((aq QW p.1 (Int.toNat i)).2).length<=0)/\0+((aq QW p.1 (Int.toNat i)).2).length<=cc)/\((x0.length=x0.length\/x0.length+1<=x0.length)/\x0.length+1<=cc)))))/\(Db K p (aG (i+1)) (List.take (x0.length+1) ((List.take x0.length x0)++([((List.take (0+((aq QW p.1 (Int.toNat i)).1).length) (List.drop 0 ((aq QW p.1 (Int.toNat i)).1))),(List.take (0+((aq QW p.1 (Int.toNat i)).2).length) (List.drop 0 ((aq QW p.1 (Int.toNat i)).2))))]))))) (y4 K p 0 (List.take x0.length x0) ([]:List Qc)))):Db K p i x0 :=
 Loop.of h
theorem QVB(p:Qk)(hp:Qs (α:=Qk) p):aK Tryz.prog 143 [(.a (aR.cells QM p))] (Jq (id (α:=Qk) p)):=by
 refine bw oa QQ5 QEf 0 0 93 Da (kc CH (kc M4 kn)) (λK =>
 (Db K p 0 ([]:List Qo))) (λhb=>?_)
 have il:Sz.sz p<=2147483648:=hp;have hs:Sz.sz p=Sz.sz p.1+Sz.sz p.2.1+Sz.sz p.2.2.1+Sz.sz p.2.2.2:=uF p;have k8:y2 (λr'=>r'=Jq (id (α:=Qk) p)) p 0 p.1 p.2.1 p.2.2.1 ([]):=by
  refine YE (l:=p.2.2.2) (A:=λi v=>y2 (λr'=>r'=Jq (id (α:=Qk) p)) p i p.1 p.2.1 p.2.2.1 v) (Q:=λz=>Jq (p.1,p.2.1,p.2.2.1,z)=Jq (id (α:=Qk) p)) (by omega) (λk x v hk hl hg hv hx ih=>?_) (λhq=>?_) (au rfl)
  ·refine QrH _ _ _ _ _ _ _ ⟨λ_=>?_,λh=>by simp at h;omega⟩;rw[Int.toNat_natCast,hg,dM (by omega),Q9];simp only[id,List.drop_zero,List.take_length];exact⟨⟨⟨by omega,hk⟩,by unfold Qs;omega,(by first | exact room (by omega) | (simp[Zf];omega))⟩,ih⟩
  ·refine QrH _ _ _ _ _ _ _ ⟨λh=>by simp at h,λ_=>?_⟩;simp only[id,List.drop_zero,List.take_length]
   first | done | exact hq | trivial
 have k6:y3 (λr'=>r'=Jq (id (α:=Qk) p)) p 0 p.1 p.2.1 ([]):=by
  refine YE (l:=p.2.2.1) (A:=λi v=>y3 (λr'=>r'=Jq (id (α:=Qk) p)) p i p.1 p.2.1 v) (Q:=λz=>z=p.2.2.1) (by omega) (λk x v hk hl hg hv hx ih=>?_) (λhq=>?_) rfl
  ·refine QAj _ _ _ _ _ _ ⟨λ_=>?_,λh=>by simp at h;omega⟩;rw[Int.toNat_natCast,hg,dM (by omega),Q9];simp only[id,List.drop_zero,List.take_length];exact⟨⟨⟨by omega,hk⟩,by unfold Qs;omega,(by first | exact room (by omega) | (simp[Zf];omega))⟩,ih⟩
  ·refine QAj _ _ _ _ _ _ ⟨λh=>by simp at h,λ_=>?_⟩;simp only[id,List.drop_zero,List.take_length];exact k8
 have k4:y4 (λr'=>r'=Jq (id (α:=Qk) p)) p 0 p.1 ([]):=by
  refine YE (l:=p.2.1) (A:=λi v=>y4 (λr'=>r'=Jq (id (α:=Qk) p)) p i p.1 v) (Q:=λz=>z=p.2.1) (by omega) (λk x v hk hl hg hv hx ih=>?_) (λhq=>?_) rfl
  ·refine Qy6 _ _ _ _ _ ⟨λ_=>?_,λh=>by simp at h;omega⟩;rw[Int.toNat_natCast,hg,dM (by omega),Q9];simp only[id,List.drop_zero,List.take_length];exact⟨⟨⟨by omega,hk⟩,by unfold Qs;omega,(by first | exact room (by omega) | (simp[Zf];omega))⟩,ih⟩
  ·refine Qy6 _ _ _ _ _ ⟨λh=>by simp at h,λ_=>?_⟩;simp only[id,List.drop_zero,List.take_length];exact k6
 refine YE (l:=p.1) (A:=λi v=>Db (λr'=>r'=Jq (id (α:=Qk) p)) p i v) (Q:=λz=>z=p.1) (by omega) (λk x v hk hl hg hv hx ih=>?_) (λhq=>?_) rfl
 ·refine QD7 _ _ _ _ ⟨λ_=>?_,λh=>by simp at h;omega⟩;simp only[QR]at hx;have h1:=ZD x.1;have h2:=ZD x.2;rw[Int.toNat_natCast,hg,dM (by omega),Q9,tQ,tQ];exact⟨⟨⟨by omega,hk⟩,⟨.inl rfl,by rw[Zf];omega⟩,⟨by omega,hk⟩,⟨.inl rfl,by rw[Zf];omega⟩,(by first | exact room (by omega) | (simp[Zf];omega))⟩,ih⟩
 ·refine QD7 _ _ _ _ ⟨λh=>by simp at h,λ_=>?_⟩;rw[List.take_length];exact k4
theorem Qzp:Qf Tryz.prog Da:=Qi λx h=>QVB x.1 h
def Ja(t:Qk):aB:=⟨(.a [(.r QF 0 0 ((t.1).length)),(.r Qe 1 0 ((t.2.1).length)),(.r Qh 2 0 ((t.2.2.1).length)),(.r Qh 3 0 ((t.2.2.2).length))]),[(.sl 154 QF (.dp 0 true []) t.1),(.sl 39 Qe (.dp 0 true []) t.2.1),(.sl 161 Qh (.dp 0 true []) t.2.2.1),(.sl 161 Qh (.dp 0 true []) t.2.2.2)],[],false,[]⟩
def Nq:aI:=Qg 50 [(.a QM),(.c TI)] λx=>(some (px x.1 x.2.1),Ja (ZQ x.1 x.2.1))
def QI9:aF:=⟨[C8,Nn,C6,M7,MF,M5,MI,MK],true⟩
def QFL:af :=
 (ag [(.ae [aC 2 (.box 56 0 4),aC 4 (.new 56 (bG QM))]),(.ae [a7 15 2 4,aD 16 147 [15],aC 5 (.new 56 (bG QM)),aT 5 16 4]),(ag [(.ae [a7 17 2 4,ab 18 1,aD 19 92 [17,18],bL 20 19]),(.cond 20 (ag [(.ae [a7 21 5 4,aT 4 21 4]),.ret]) .skip)]),(.ae [ak 22 5 1,an 23 22 1,ab 24 1,aZ 25 23 24 Qe,a7 26 25 14,aC 6 (.new 39 (bG Qe)),aT 6 26 14]),(.ae [a7 27 2 4,ab 28 1,aD 29 148 [27,28],aC 7 (.new 175 (bG QQ)),aT 7 29 2]),(ag [(.ae [ak 30 7 0,an 31 30 1]),(.block 0 (ag [(.ae [aw 33 .eql 31 (ar 1),ab 32 33]),(.cond 32 (ag [(.ae [ak 35 5 2,an 36 35 1,ab 37 1,aw 38 .sub 37 (ar 1),aZ 39 36 38 Qh,a7 40 39 2,aD 41 149 [40],ab 34 41,bF 42 34 0,bF 43 34 1,bF 44 34 2,aC 8 (.new 161 (bG Qh)),aC 9 (.new 178 (bG Qu)),aT 8 42 2,aT 9 43 2,ab 10 44]),(.ae [ak 45 5 2,an 46 45 1,ab 47 1,aw 48 .sub 47 (ar 1),a7 49 8 2,aZ 50 46 48 Qh,aT 50 49 2]),(.ae [ak 51 9 1,an 52 51 1,ak 53 6 7,aT 53 52 1])]) (ag [(.ae [aw 55 .eql 31 (ar 2),ab 54 55]),(.cond 54 (ag [(.ae [ak 56 6 7,an 57 56 1,ab 11 57]),(ag [(.ae [ab 58 1,aw 59 .eql 58 (ar 0)]),(.cond 59 (.ae [ak 60 5 0,an 61 60 1,ak 62 7 1,an 63 62 1,aZ 64 61 63 QF,ak 65 64 0,an 66 65 1,ab 11 66]) .skip)]),(.draw [a7 67 6 14,ak 68 7 1,an 69 68 1,ab 70 11,ak 71 5 0,an 72 71 1,ak 73 7 1,an 74 73 1,aZ 75 72 74 QF,ak 76 75 1,an 77 76 1,aD 78 30 [67,69,70,77],aT 6 78 14] [])]) (ag [(.ae [aw 80 .eql 31 (ar 3),ab 79 80]),(.cond 79 (ag [(.draw [ak 82 5 2,an 83 82 1,ab 84 1,ak 85 5 2,an 86 85 1,ab 87 1,aZ 88 86 87 Qh,a7 89 88 2,ak 90 7 1,an 91 90 1,ak 92 6 8,an 93 92 1,aC 94 (.build (bG Qu) [(0,1,91),(1,1,93)]),aD 95 150 [89,94],ab 81 95,bF 96 81 0,bF 97 81 1,aZ 98 83 84 Qh,aT 98 96 2] [(0,13),(1,13)]),(.ae [ak 99 6 8,aT 99 (.k (.n [TI])) 1])]) (ag [(.ae [aw 101 .eql 31 (ar 4),ab 100 101]),(.cond 100 (ag [(.ae [ak 103 5 3,an 104 103 1,ab 105 1,aZ 106 104 105 Qh,a7 107 106 2,aD 108 149 [107],ab 102 108,bF 109 102 0,bF 110 102 1,bF 111 102 2,aC 12 (.new 161 (bG Qh)),aC 13 (.new 178 (bG Qu)),aT 12 109 2,aT 13 110 2,ab 14 111]),(.ae [ak 112 5 3,an 113 112 1,ab 114 1,a7 115 12 2,aZ 116 113 114 Qh,aT 116 115 2]),(.ae [ak 117 13 1,an 118 117 1,ak 119 6 9,aT 119 118 1])]) (ag [(.ae [aw 121 .eql 31 (ar 5),ab 120 121]),(.cond 120 (.ae [a7 122 6 14,ak 123 7 1,an 124 123 1,aD 125 15 [122,124],aT 6 125 14]) (ag [(.ae [aw 127 .eql 31 (ar 6),ab 126 127]),(.cond 126 (ag [(.draw [a7 128 6 14,ak 129 7 1,an 130 129 1,ak 131 5 0,an 132 131 1,ak 133 7 1,an 134 133 1,aZ 135 132 134 QF,ak 136 135 1,an 137 136 1,aD 138 32 [128,130,137],aT 6 138 14] []),(.ae [ab 139 1,aw 140 .eql 139 (ar 0)]),(.cond 140 (.ae [ak 141 6 10,aT 141 (.k (.n [TI])) 1]) .skip)]) (ag [(.ae [aw 143 .eql 31 (ar 7),ab 142 143]),(.cond 142 (ag [(.draw [ak 145 5 3,an 146 145 1,ab 147 1,aw 148 .sub 147 (ar 1),ak 149 5 3,an 150 149 1,ab 151 1,aw 152 .sub 151 (ar 1),aZ 153 150 152 Qh,a7 154 153 2,ak 155 7 1,an 156 155 1,ak 157 6 10,an 158 157 1,aC 159 (.build (bG Qu) [(0,1,156),(1,1,158)]),aD 160 150 [154,159],ab 144 160,bF 161 144 0,bF 162 144 1,aZ 163 146 148 Qh,aT 163 161 2] [(0,15),(1,15)]),(.ae [ak 164 6 10,aT 164 (.k (.n [TI])) 1])]) .skip)]))]))]))]))]))]))]))]),(.ae [ak 165 6 0,an 166 165 1,aw 167 .add 166 (ar 1),ak 168 6 0,aT 168 167 1]),(.ae [ak 169 5 1,an 170 169 1,ab 171 1,a7 172 6 14,aZ 173 170 171 Qe,aT 173 172 14]),(.ae [a7 174 5 4,aT 4 174 4]),.ret])
def QQM:List (bm × Md):=[(.l 4 4 true,.b [.p 154,.p 39,.p 161,.p 161])]
theorem QJU(p:Qk)(s:Int)(hp:px p s):aK Tryz.prog 50 [(.a (aR.cells QM p)),(.c TI s)] (Ja (ZQ p s)):=by
 refine bw QI9 QFL QQM 0 0 175 Nq (kc Qvd (kc QO4 (kc QuZ (kc QSP (kc QPj (kc QMP (kc QXx (kc QNl kn)))))))) (λK =>
 let z3:=id (α:=Qk) p
 let z1:=aq Qz (z3.2.1) (0+(Int.toNat s))
 let z7:=Yp z1 ((Ql p s).2)
 let z9:=List.take ((z3.2.2.1).length) (z3.2.2.1)
 let eY:=List.take ((z3.2.2.2).length) (z3.2.2.2)
 let eX:=List.take ((z3.1).length) (z3.1)
 let dR:=aq Qx (z3.2.2.2) (0+(Int.toNat s))
 let gV:=Int.toNat ((Ql p s).2)
 let z2:=aq QW (z3.1) (0+gV)
 let z4:=ZB z1 ((Ql p s).2) (z2.2)
 let z5:=ZZ z1 ((Ql p s).2) (z1.2.2.2.2.2.2.2.1) (z2.2)
 let z6:=ZZ z1 ((Ql p s).2) (z2.1) (z2.2)
 let kU:=List.take ((z4.2.2.2.2.2.2.2.2.2.2.2.1).length) (List.drop 0 (z4.2.2.2.2.2.2.2.2.2.2.2.1))
 let kV:=List.take ((z4.2.2.2.2.2.2.2.2.2.1).length) (List.drop 0 (z4.2.2.2.2.2.2.2.2.2.1))
 let kW:=List.take ((z4.2.2.2.2.2.2.2.2.1).length) (List.drop 0 (z4.2.2.2.2.2.2.2.2.1))
 let mE:=List.take ((z4.2.2.2.2.2.2.2.1).length) (List.drop 0 (z4.2.2.2.2.2.2.2.1))
 let kX:=aG (s-1)
 let z8:=Int.toNat kX
 let f4:=Ya (aq Qx (z3.2.2.2) (0+z8)) ((Ql p s).2,z1.2.2.2.2.2.2.2.2.2.2.1)
 let gz:=Zg (aq Qx (z3.2.2.1) (0+z8))
 let kh:=List.take ((z4.2.2.2.2.2.2.1).length) (List.drop 0 (z4.2.2.2.2.2.2.1))
 let ki:=List.take ((z4.2.2.2.2.2.1).length) (List.drop 0 (z4.2.2.2.2.2.1))
 let mF:=List.take ((z4.2.2.1).length) (List.drop 0 (z4.2.2.1))
 let mG:=List.take ((z4.2.1).length) (List.drop 0 (z4.2.1))
 let sC:=aq Qx (z3.2.2.1) (0+(Int.toNat s))
 let fS:=Ya sC ((Ql p s).2,z1.2.2.2.2.2.2.2.2.1)
 ((Qs (α:=Qk) p)/\(aJ (!(ZI p s)) (K (Ja (eX,(List.take ((z3.2.1).length) (z3.2.1)),z9,eY))) (((0<=s/\Int.toNat s<(z3.2.1).length)/\((0+(Int.toNat s))<(z3.2.1).length))/\(aJ (((Ql p s).1)==1) (((0<=aG (s-1)/\Int.toNat kX<(z3.2.2.1).length)/\(((0+z8)<(z3.2.2.1).length)/\(Qs (α:=Qd) (aq Qx (z3.2.2.1) (0+z8)))))/\(((0<=aG (s-1)/\Int.toNat kX<(z3.2.2.1).length)/\((0+z8)<(z3.2.2.1).length))/\(((0<=s/\Int.toNat s<(z3.2.1).length)/\(((0+(Int.toNat s))<(z3.2.1).length)/\(((0+(Int.toNat s))=(0+(Int.toNat s)))/\(((0+(Int.toNat s))=(0+(Int.toNat s)))/\(((0+(Int.toNat s))=(0+(Int.toNat s)))/\(((0+(Int.toNat s))=(0+(Int.toNat s)))/\(((0+(Int.toNat s))=(0+(Int.toNat s)))/\(((0+(Int.toNat s))=(0+(Int.toNat s)))/\(((0+(Int.toNat s))=(0+(Int.toNat s)))/\((0+(Int.toNat s))=(0+(Int.toNat s))))))))))))/\K (Ja (eX,(List.take ((z3.2.1).length) ((z3.2.1).set (0+(Int.toNat s)) (aG ((z1.1)+1),z1.2.1,z1.2.2.1,z1.2.2.2.1,z1.2.2.2.2.1,z1.2.2.2.2.2.1,z1.2.2.2.2.2.2.1,(List.take (((gz.2.1).2).length) (List.drop 0 ((gz.2.1).2))),z1.2.2.2.2.2.2.2.2.1,z1.2.2.2.2.2.2.2.2.2.1,z1.2.2.2.2.2.2.2.2.2.2.1,z1.2.2.2.2.2.2.2.2.2.2.2.1,z1.2.2.2.2.2.2.2.2.2.2.2.2.1,z1.2.2.2.2.2.2.2.2.2.2.2.2.2))),(List.take ((z3.2.2.1).length) ((z3.2.2.1).set (0+z8) ((gz.1).1,(List.take (((gz.1).2).length) (List.drop 0 ((gz.1).2)))))),eY))))) (aJ (((Ql p s).1)==2) (aJ (s==0) ((((0:Int)<=(Ql p s).2/\Int.toNat ((Ql p s).2)<(z3.1).length)/\((0+gV)<(z3.1).length))/\((((0:Int)<=(Ql p s).2/\Int.toNat ((Ql p s).2)<(z3.1).length)/\(((0+gV)<(z3.1).length)/\(JX z1 ((Ql p s).2) (z2.1) (z2.2))))/\(((0<=s/\Int.toNat s<(z3.2.1).length)/\((0+(Int.toNat s))<(z3.2.1).length))/\K (Ja (eX,(List.take ((z3.2.1).length) ((z3.2.1).set (0+(Int.toNat s)) (aG ((z6.1)+1),(List.take ((z6.2.1).length) (List.drop 0 (z6.2.1))),(List.take ((z6.2.2.1).length) (List.drop 0 (z6.2.2.1))),z6.2.2.2.1,z6.2.2.2.2.1,(List.take ((z6.2.2.2.2.2.1).length) (List.drop 0 (z6.2.2.2.2.2.1))),(List.take ((z6.2.2.2.2.2.2.1).length) (List.drop 0 (z6.2.2.2.2.2.2.1))),(List.take ((z6.2.2.2.2.2.2.2.1).length) (List.drop 0 (z6.2.2.2.2.2.2.2.1))),(List.take ((z6.2.2.2.2.2.2.2.2.1).length) (List.drop 0 (z6.2.2.2.2.2.2.2.2.1))),(List.take ((z6.2.2.2.2.2.2.2.2.2.1).length) (List.drop 0 (z6.2.2.2.2.2.2.2.2.2.1))),(List.take ((z6.2.2.2.2.2.2.2.2.2.2.1).length) (List.drop 0 (z6.2.2.2.2.2.2.2.2.2.2.1))),(List.take ((z6.2.2.2.2.2.2.2.2.2.2.2.1).length) (List.drop 0 (z6.2.2.2.2.2.2.2.2.2.2.2.1))),z6.2.2.2.2.2.2.2.2.2.2.2.2.1,z6.2.2.2.2.2.2.2.2.2.2.2.2.2))),z9,eY))))) ((((0:Int)<=(Ql p s).2/\Int.toNat ((Ql p s).2)<(z3.1).length)/\(((0+gV)<(z3.1).length)/\(JX z1 ((Ql p s).2) (z1.2.2.2.2.2.2.2.1) (z2.2))))/\(((0<=s/\Int.toNat s<(z3.2.1).length)/\((0+(Int.toNat s))<(z3.2.1).length))/\K (Ja (eX,(List.take ((z3.2.1).length) ((z3.2.1).set (0+(Int.toNat s)) (aG ((z5.1)+1),(List.take ((z5.2.1).length) (List.drop 0 (z5.2.1))),(List.take ((z5.2.2.1).length) (List.drop 0 (z5.2.2.1))),z5.2.2.2.1,z5.2.2.2.2.1,(List.take ((z5.2.2.2.2.2.1).length) (List.drop 0 (z5.2.2.2.2.2.1))),(List.take ((z5.2.2.2.2.2.2.1).length) (List.drop 0 (z5.2.2.2.2.2.2.1))),(List.take ((z5.2.2.2.2.2.2.2.1).length) (List.drop 0 (z5.2.2.2.2.2.2.2.1))),(List.take ((z5.2.2.2.2.2.2.2.2.1).length) (List.drop 0 (z5.2.2.2.2.2.2.2.2.1))),(List.take ((z5.2.2.2.2.2.2.2.2.2.1).length) (List.drop 0 (z5.2.2.2.2.2.2.2.2.2.1))),(List.take ((z5.2.2.2.2.2.2.2.2.2.2.1).length) (List.drop 0 (z5.2.2.2.2.2.2.2.2.2.2.1))),(List.take ((z5.2.2.2.2.2.2.2.2.2.2.2.1).length) (List.drop 0 (z5.2.2.2.2.2.2.2.2.2.2.2.1))),z5.2.2.2.2.2.2.2.2.2.2.2.2.1,z5.2.2.2.2.2.2.2.2.2.2.2.2.2))),z9,eY))))) (aJ (((Ql p s).1)==3) (((0<=s/\Int.toNat s<(z3.2.2.1).length)/\(((0+(Int.toNat s))<(z3.2.2.1).length)/\((Zp (α:=Qd) (β:=Qm) sC ((Ql p s).2,z1.2.2.2.2.2.2.2.2.1))/\((0<=s/\Int.toNat s<(z3.2.2.1).length)/\((0+(Int.toNat s))<(z3.2.2.1).length)))))/\(((0<=s/\Int.toNat s<(z3.2.1).length)/\(((0+(Int.toNat s))<(z3.2.1).length)/\(((0+(Int.toNat s))=(0+(Int.toNat s)))/\(((0+(Int.toNat s))=(0+(Int.toNat s)))/\(((0+(Int.toNat s))=(0+(Int.toNat s)))/\(((0+(Int.toNat s))=(0+(Int.toNat s)))/\(((0+(Int.toNat s))=(0+(Int.toNat s)))/\(((0+(Int.toNat s))=(0+(Int.toNat s)))/\(((0+(Int.toNat s))=(0+(Int.toNat s)))/\((0+(Int.toNat s))=(0+(Int.toNat s))))))))))))/\K (Ja (eX,(List.take ((z3.2.1).length) ((z3.2.1).set (0+(Int.toNat s)) (aG ((z1.1)+1),z1.2.1,z1.2.2.1,z1.2.2.2.1,z1.2.2.2.2.1,z1.2.2.2.2.2.1,z1.2.2.2.2.2.2.1,z1.2.2.2.2.2.2.2.1,[],z1.2.2.2.2.2.2.2.2.2.1,z1.2.2.2.2.2.2.2.2.2.2.1,z1.2.2.2.2.2.2.2.2.2.2.2.1,z1.2.2.2.2.2.2.2.2.2.2.2.2.1,z1.2.2.2.2.2.2.2.2.2.2.2.2.2))),(List.take ((z3.2.2.1).length) ((z3.2.2.1).set (0+(Int.toNat s)) ((fS.1).1,(List.take (((fS.1).2).length) (List.drop 0 ((fS.1).2)))))),eY)))) (aJ (((Ql p s).1)==4) (((0<=s/\Int.toNat s<(z3.2.2.2).length)/\(((0+(Int.toNat s))<(z3.2.2.2).length)/\(Qs (α:=Qd) dR)))/\(((0<=s/\Int.toNat s<(z3.2.2.2).length)/\((0+(Int.toNat s))<(z3.2.2.2).length))/\(((0<=s/\Int.toNat s<(z3.2.1).length)/\(((0+(Int.toNat s))<(z3.2.1).length)/\(((0+(Int.toNat s))=(0+(Int.toNat s)))/\(((0+(Int.toNat s))=(0+(Int.toNat s)))/\(((0+(Int.toNat s))=(0+(Int.toNat s)))/\(((0+(Int.toNat s))=(0+(Int.toNat s)))/\(((0+(Int.toNat s))=(0+(Int.toNat s)))/\(((0+(Int.toNat s))=(0+(Int.toNat s)))/\(((0+(Int.toNat s))=(0+(Int.toNat s)))/\((0+(Int.toNat s))=(0+(Int.toNat s))))))))))))/\K (Ja (eX,(List.take ((z3.2.1).length) ((z3.2.1).set (0+(Int.toNat s)) (aG ((z1.1)+1),z1.2.1,z1.2.2.1,z1.2.2.2.1,z1.2.2.2.2.1,z1.2.2.2.2.2.1,z1.2.2.2.2.2.2.1,z1.2.2.2.2.2.2.2.1,z1.2.2.2.2.2.2.2.2.1,(List.take ((((Zg dR).2.1).2).length) (List.drop 0 (((Zg dR).2.1).2))),z1.2.2.2.2.2.2.2.2.2.2.1,z1.2.2.2.2.2.2.2.2.2.2.2.1,z1.2.2.2.2.2.2.2.2.2.2.2.2.1,z1.2.2.2.2.2.2.2.2.2.2.2.2.2))),z9,(List.take ((z3.2.2.2).length) ((z3.2.2.2).set (0+(Int.toNat s)) (((Zg dR).1).1,(List.take ((((Zg dR).1).2).length) (List.drop 0 (((Zg dR).1).2))))))))))) (aJ (((Ql p s).1)==5) ((pq z1 ((Ql p s).2))/\(((0<=s/\Int.toNat s<(z3.2.1).length)/\((0+(Int.toNat s))<(z3.2.1).length))/\K (Ja (eX,(List.take ((z3.2.1).length) ((z3.2.1).set (0+(Int.toNat s)) (aG ((z7.1)+1),(List.take ((z7.2.1).length) (List.drop 0 (z7.2.1))),(List.take ((z7.2.2.1).length) (List.drop 0 (z7.2.2.1))),z7.2.2.2.1,z7.2.2.2.2.1,(List.take ((z7.2.2.2.2.2.1).length) (List.drop 0 (z7.2.2.2.2.2.1))),(List.take ((z7.2.2.2.2.2.2.1).length) (List.drop 0 (z7.2.2.2.2.2.2.1))),(List.take ((z7.2.2.2.2.2.2.2.1).length) (List.drop 0 (z7.2.2.2.2.2.2.2.1))),(List.take ((z7.2.2.2.2.2.2.2.2.1).length) (List.drop 0 (z7.2.2.2.2.2.2.2.2.1))),(List.take ((z7.2.2.2.2.2.2.2.2.2.1).length) (List.drop 0 (z7.2.2.2.2.2.2.2.2.2.1))),(List.take ((z7.2.2.2.2.2.2.2.2.2.2.1).length) (List.drop 0 (z7.2.2.2.2.2.2.2.2.2.2.1))),(List.take ((z7.2.2.2.2.2.2.2.2.2.2.2.1).length) (List.drop 0 (z7.2.2.2.2.2.2.2.2.2.2.2.1))),z7.2.2.2.2.2.2.2.2.2.2.2.2.1,z7.2.2.2.2.2.2.2.2.2.2.2.2.2))),z9,eY)))) (aJ (((Ql p s).1)==6) ((((0:Int)<=(Ql p s).2/\Int.toNat ((Ql p s).2)<(z3.1).length)/\(((0+gV)<(z3.1).length)/\(pw z1 ((Ql p s).2) (z2.2))))/\(aJ (s==0) (((0<=s/\Int.toNat s<(z3.2.1).length)/\((0+(Int.toNat s))<(z3.2.1).length))/\K (Ja (eX,(List.take ((z3.2.1).length) ((z3.2.1).set (0+(Int.toNat s)) (aG ((z4.1)+1),mG,mF,z4.2.2.2.1,z4.2.2.2.2.1,ki,kh,mE,kW,kV,[],kU,z4.2.2.2.2.2.2.2.2.2.2.2.2.1,z4.2.2.2.2.2.2.2.2.2.2.2.2.2))),z9,eY))) (((0<=s/\Int.toNat s<(z3.2.1).length)/\((0+(Int.toNat s))<(z3.2.1).length))/\K (Ja (eX,(List.take ((z3.2.1).length) ((z3.2.1).set (0+(Int.toNat s)) (aG ((z4.1)+1),mG,mF,z4.2.2.2.1,z4.2.2.2.2.1,ki,kh,mE,kW,kV,(List.take ((z4.2.2.2.2.2.2.2.2.2.2.1).length) (List.drop 0 (z4.2.2.2.2.2.2.2.2.2.2.1))),kU,z4.2.2.2.2.2.2.2.2.2.2.2.2.1,z4.2.2.2.2.2.2.2.2.2.2.2.2.2))),z9,eY))))) (aJ (((Ql p s).1)==7) (((0<=aG (s-1)/\Int.toNat kX<(z3.2.2.2).length)/\(((0+z8)<(z3.2.2.2).length)/\((Zp (α:=Qd) (β:=Qm) (aq Qx (z3.2.2.2) (0+z8)) ((Ql p s).2,z1.2.2.2.2.2.2.2.2.2.2.1))/\((0<=aG (s-1)/\Int.toNat kX<(z3.2.2.2).length)/\((0+z8)<(z3.2.2.2).length)))))/\(((0<=s/\Int.toNat s<(z3.2.1).length)/\(((0+(Int.toNat s))<(z3.2.1).length)/\(((0+(Int.toNat s))=(0+(Int.toNat s)))/\(((0+(Int.toNat s))=(0+(Int.toNat s)))/\(((0+(Int.toNat s))=(0+(Int.toNat s)))/\(((0+(Int.toNat s))=(0+(Int.toNat s)))/\(((0+(Int.toNat s))=(0+(Int.toNat s)))/\(((0+(Int.toNat s))=(0+(Int.toNat s)))/\(((0+(Int.toNat s))=(0+(Int.toNat s)))/\((0+(Int.toNat s))=(0+(Int.toNat s))))))))))))/\K (Ja (eX,(List.take ((z3.2.1).length) ((z3.2.1).set (0+(Int.toNat s)) (aG ((z1.1)+1),z1.2.1,z1.2.2.1,z1.2.2.2.1,z1.2.2.2.2.1,z1.2.2.2.2.2.1,z1.2.2.2.2.2.2.1,z1.2.2.2.2.2.2.2.1,z1.2.2.2.2.2.2.2.2.1,z1.2.2.2.2.2.2.2.2.2.1,[],z1.2.2.2.2.2.2.2.2.2.2.2.1,z1.2.2.2.2.2.2.2.2.2.2.2.2.1,z1.2.2.2.2.2.2.2.2.2.2.2.2.2))),z9,(List.take ((z3.2.2.2).length) ((z3.2.2.2).set (0+z8) ((f4.1).1,(List.take (((f4.1).2).length) (List.drop 0 ((f4.1).2)))))))))) (((0<=s/\Int.toNat s<(z3.2.1).length)/\(((0+(Int.toNat s))<(z3.2.1).length)/\(((0+(Int.toNat s))=(0+(Int.toNat s)))/\(((0+(Int.toNat s))=(0+(Int.toNat s)))/\(((0+(Int.toNat s))=(0+(Int.toNat s)))/\(((0+(Int.toNat s))=(0+(Int.toNat s)))/\(((0+(Int.toNat s))=(0+(Int.toNat s)))/\(((0+(Int.toNat s))=(0+(Int.toNat s)))/\(((0+(Int.toNat s))=(0+(Int.toNat s)))/\(((0+(Int.toNat s))=(0+(Int.toNat s)))/\((0+(Int.toNat s))=(0+(Int.toNat s)))))))))))))/\K (Ja (eX,(List.take ((z3.2.1).length) ((z3.2.1).set (0+(Int.toNat s)) (aG ((z1.1)+1),z1.2.1,z1.2.2.1,z1.2.2.2.1,z1.2.2.2.2.1,z1.2.2.2.2.2.1,z1.2.2.2.2.2.2.1,z1.2.2.2.2.2.2.2.1,z1.2.2.2.2.2.2.2.2.1,z1.2.2.2.2.2.2.2.2.2.1,z1.2.2.2.2.2.2.2.2.2.2.1,z1.2.2.2.2.2.2.2.2.2.2.2.1,z1.2.2.2.2.2.2.2.2.2.2.2.2.1,z1.2.2.2.2.2.2.2.2.2.2.2.2.2))),z9,eY)))))))))))))) (λhb=>?_)
 conv=>zeta
 have il:Sz.sz p<=1073741824:=hp;have hs:Sz.sz p=Sz.sz p.1+Sz.sz p.2.1+Sz.sz p.2.2.1+Sz.sz p.2.2.2:=uF p;simp only[id,List.drop_zero,List.take_length,Nat.zero_add,and_true,true_and,and_self];refine⟨by unfold Qs;omega,λh=>au ?_,λh=>?_⟩
 ·rw[QrR (by simpa using h)]
 have he:ZI p s=true:=by simpa using h
 obtain⟨k,rfl,hk,h4,ha,hb,iO,pM,vN,c1,c3,c4,c7,gU⟩:=QB5 he;have py:=QAs iO;have qc:=n8 Qz p.2.1 k;have hx:=ZL (aq Qz p.2.1 k);have gA:=Yl (Qt (aq Qz p.2.1 k));have iL:=λj=>n8 Qx p.2.2.1 j;have gj:=λj=>n8 Qx p.2.2.2 j;have d0:Sz.sz Qz=0:=rfl;have d1:Sz.sz Qx=0:=rfl;have ts:∀(l:List Qd)(i:Nat)(v:Qd),List.take l.length (l.set i v)=l.set i v:=λl i v=>List.take_of_length_le (by simp);simp only[Int.toNat_natCast];have key:∀(y:Qc)(a b:List Qd),ZO p k (aq Qz p.2.1 k) (Ql p (k:Int))=(y,a,b)->y.1=(aq Qz p.2.1 k).1->((p.1,List.take p.2.1.length (p.2.1.set k (aG (y.1+1),y.2.1,y.2.2.1,y.2.2.2.1,y.2.2.2.2.1,y.2.2.2.2.2.1,y.2.2.2.2.2.2.1,y.2.2.2.2.2.2.2.1,y.2.2.2.2.2.2.2.2.1,y.2.2.2.2.2.2.2.2.2.1,y.2.2.2.2.2.2.2.2.2.2.1,y.2.2.2.2.2.2.2.2.2.2.2.1,y.2.2.2.2.2.2.2.2.2.2.2.2.1,y.2.2.2.2.2.2.2.2.2.2.2.2.2)),a,b):Qk)=ZQ p (k:Int):=by
  intro y a b hy y6;have hw:aG (y.1+1)=y.1+1:=by rw[y6];exact QG (by((try simp only[bT,Qt,aE,Qn,Qp,Qj,QB,sX,sY,sG,sD,Qy,Qw,bf,QA,QC,Qq,Qr]at *);omega)) (by((try simp only[bT,Qt,aE,Qn,Qp,Qj,QB,sX,sY,sG,sD,Qy,Qw,bf,QA,QC,Qq,Qr]at *);omega))
  rw[Qrn he rfl hy y6,hw,List.take_of_length_le (by simp)]
 refine⟨⟨⟨by omega,hk⟩,hk⟩,?_⟩;refine⟨λg=>?_,λn1=>?_⟩
 ·have g:(Ql p (k:Int)).1=1:=by simpa using g
  have g1:=c1 g;have e:aG ((k:Int)-1)=((k-1:Nat):Int):=by rw[QG (by omega) (by omega)];omega
  rw[e];simp only[Int.toNat_natCast];rw[ts];exact⟨⟨⟨by omega,by omega⟩,by omega,by unfold Qs;have:=iL (k-1);omega⟩,⟨⟨by omega,by omega⟩,by omega⟩,⟨⟨by omega,hk⟩,hk⟩,au (key (kO (aq Qz p.2.1 k) (Zg (aq Qx p.2.2.1 (k-1))).2.1.2) _ _ (pi1 g) rfl)⟩
 refine⟨λg=>?_,λn2=>?_⟩
 ·have g:(Ql p (k:Int)).1=2:=by simpa using g
  refine⟨λhz=>⟨⟨⟨pM,by omega⟩,by omega⟩,⟨⟨pM,by omega⟩,by omega,by unfold JX;omega⟩,⟨⟨by omega,hk⟩,hk⟩,au (key (ZZ (aq Qz p.2.1 k) (Ql p (k:Int)).2 (aq QW p.1 (Ql p (k:Int)).2.toNat).1 (aq QW p.1 (Ql p (k:Int)).2.toNat).2) _ _ ?_ (MB _ _ _ _))⟩,λhz=>⟨⟨⟨pM,by omega⟩,by omega,by unfold JX;omega⟩,⟨⟨by omega,hk⟩,hk⟩,au (key (ZZ (aq Qz p.2.1 k) (Ql p (k:Int)).2 (sX (aq Qz p.2.1 k)) (aq QW p.1 (Ql p (k:Int)).2.toNat).2) _ _ ?_ (MB _ _ _ _))⟩⟩
  ·rw[MC g,if_pos (by simp at hz;omega)];try rfl
  ·rw[MC g,if_neg (by simp at hz;omega)];try rfl
 refine⟨λg=>?_,λn3=>?_⟩
 ·have g:(Ql p (k:Int)).1=3:=by simpa using g
  have g1:=c3 g;rw[ts];refine⟨⟨⟨by omega,by omega⟩,by omega,?_,⟨by omega,by omega⟩,by omega⟩,⟨⟨by omega,hk⟩,hk⟩,au (key (kP (aq Qz p.2.1 k) []) _ _ (pi3 g) rfl)⟩;unfold Zp;simp only[YK,QL];have:=iL (k);((try simp only[bT,Qt,aE,Qn,Qp,Qj,QB,sX,sY,sG,sD,Qy,Qw,bf,QA,QC,Qq,Qr]at *);omega)
 refine⟨λg=>?_,λn4=>?_⟩
 ·have g:(Ql p (k:Int)).1=4:=by simpa using g
  have g1:=c4 g;rw[ts];exact⟨⟨⟨by omega,by omega⟩,by omega,by unfold Qs;have:=gj (k);omega⟩,⟨⟨by omega,by omega⟩,by omega⟩,⟨⟨by omega,hk⟩,hk⟩,au (key (kQ (aq Qz p.2.1 k) (Zg (aq Qx p.2.2.2 k)).2.1.2) _ _ (pi4 g) rfl)⟩
 refine⟨λg=>?_,λn5=>?_⟩
 ·have g:(Ql p (k:Int)).1=5:=by simpa using g
  exact⟨by unfold pq;omega,⟨⟨by omega,hk⟩,hk⟩,au (key (Yp (aq Qz p.2.1 k) (Ql p (k:Int)).2) _ _ (pi5 g) (QzN _ _))⟩
 refine⟨λg=>?_,λn6=>?_⟩
 ·have g:(Ql p (k:Int)).1=6:=by simpa using g
  refine⟨⟨⟨pM,by omega⟩,by omega,by unfold pw;omega⟩,λhz=>⟨⟨⟨by omega,hk⟩,hk⟩,au ?_⟩,λhz=>⟨⟨⟨by omega,hk⟩,hk⟩,au ?_⟩⟩
  ·exact key (gx (ZB (aq Qz p.2.1 k) (Ql p (k:Int)).2 (aq QW p.1 (Ql p (k:Int)).2.toNat).2) []) _ _ (by rw[CD g,if_pos (by simp at hz;omega)]) (CC _ _ _)
  ·exact key (ZB (aq Qz p.2.1 k) (Ql p (k:Int)).2 (aq QW p.1 (Ql p (k:Int)).2.toNat).2) _ _ (by rw[CD g,if_neg (by simp at hz;omega)]) (CC _ _ _)
 refine⟨λg=>?_,λn7=>?_⟩
 ·have g:(Ql p (k:Int)).1=7:=by simpa using g
  have g1:=c7 g;have e:aG ((k:Int)-1)=((k-1:Nat):Int):=by rw[QG (by omega) (by omega)];omega
  rw[e];simp only[Int.toNat_natCast];rw[ts];refine⟨⟨⟨by omega,by omega⟩,by omega,?_,⟨by omega,by omega⟩,by omega⟩,⟨⟨by omega,hk⟩,hk⟩,au (key (gx (aq Qz p.2.1 k) []) _ _ (pi7 g) rfl)⟩;unfold Zp;simp only[YK,QL];have:=gj (k-1);((try simp only[bT,Qt,aE,Qn,Qp,Qj,QB,sX,sY,sG,sD,Qy,Qw,bf,QA,QC,Qq,Qr]at *);omega)
 ·simp at n1 n2 n3 n4 n5 n6 n7;exact⟨⟨⟨by omega,hk⟩,hk⟩,au (key (aq Qz p.2.1 k) _ _ (pi8 (by omega)) rfl)⟩
theorem QGL:Qf Tryz.prog Nq:=Qi λx h=>QJU x.1 x.2.1 h
def uT(t:Qk):aB:=⟨(.a [(bc QF t.1),(.r Qe 0 0 ((t.2.1).length)),(.r Qh 1 0 ((t.2.2.1).length)),(bc Qh t.2.2.2)]),[(.sl 39 Qe .ow t.2.1),(.sl 161 Qh .ow t.2.2.1)],[],true,[]⟩
def Nr:aI:=Qg 49 [(.a QM),(.c TI)] λx=>(some (px x.1 x.2.1),uT (ZQ x.1 x.2.1))
def Dc:aF:=⟨[Da,Nl,C5,M8,MG,M6,MJ,MO],false⟩
def QAI:af :=
 (.draw [a7 71 7 14,ak 72 6 1,an 73 72 1,ab 74 11,ak 75 2 0,an 76 75 1,ak 77 6 1,an 78 77 1,aZ 79 76 78 QF,ak 80 79 1,an 81 80 1,aD 82 28 [71,73,74,81],aT 7 82 14] [])
def QSA:List (Nat × Md):=[(1,.one .d),(2,.b (dH 4)),(4,.b (dH 4)),(5,.b [.d,.f,.f,.f]),(6,.b [.d,.d]),(7,.b (dH 14)),(11,.one .d)]
def QXZ:af:=.wk QSA QAI
def QA4:af :=
 (ag [(.ae [ak 174 7 0,an 175 174 1,aw 176 .add 175 (ar 1),ak 177 7 0,aT 177 176 1]),(.ae [ak 178 5 1,an 179 178 1,ab 180 1,a7 181 7 14,aZ 182 179 180 Qe,aT 182 181 14]),(.ae [a7 183 5 4,aT 4 183 4]),.ret])
def QXY:List (Nat × Md):=[(1,.one .d),(4,.b (dH 4)),(5,.b [.d,.f,.f,.f]),(7,.b (dH 14))]
def QB1:af:=.wk QXY QA4
def QIy:af :=
 (ag [(.ae [aC 2 (.box 56 0 4),aC 4 (.new 56 (bG QM))]),(.ae [a7 19 2 4,aD 20 143 [19],aC 5 (.new 56 (bG QM)),aT 5 20 4]),(ag [(.ae [a7 21 2 4,ab 22 1,aD 23 89 [21,22],bL 24 23]),(.cond 24 (ag [(.ae [a7 25 5 4,aT 4 25 4]),.ret]) .skip)]),(.ae [a7 26 2 4,ab 27 1,aD 28 144 [26,27],aC 6 (.new 175 (bG QQ)),aT 6 28 2]),(.ae [ak 29 5 1,an 30 29 1,ab 31 1,aZ 32 30 31 Qe,a7 33 32 14,aC 7 (.new 39 (bG Qe)),aT 7 33 14]),(ag [(.ae [ak 34 6 0,an 35 34 1]),(.block 0 (ag [(.ae [aw 37 .eql 35 (ar 1),ab 36 37]),(.cond 36 (ag [(.ae [ak 39 2 2,an 40 39 1,ab 41 1,aw 42 .sub 41 (ar 1),aZ 43 40 42 Qh,a7 44 43 2,aD 45 145 [44],ab 38 45,bF 46 38 0,bF 47 38 1,bF 48 38 2,aC 8 (.new 161 (bG Qh)),aC 9 (.new 178 (bG Qu)),aT 8 46 2,aT 9 47 2,ab 10 48]),(.ae [ak 49 5 2,an 50 49 1,ab 51 1,aw 52 .sub 51 (ar 1),a7 53 8 2,aZ 54 50 52 Qh,aT 54 53 2]),(.ae [ak 55 9 1,an 56 55 1,ak 57 7 7,aT 57 56 1])]) (ag [(.ae [aw 59 .eql 35 (ar 2),ab 58 59]),(.cond 58 (ag [(.ae [ak 60 7 7,an 61 60 1,ab 11 61]),(ag [(.ae [ab 62 1,aw 63 .eql 62 (ar 0)]),(.cond 63 (.ae [ak 64 2 0,an 65 64 1,ak 66 6 1,an 67 66 1,aZ 68 65 67 QF,ak 69 68 0,an 70 69 1,ab 11 70]) .skip)]),QXZ]) (ag [(.ae [aw 84 .eql 35 (ar 3),ab 83 84]),(.cond 83 (ag [(.draw [ak 86 2 2,an 87 86 1,ab 88 1,aZ 89 87 88 Qh,a7 90 89 2,ak 91 6 1,an 92 91 1,ak 93 7 8,an 94 93 1,aC 95 (.build (bG Qu) [(0,1,92),(1,1,94)]),aD 96 146 [90,95],ab 85 96,bF 97 85 0,bF 98 85 1,aC 12 (.new 161 (bG Qh)),aT 12 97 2,ab 13 98] [(0,14),(1,14),(3,14),(4,14),(5,14),(6,14),(7,14),(8,14),(10,14)]),(.ae [ak 99 5 2,an 100 99 1,ab 101 1,a7 102 12 2,aZ 103 100 101 Qh,aT 103 102 2]),(.ae [aC 104 (.bW 3 [TI] []),ak 105 7 8,aT 105 104 1])]) (ag [(.ae [aw 107 .eql 35 (ar 4),ab 106 107]),(.cond 106 (ag [(.ae [ak 109 2 3,an 110 109 1,ab 111 1,aZ 112 110 111 Qh,a7 113 112 2,aD 114 145 [113],ab 108 114,bF 115 108 0,bF 116 108 1,bF 117 108 2,aC 14 (.new 161 (bG Qh)),aC 15 (.new 178 (bG Qu)),aT 14 115 2,aT 15 116 2,ab 16 117]),(.ae [ak 118 5 3,an 119 118 1,ab 120 1,a7 121 14 2,aZ 122 119 120 Qh,aT 122 121 2]),(.ae [ak 123 15 1,an 124 123 1,ak 125 7 9,aT 125 124 1])]) (ag [(.ae [aw 127 .eql 35 (ar 5),ab 126 127]),(.cond 126 (.ae [a7 128 7 14,ak 129 6 1,an 130 129 1,aD 131 13 [128,130],aT 7 131 14]) (ag [(.ae [aw 133 .eql 35 (ar 6),ab 132 133]),(.cond 132 (ag [(.draw [a7 134 7 14,ak 135 6 1,an 136 135 1,ak 137 2 0,an 138 137 1,ak 139 6 1,an 140 139 1,aZ 141 138 140 QF,ak 142 141 1,an 143 142 1,aD 144 31 [134,136,143],aT 7 144 14] []),(.ae [ab 145 1,aw 146 .eql 145 (ar 0)]),(.cond 146 (.ae [aC 147 (.bW 3 [TI] []),ak 148 7 10,aT 148 147 1]) .skip)]) (ag [(.ae [aw 150 .eql 35 (ar 7),ab 149 150]),(.cond 149 (ag [(.draw [ak 152 2 3,an 153 152 1,ab 154 1,aw 155 .sub 154 (ar 1),aZ 156 153 155 Qh,a7 157 156 2,ak 158 6 1,an 159 158 1,ak 160 7 10,an 161 160 1,aC 162 (.build (bG Qu) [(0,1,159),(1,1,161)]),aD 163 146 [157,162],ab 151 163,bF 164 151 0,bF 165 151 1,aC 17 (.new 161 (bG Qh)),aT 17 164 2,ab 18 165] [(0,15),(1,15),(4,15),(5,15),(6,15),(7,15),(8,15),(9,15),(11,15)]),(.ae [ak 166 5 3,an 167 166 1,ab 168 1,aw 169 .sub 168 (ar 1),a7 170 17 2,aZ 171 167 169 Qh,aT 171 170 2]),(.ae [aC 172 (.bW 3 [TI] []),ak 173 7 10,aT 173 172 1])]) .skip)]))]))]))]))]))]))]))]),QB1])
def QEh:List (bm × Md):=[(.l 4 4 true,.b [.d,.o 39,.o 161,.d])]
def Ns:Qb:=TQ 0 0 QEh K
@[irreducible] def JB(p:Qk)(s:Int)(x1:List Qc)(x2:List Qd)(x3:List Qd)(Dd:Int)(De:List bp)(Df:List aH)(Dg:Bool)(Dh:Bool)(Di:List QD)(Dj:List (List Int))(Dk:List Int)(Dl:List Int)(Dm:List Int)(ob:List Int)(oc:List (List Int))(od:Int)(oe:Bool):Prop:=aN Dc 0 QA4 (Ns K) ⟨[(1,(aL s)),(4,(.p 0 0 0)),(5,(.p 4 0 0)),(7,(.p 5 0 0))],[(0,(.box (aR.cells QM ([],[],[],[])))),(1,(.sl 39 Qe .ow x1)),(2,(.sl 161 Qh .ow x2)),(3,(.sl 161 Qh .ow x3)),(4,(.box [(bc QF ((id (α:=Qk) p).1)),(.r Qe 1 0 x1.length),(.r Qh 2 0 x2.length),(.r Qh 3 0 x3.length)])),(5,(.box (aR.cells Qe (Dd,De,Df,Dg,Dh,Di,Dj,Dk,Dl,Dm,ob,oc,od,oe))))],6⟩
def QT8:Qb:=aY (aN Dc 0 QB1 (Ns K)) (Ns K)
def QOn:Qb:=a6 0 (QT8 K)
@[irreducible] def Dn(p:Qk)(s:Int)(dn:List Int):Prop:=let z1:=id (α:=Qk) p
 aN Dc 0 QAI (QOn K) ⟨[(1,(aL s)),(2,(.p 0 0 0)),(4,(.p 1 0 0)),(5,(.p 5 0 0)),(6,(.p 6 0 0)),(7,(.p 7 0 0)),(11,(bc [TI] dn))],[(0,(.box (aR.cells QM p))),(1,(.box (aR.cells QM ([],[],[],[])))),(2,(.sl 39 Qe .ow (List.take ((z1.2.1).length) (z1.2.1)))),(3,(.sl 161 Qh .ow (List.take ((z1.2.2.1).length) (z1.2.2.1)))),(4,(.sl 161 Qh .ow (List.take ((z1.2.2.2).length) (z1.2.2.2)))),(5,(.box [(bc QF (z1.1)),(.r Qe 2 0 ((List.take ((z1.2.1).length) (z1.2.1)).length)),(.r Qh 3 0 ((List.take ((z1.2.2.1).length) (z1.2.2.1)).length)),(.r Qh 4 0 ((List.take ((z1.2.2.2).length) (z1.2.2.2)).length))])),(6,(.box [(aL ((Ql p s).1)),(aL ((Ql p s).2))])),(7,(.box (aR.cells Qe (aq Qz (z1.2.1) (0+(Int.toNat s))))))],8⟩
theorem QOR(p:Qk)(s:Int)(x1:List Qc)(x2:List Qd)(x3:List Qd)(Dd:Int)(De:List bp)(Df:List aH)(Dg:Bool)(Dh:Bool)(Di:List QD)(Dj:List (List Int))(Dk:List Int)(Dl:List Int)(Dm:List Int)(ob:List Int)(oc:List (List Int))(od:Int)(oe:Bool) (h :
 (((0<=s/\Int.toNat s<x1.length)/\((0+(Int.toNat s))<x1.length))/\K (uT ((id (α:=Qk) p).1,(List.take x1.length ((x1).set (0+(Int.toNat s)) (aG (Dd+1),De,Df,Dg,Dh,Di,Dj,Dk,Dl,Dm,ob,oc,od,oe))),(List.take x2.length x2),(List.take x3.length (List.drop 0 x3)))))):du (JB K p s x1 x2 x3 Dd De Df Dg Dh Di Dj Dk Dl Dm ob oc od oe) :=
 du.of h
theorem QOu(p:Qk)(s:Int)(dn:List Int) (h :
 let z2:=id (α:=Qk) p
 let z3:=aq QW p.1 (Int.toNat ((Ql p s).2))
 let z1:=ZZ (aq Qz (z2.2.1) (0+(Int.toNat s))) ((Ql p s).2) dn (z3.2)
 ((((0:Int)<=(Ql p s).2/\Int.toNat ((Ql p s).2)<(p.1).length)/\(JX (aq Qz (z2.2.1) (0+(Int.toNat s))) ((Ql p s).2) dn (z3.2)))/\(JB K p s (List.take ((List.take ((z2.2.1).length) (z2.2.1)).length) (List.take ((z2.2.1).length) (z2.2.1))) (List.take ((List.take ((z2.2.2.1).length) (z2.2.2.1)).length) (List.take ((z2.2.2.1).length) (z2.2.2.1))) (List.take ((List.take ((z2.2.2.2).length) (z2.2.2.2)).length) (List.take ((z2.2.2.2).length) (z2.2.2.2))) (z1.1) (z1.2.1) (z1.2.2.1) (z1.2.2.2.1) (z1.2.2.2.2.1) (z1.2.2.2.2.2.1) (z1.2.2.2.2.2.2.1) (z1.2.2.2.2.2.2.2.1) (z1.2.2.2.2.2.2.2.2.1) (z1.2.2.2.2.2.2.2.2.2.1) (z1.2.2.2.2.2.2.2.2.2.2.1) (z1.2.2.2.2.2.2.2.2.2.2.2.1) (z1.2.2.2.2.2.2.2.2.2.2.2.2.1) (z1.2.2.2.2.2.2.2.2.2.2.2.2.2)))):du (Dn K p s dn) :=
 du.of h
theorem QT5(p:Qk)(s:Int)(hp:px p s):aK Tryz.prog 49 [(.a (aR.cells QM p)),(.c TI s)] (uT (ZQ p s)):=by
 refine bw Dc QIy QEh 0 0 184 Nr (kc Qzp (kc QM2 (kc QvL (kc QJz (kc QSn (kc QPl (kc QOB (kc QT4 kn)))))))) (λK =>
 let z3:=id (α:=Qk) p
 let z1:=aq Qz (z3.2.1) (0+(Int.toNat s))
 let z4:=Yp z1 ((Ql p s).2)
 let z6:=List.take ((z3.2.1).length) (z3.2.1)
 let z7:=List.take ((z3.2.2.1).length) (z3.2.2.1)
 let z8:=List.take ((z3.2.2.2).length) (z3.2.2.2)
 let z9:=Ya (aq Qx p.2.2.1 (Int.toNat s)) ((Ql p s).2,z1.2.2.2.2.2.2.2.2.1)
 let eX:=aq QW p.1 (Int.toNat ((Ql p s).2))
 let z2:=ZB z1 ((Ql p s).2) (eX.2)
 let dR:=aG (s-1)
 let z5:=Int.toNat dR
 let eY:=Ya (aq Qx p.2.2.2 z5) ((Ql p s).2,z1.2.2.2.2.2.2.2.2.2.2.1)
 let fS:=aq Qx p.2.2.2 (Int.toNat s)
 let f4:=aq Qx p.2.2.1 z5
 ((Qs (α:=Qk) p)/\(aJ (!(ZI p s)) (K (uT (z3.1,z6,z7,(List.take ((z3.2.2.2).length) (List.drop 0 (z3.2.2.2)))))) (((0<=s/\Int.toNat s<(z3.2.1).length)/\((0+(Int.toNat s))<(z3.2.1).length))/\(aJ (((Ql p s).1)==1) (((0<=aG (s-1)/\Int.toNat dR<(p.2.2.1).length)/\(Qs (α:=Qd) f4))/\(((0<=aG (s-1)/\Int.toNat dR<(z3.2.2.1).length)/\((0+z5)<(z3.2.2.1).length))/\(JB K p s z6 (List.take ((z3.2.2.1).length) ((z3.2.2.1).set (0+z5) ((Zg f4).1))) z8 (z1.1) (z1.2.1) (z1.2.2.1) (z1.2.2.2.1) (z1.2.2.2.2.1) (z1.2.2.2.2.2.1) (z1.2.2.2.2.2.2.1) (((Zg f4).2.1).2) (z1.2.2.2.2.2.2.2.2.1) (z1.2.2.2.2.2.2.2.2.2.1) (z1.2.2.2.2.2.2.2.2.2.2.1) (z1.2.2.2.2.2.2.2.2.2.2.2.1) (z1.2.2.2.2.2.2.2.2.2.2.2.2.1) (z1.2.2.2.2.2.2.2.2.2.2.2.2.2)))) (aJ (((Ql p s).1)==2) (aJ (s==0) (((0:Int)<=(Ql p s).2/\Int.toNat ((Ql p s).2)<(p.1).length)/\(Dn K p s (eX.1))) (Dn K p s (z1.2.2.2.2.2.2.2.1))) (aJ (((Ql p s).1)==3) (((0<=s/\Int.toNat s<(p.2.2.1).length)/\(Zp (α:=Qd) (β:=Qm) (aq Qx p.2.2.1 (Int.toNat s)) ((Ql p s).2,z1.2.2.2.2.2.2.2.2.1)))/\(((0<=s/\Int.toNat s<(z3.2.2.1).length)/\((0+(Int.toNat s))<(z3.2.2.1).length))/\(JB K p s z6 (List.take ((z3.2.2.1).length) ((z3.2.2.1).set (0+(Int.toNat s)) ((z9.1).1,(List.take (((z9.1).2).length) (List.drop 0 ((z9.1).2)))))) z8 (z1.1) (z1.2.1) (z1.2.2.1) (z1.2.2.2.1) (z1.2.2.2.2.1) (z1.2.2.2.2.2.1) (z1.2.2.2.2.2.2.1) (z1.2.2.2.2.2.2.2.1) ([]:List Int) (z1.2.2.2.2.2.2.2.2.2.1) (z1.2.2.2.2.2.2.2.2.2.2.1) (z1.2.2.2.2.2.2.2.2.2.2.2.1) (z1.2.2.2.2.2.2.2.2.2.2.2.2.1) (z1.2.2.2.2.2.2.2.2.2.2.2.2.2)))) (aJ (((Ql p s).1)==4) (((0<=s/\Int.toNat s<(p.2.2.2).length)/\(Qs (α:=Qd) fS))/\(((0<=s/\Int.toNat s<(z3.2.2.2).length)/\((0+(Int.toNat s))<(z3.2.2.2).length))/\(JB K p s z6 z7 (List.take ((z3.2.2.2).length) ((z3.2.2.2).set (0+(Int.toNat s)) ((Zg fS).1))) (z1.1) (z1.2.1) (z1.2.2.1) (z1.2.2.2.1) (z1.2.2.2.2.1) (z1.2.2.2.2.2.1) (z1.2.2.2.2.2.2.1) (z1.2.2.2.2.2.2.2.1) (z1.2.2.2.2.2.2.2.2.1) (((Zg fS).2.1).2) (z1.2.2.2.2.2.2.2.2.2.2.1) (z1.2.2.2.2.2.2.2.2.2.2.2.1) (z1.2.2.2.2.2.2.2.2.2.2.2.2.1) (z1.2.2.2.2.2.2.2.2.2.2.2.2.2)))) (aJ (((Ql p s).1)==5) ((pq z1 ((Ql p s).2))/\(JB K p s z6 z7 z8 (z4.1) (z4.2.1) (z4.2.2.1) (z4.2.2.2.1) (z4.2.2.2.2.1) (z4.2.2.2.2.2.1) (z4.2.2.2.2.2.2.1) (z4.2.2.2.2.2.2.2.1) (z4.2.2.2.2.2.2.2.2.1) (z4.2.2.2.2.2.2.2.2.2.1) (z4.2.2.2.2.2.2.2.2.2.2.1) (z4.2.2.2.2.2.2.2.2.2.2.2.1) (z4.2.2.2.2.2.2.2.2.2.2.2.2.1) (z4.2.2.2.2.2.2.2.2.2.2.2.2.2))) (aJ (((Ql p s).1)==6) ((((0:Int)<=(Ql p s).2/\Int.toNat ((Ql p s).2)<(p.1).length)/\(pw z1 ((Ql p s).2) (eX.2)))/\(aJ (s==0) (JB K p s z6 z7 z8 (z2.1) (z2.2.1) (z2.2.2.1) (z2.2.2.2.1) (z2.2.2.2.2.1) (z2.2.2.2.2.2.1) (z2.2.2.2.2.2.2.1) (z2.2.2.2.2.2.2.2.1) (z2.2.2.2.2.2.2.2.2.1) (z2.2.2.2.2.2.2.2.2.2.1) ([]:List Int) (z2.2.2.2.2.2.2.2.2.2.2.2.1) (z2.2.2.2.2.2.2.2.2.2.2.2.2.1) (z2.2.2.2.2.2.2.2.2.2.2.2.2.2)) (JB K p s z6 z7 z8 (z2.1) (z2.2.1) (z2.2.2.1) (z2.2.2.2.1) (z2.2.2.2.2.1) (z2.2.2.2.2.2.1) (z2.2.2.2.2.2.2.1) (z2.2.2.2.2.2.2.2.1) (z2.2.2.2.2.2.2.2.2.1) (z2.2.2.2.2.2.2.2.2.2.1) (z2.2.2.2.2.2.2.2.2.2.2.1) (z2.2.2.2.2.2.2.2.2.2.2.2.1) (z2.2.2.2.2.2.2.2.2.2.2.2.2.1) (z2.2.2.2.2.2.2.2.2.2.2.2.2.2)))) (aJ (((Ql p s).1)==7) (((0<=aG (s-1)/\Int.toNat dR<(p.2.2.2).length)/\(Zp (α:=Qd) (β:=Qm) (aq Qx p.2.2.2 z5) ((Ql p s).2,z1.2.2.2.2.2.2.2.2.2.2.1)))/\(((0<=aG (s-1)/\Int.toNat dR<(z3.2.2.2).length)/\((0+z5)<(z3.2.2.2).length))/\(JB K p s z6 z7 (List.take ((z3.2.2.2).length) ((z3.2.2.2).set (0+z5) ((eY.1).1,(List.take (((eY.1).2).length) (List.drop 0 ((eY.1).2)))))) (z1.1) (z1.2.1) (z1.2.2.1) (z1.2.2.2.1) (z1.2.2.2.2.1) (z1.2.2.2.2.2.1) (z1.2.2.2.2.2.2.1) (z1.2.2.2.2.2.2.2.1) (z1.2.2.2.2.2.2.2.2.1) (z1.2.2.2.2.2.2.2.2.2.1) ([]:List Int) (z1.2.2.2.2.2.2.2.2.2.2.2.1) (z1.2.2.2.2.2.2.2.2.2.2.2.2.1) (z1.2.2.2.2.2.2.2.2.2.2.2.2.2)))) (JB K p s z6 z7 z8 (z1.1) (z1.2.1) (z1.2.2.1) (z1.2.2.2.1) (z1.2.2.2.2.1) (z1.2.2.2.2.2.1) (z1.2.2.2.2.2.2.1) (z1.2.2.2.2.2.2.2.1) (z1.2.2.2.2.2.2.2.2.1) (z1.2.2.2.2.2.2.2.2.2.1) (z1.2.2.2.2.2.2.2.2.2.2.1) (z1.2.2.2.2.2.2.2.2.2.2.2.1) (z1.2.2.2.2.2.2.2.2.2.2.2.2.1) (z1.2.2.2.2.2.2.2.2.2.2.2.2.2))))))))))))) (λhb=>?_)
 conv=>zeta
 have il:Sz.sz p<=1073741824:=hp;have hs:Sz.sz p=Sz.sz p.1+Sz.sz p.2.1+Sz.sz p.2.2.1+Sz.sz p.2.2.2:=uF p;simp only[id,List.drop_zero,List.take_length,Nat.zero_add];refine⟨by unfold Qs;omega,λh=>au ?_,λh=>?_⟩
 ·rw[QrR (by simpa using h)]
 have he:ZI p s=true:=by simpa using h
 obtain⟨k,rfl,hk,h4,ha,hb,iO,pM,vN,c1,c3,c4,c7,gU⟩:=QB5 he;have py:=QAs iO;have qc:=n8 Qz p.2.1 k;have hx:=ZL (aq Qz p.2.1 k);have gA:=Yl (Qt (aq Qz p.2.1 k));have iL:=λj=>n8 Qx p.2.2.1 j;have gj:=λj=>n8 Qx p.2.2.2 j;have d0:Sz.sz Qz=0:=rfl;have d1:Sz.sz Qx=0:=rfl;have ts:∀(l:List Qd)(i:Nat)(v:Qd),List.take l.length (l.set i v)=l.set i v:=λl i v=>List.take_of_length_le (by simp);simp only[Int.toNat_natCast];have key:∀(y:Qc)(a b:List Qd),ZO p k (aq Qz p.2.1 k) (Ql p (k:Int))=(y,a,b)->y.1=(aq Qz p.2.1 k).1->JB (λr'=>r'=uT (ZQ p (k:Int))) p (k:Int) p.2.1 a b y.1 y.2.1 y.2.2.1 y.2.2.2.1 y.2.2.2.2.1 y.2.2.2.2.2.1 y.2.2.2.2.2.2.1 y.2.2.2.2.2.2.2.1 y.2.2.2.2.2.2.2.2.1 y.2.2.2.2.2.2.2.2.2.1 y.2.2.2.2.2.2.2.2.2.2.1 y.2.2.2.2.2.2.2.2.2.2.2.1 y.2.2.2.2.2.2.2.2.2.2.2.2.1 y.2.2.2.2.2.2.2.2.2.2.2.2.2:=by
  intro y a b hy y6;have hw:aG (y.1+1)=y.1+1:=by rw[y6];exact QG (by((try simp only[bT,Qt,aE,Qn,Qp,Qj,QB,sX,sY,sG,sD,Qy,Qw,bf,QA,QC,Qq,Qr]at *);omega)) (by((try simp only[bT,Qt,aE,Qn,Qp,Qj,QB,sX,sY,sG,sD,Qy,Qw,bf,QA,QC,Qq,Qr]at *);omega))
  refine(QOR _ _ _ _ _ _ _ _ _ _ _ _ _ _ _ _ _ _ _ _ ?_).h;simp only[id,List.drop_zero,List.take_length,Nat.zero_add,Int.toNat_natCast];refine⟨⟨⟨by omega,hk⟩,hk⟩,au ?_⟩;rw[Qrn he rfl hy y6,hw,List.take_of_length_le (by simp)]
 have k2:(Ql p (k:Int)).1=2->∀ dn,dn=(if k=0 then(aq QW p.1 (Ql p (k:Int)).2.toNat).1 else sX (aq Qz p.2.1 k))->Dn (λr'=>r'=uT (ZQ p (k:Int))) p (k:Int) dn:=by
  intro g dn hi;refine(QOu _ _ _ _ ?_).h
  conv=>zeta
  simp only[id,List.drop_zero,List.take_length,Nat.zero_add,Int.toNat_natCast];refine⟨⟨⟨pM,by omega⟩,by unfold JX;omega⟩,?_⟩;exact key (ZZ (aq Qz p.2.1 k) (Ql p (k:Int)).2 dn (aq QW p.1 (Ql p (k:Int)).2.toNat).2) _ _ (by rw[MC g,hi]) (MB _ _ _ _)
 refine⟨⟨⟨by omega,hk⟩,hk⟩,?_⟩;refine⟨λg=>?_,λn1=>?_⟩
 ·have g:(Ql p (k:Int)).1=1:=by simpa using g
  have g1:=c1 g;have e:aG ((k:Int)-1)=((k-1:Nat):Int):=by rw[QG (by omega) (by omega)];omega
  rw[e];simp only[Int.toNat_natCast];rw[ts];exact⟨⟨⟨by omega,by omega⟩,by unfold Qs;have:=iL (k-1);omega⟩,⟨⟨by omega,by omega⟩,by omega⟩,key (kO (aq Qz p.2.1 k) (Zg (aq Qx p.2.2.1 (k-1))).2.1.2) _ _ (pi1 g) rfl⟩
 refine⟨λg=>?_,λn2=>?_⟩
 ·have g:(Ql p (k:Int)).1=2:=by simpa using g
  refine⟨λhz=>⟨⟨pM,by omega⟩,k2 g _ ?_⟩,λhz=>k2 g _ ?_⟩
  ·rw[if_pos (by simp at hz;omega)]
  ·rw[if_neg (by simp at hz;omega)]
 refine⟨λg=>?_,λn3=>?_⟩
 ·have g:(Ql p (k:Int)).1=3:=by simpa using g
  have g1:=c3 g;rw[ts];refine⟨⟨⟨by omega,by omega⟩,?_⟩,⟨⟨by omega,by omega⟩,by omega⟩,key (kP (aq Qz p.2.1 k) []) _ _ (pi3 g) rfl⟩;unfold Zp;simp only[YK,QL];have:=iL (k);((try simp only[bT,Qt,aE,Qn,Qp,Qj,QB,sX,sY,sG,sD,Qy,Qw,bf,QA,QC,Qq,Qr]at *);omega)
 refine⟨λg=>?_,λn4=>?_⟩
 ·have g:(Ql p (k:Int)).1=4:=by simpa using g
  have g1:=c4 g;rw[ts];exact⟨⟨⟨by omega,by omega⟩,by unfold Qs;have:=gj (k);omega⟩,⟨⟨by omega,by omega⟩,by omega⟩,key (kQ (aq Qz p.2.1 k) (Zg (aq Qx p.2.2.2 k)).2.1.2) _ _ (pi4 g) rfl⟩
 refine⟨λg=>?_,λn5=>?_⟩
 ·have g:(Ql p (k:Int)).1=5:=by simpa using g
  exact⟨by unfold pq;omega,key (Yp (aq Qz p.2.1 k) (Ql p (k:Int)).2) _ _ (pi5 g) (QzN _ _)⟩
 refine⟨λg=>?_,λn6=>?_⟩
 ·have g:(Ql p (k:Int)).1=6:=by simpa using g
  refine⟨⟨⟨pM,by omega⟩,by unfold pw;omega⟩,λhz=>?_,λhz=>?_⟩
  ·exact key (gx (ZB (aq Qz p.2.1 k) (Ql p (k:Int)).2 (aq QW p.1 (Ql p (k:Int)).2.toNat).2) []) _ _ (by rw[CD g,if_pos (by simp at hz;omega)]) (CC _ _ _)
  ·exact key (ZB (aq Qz p.2.1 k) (Ql p (k:Int)).2 (aq QW p.1 (Ql p (k:Int)).2.toNat).2) _ _ (by rw[CD g,if_neg (by simp at hz;omega)]) (CC _ _ _)
 refine⟨λg=>?_,λn7=>?_⟩
 ·have g:(Ql p (k:Int)).1=7:=by simpa using g
  have g1:=c7 g;have e:aG ((k:Int)-1)=((k-1:Nat):Int):=by rw[QG (by omega) (by omega)];omega
  rw[e];simp only[Int.toNat_natCast];rw[ts];refine⟨⟨⟨by omega,by omega⟩,?_⟩,⟨⟨by omega,by omega⟩,by omega⟩,key (gx (aq Qz p.2.1 k) []) _ _ (pi7 g) rfl⟩;unfold Zp;simp only[YK,QL];have:=gj (k-1);((try simp only[bT,Qt,aE,Qn,Qp,Qj,QB,sX,sY,sG,sD,Qy,Qw,bf,QA,QC,Qq,Qr]at *);omega)
 ·simp at n1 n2 n3 n4 n5 n6 n7;exact key (aq Qz p.2.1 k) _ _ (pi8 (by omega)) rfl
theorem QRL:Qf Tryz.prog Nr:=Qi λx h=>QT5 x.1 x.2.1 h
def Nt(t:(List Int)):aB:=fQ (bc [TI] t)
def Nu:aI:=Qg 151 [(.c (.sl [TI]))] λx=>(none,Nt (n0 x.1))
def QKQ:aF:=⟨[],false⟩
def QT9:af :=
 (ag [(.ae [ab 2 (.k (.n [TI]))]),(.ae [ab 3 0,ab 4 0,a9 5 4,aC 6 (.mm false 5 (ar 2000)),aC 7 (.fx 3 none (some 6) [TI]),ab 2 7]),.ret])
def QSb:List (bm × Md):=[(.t 2,.one .d)]
theorem QSW(bB:List Int):aK Tryz.prog 151 [(.c (.sl [TI]) bB)] (Nt (n0 bB)):=by
 refine bw QKQ QT9 QSb 0 0 8 Nu kn (λK =>
 (((0:Int)<=0/\(0:Int)<=(if 2000<(bB.length:Int) then(2000:Int) else(bB.length:Int))/\(if 2000<(bB.length:Int) then(2000:Int) else(bB.length:Int))<=(bB.length:Int))/\K (Nt (List.take (Int.toNat (if 2000<(bB.length:Int) then(2000:Int) else(bB.length:Int))-Int.toNat 0) (List.drop (Int.toNat 0) bB))))) (λhb=>?_)
 refine⟨⟨by omega,by split <;> omega,by split <;> omega⟩,au ?_⟩;simp only[show Int.toNat 0=0 from rfl,Nat.sub_zero,List.drop_zero];unfold n0
 split
 ·rfl
 ·rw[Int.toNat_natCast,List.take_length,List.take_of_length_le (by omega)]
theorem QJc:Qf Tryz.prog Nu:=Qi λx _=>QSW x.1
def Dp(t:Qk):aB:=⟨(.a [(.r QF 0 0 ((t.1).length)),(.r Qe 1 0 ((t.2.1).length)),(.r Qh 2 0 ((t.2.2.1).length)),(.r Qh 3 0 ((t.2.2.2).length))]),[(.sl 154 QF (.dp 0 true []) t.1),(.sl 39 Qe (.dp 0 true []) t.2.1),(.sl 161 Qh (.dp 0 true []) t.2.2.1),(.sl 161 Qh (.dp 0 true []) t.2.2.2)],[],false,[]⟩
def Nv:aI:=Qg 54 [(.a QM),(.c (.sl [TI]))] λx=>(some (sB x.1 x.2.1),Dp (ZK x.1 x.2.1))
def Nw:aF:=⟨[C8,Nu,Nq],true⟩
def QwG:af :=
 (ag [(.ae [aw 13 .lss 12 11]),(.cond 13 .skip (.exit 0)),(.block 1 (ag [(.ae [aZ 14 10 12 [TI],an 15 14 1,ab 6 15]),(.ae [a7 16 2 4,ab 17 6,aD 18 50 [16,17],aT 2 18 4])])),(.ae [aw 19 .add 12 (ar 1),ab 12 19])])
def Qtx:List (Nat × Md):=[(2,.b [.f,.f,.f,.f]),(4,.b [.f,.f,.f,.f]),(10,.one .d),(11,.one .d),(12,.one .d)]
def QDm:af :=
 (ag [(.ae [a7 20 2 4,aT 4 20 4]),.ret])
def QJo:af :=
 (ag [(.ae [aC 2 (.box 56 0 4),aC 4 (.new 56 (bG QM))]),(.ae [a7 7 2 4,aD 8 147 [7],aT 2 8 4]),(ag [(.ae [ab 9 1,aD 10 151 [9],a9 11 10,ab 12 (ar 0)]),(.block 0 (.loop Qtx QwG))]),QDm])
def QzO:List (bm × Md):=[(.l 4 4 true,.b [.p 154,.p 39,.p 161,.p 161])]
def Qs2:Qb:=TQ 0 0 QzO K
def QL5:Qb:=aY (aN Nw 0 QDm (Qs2 K)) (Qs2 K)
def QK7:Qb:=a6 0 (QL5 K)
def Dq(bB:List Int)(x:Int)(p0:List Qo)(p1:List Qc)(p2:List Qd)(p3:List Qd):Prop:=Loop Nw 0 Qtx QwG (QK7 K) ⟨[(2,(.p 4 0 0)),(4,(.p 5 0 0)),(10,(bc [TI] (n0 bB))),(11,(aL ((n0 bB).length:Int))),(12,(aL x))],[(0,(.sl 154 QF (.dp 0 true []) p0)),(1,(.sl 39 Qe (.dp 0 true []) p1)),(2,(.sl 161 Qh (.dp 0 true []) p2)),(3,(.sl 161 Qh (.dp 0 true []) p3)),(4,(.box [(.r QF 0 0 p0.length),(.r Qe 1 0 p1.length),(.r Qh 2 0 p2.length),(.r Qh 3 0 p3.length)])),(5,(.box [(.n QF),(.n Qe),(.n Qh),(.n Qh)]))],6⟩
theorem QvM(bB:List Int)(x:Int)(p0:List Qo)(p1:List Qc)(p2:List Qd)(p3:List Qd) (h :
 let z2:=n0 bB
 let z1:=ZQ ((List.take p0.length (List.drop 0 p0)),(List.take p1.length (List.drop 0 p1)),(List.take p2.length (List.drop 0 p2)),(List.take p3.length (List.drop 0 p3))) (aq (0:Int) z2 (Int.toNat x))
 (aJ (decide (x<(z2.length:Int))) ((0<=x/\Int.toNat x<z2.length)/\((px ((List.take p0.length (List.drop 0 p0)),(List.take p1.length (List.drop 0 p1)),(List.take p2.length (List.drop 0 p2)),(List.take p3.length (List.drop 0 p3))) (aq (0:Int) z2 (Int.toNat x)))/\(Dq K bB (aG (x+1)) (List.take ((z1.1).length) (z1.1)) (List.take ((z1.2.1).length) (z1.2.1)) (List.take ((z1.2.2.1).length) (z1.2.2.1)) (List.take ((z1.2.2.2).length) (z1.2.2.2))))) (K (Dp ((List.take p0.length p0),(List.take p1.length p1),(List.take p2.length p2),(List.take p3.length p3)))))):Dq K bB x p0 p1 p2 p3 :=
 Loop.of h
theorem QFZ(p:Qk)(bB:List Int)(hp:sB p bB):aK Tryz.prog 54 [(.a (aR.cells QM p)),(.c (.sl [TI]) bB)] (Dp (ZK p bB)):=by
 refine bw Nw QJo QzO 0 0 21 Nv (kc Qvd (kc QJc (kc QGL kn))) (λK =>
 ((Qs (α:=Qk) p)/\(Dq K bB 0 (List.take (((id (α:=Qk) p).1).length) ((id (α:=Qk) p).1)) (List.take (((id (α:=Qk) p).2.1).length) ((id (α:=Qk) p).2.1)) (List.take (((id (α:=Qk) p).2.2.1).length) ((id (α:=Qk) p).2.2.1)) (List.take (((id (α:=Qk) p).2.2.2).length) ((id (α:=Qk) p).2.2.2))))) (λhb=>?_)
 have il:Sz.sz p<=536870912:=hp;simp only[id,List.drop_zero,List.take_length];refine⟨by unfold Qs;omega,?_⟩;have mn:(n0 bB).length<=2000:=by unfold n0;simp;omega
 refine Za (n0 bB) (λr x=>∀ q:Qk,Sz.sz q<=536870912+100*x->rH r q=(ZK p bB)->Dq (λr'=>r'=Dp (ZK p bB)) bB (x:Int) q.1 q.2.1 q.2.2.1 q.2.2.2) ?_ ?_ p (by omega) rfl
 ·intro q hq he;refine QvM _ _ _ _ _ _ _ ?_
  conv=>zeta
  simp only[List.drop_zero,List.take_length];refine⟨λh=>by simp at h,λ_=>au ?_⟩;exact he
 ·intro k x r hk aU hg ih q hq he;have zj:=My q x;refine QvM _ _ _ _ _ _ _ ?_
  conv=>zeta
  simp only[List.drop_zero,List.take_length];refine⟨λ_=>?_,λh=>by simp at h;omega⟩;rw[Int.toNat_natCast,hg,dM (by omega)];exact⟨⟨by omega,aU⟩,by unfold px;show Sz.sz q<=_;omega,ih (ZQ q x) (by omega) he⟩
theorem QYL:Qf Tryz.prog Nv:=Qi λx h=>QFZ x.1 x.2.1 h
def Dr(t:Qk):aB:=fQ (.a (aR.cells QM t))
def Nx:aI:=Qg 53 [(.a QM),(.c (.sl [TI]))] λx=>(some (sB x.1 x.2.1),Dr (ZK x.1 x.2.1))
def Ny:aF:=⟨[Da,Nr],false⟩
def QwR:af :=
 (ag [(ag [(.ae [ab 9 6,ab 10 1,a9 11 10,aw 12 .lss 9 11,ab 13 12,.bt 13 true [ab 14 6,aw 15 .lss 14 (ar 2000)] 16 15]),(.cond 16 .skip (.exit 0))]),(.block 1 (.draw [a7 19 5 4,ab 20 1,ab 21 6,aZ 22 20 21 [TI],an 23 22 1,aD 24 49 [19,23],aT 5 24 4] [])),(.ae [ab 17 6,aw 18 .add 17 (ar 1),ab 6 18])])
def QEw:List (Nat × Md):=[(1,.one .d),(4,.b (dH 4)),(5,.b (dH 4)),(6,.one .d)]
def QDL:af :=
 (ag [(.ae [a7 25 5 4,aT 4 25 4]),.ret])
def QH4:af :=
 (ag [(.ae [aC 2 (.box 56 0 4),aC 4 (.new 56 (bG QM))]),(.ae [a7 7 2 4,aD 8 143 [7],aC 5 (.new 56 (bG QM)),aT 5 8 4]),(ag [(.ae [ab 6 (ar 0)]),(.block 0 (.loop QEw QwR))]),QDL])
def Qv1:List (bm × Md):=[(.l 4 4 true,.b (dH 4))]
def QsS:Qb:=TQ 0 0 Qv1 K
def QVY:Qb:=aY (aN Ny 0 QDL (QsS K)) (QsS K)
def QNd:Qb:=a6 0 (QVY K)
def Ds(bB:List Int)(i:Int)(x0:List Qo)(x1:List Qc)(x2:List Qd)(x3:List Qd):Prop:=Loop Ny 0 QEw QwR (QNd K) ⟨[(1,(bc [TI] bB)),(4,(.p 0 0 0)),(5,(.p 1 0 0)),(6,(aL i))],[(0,(.box (aR.cells QM ([],[],[],[])))),(1,(.box (aR.cells QM (x0,x1,x2,x3))))],2⟩
theorem QAc(bB:List Int)(i:Int)(x0:List Qo)(x1:List Qc)(x2:List Qd)(x3:List Qd) (h :
 (aJ ((decide (i<(bB.length:Int)))&&(decide (i<2000))) (((0<=i/\Int.toNat i<bB.length)/\(px (x0,x1,x2,x3) (aq (0:Int) bB (Int.toNat i))))/\(Ds K bB (aG (i+1)) ((ZQ (x0,x1,x2,x3) (aq (0:Int) bB (Int.toNat i))).1) (List.take (((ZQ (x0,x1,x2,x3) (aq (0:Int) bB (Int.toNat i))).2.1).length) (List.drop 0 ((ZQ (x0,x1,x2,x3) (aq (0:Int) bB (Int.toNat i))).2.1))) (List.take (((ZQ (x0,x1,x2,x3) (aq (0:Int) bB (Int.toNat i))).2.2.1).length) (List.drop 0 ((ZQ (x0,x1,x2,x3) (aq (0:Int) bB (Int.toNat i))).2.2.1))) ((ZQ (x0,x1,x2,x3) (aq (0:Int) bB (Int.toNat i))).2.2.2))) (K (Dr (x0,x1,x2,x3))))):Ds K bB i x0 x1 x2 x3 :=
 Loop.of h
theorem QNC(p:Qk)(bB:List Int)(hp:sB p bB):aK Tryz.prog 53 [(.a (aR.cells QM p)),(.c (.sl [TI]) bB)] (Dr (ZK p bB)):=by
 refine bw Ny QH4 Qv1 0 0 26 Nx (kc Qzp (kc QRL kn)) (λK =>
 ((Qs (α:=Qk) p)/\(Ds K bB 0 ((id (α:=Qk) p).1) (List.take (((id (α:=Qk) p).2.1).length) (List.drop 0 ((id (α:=Qk) p).2.1))) (List.take (((id (α:=Qk) p).2.2.1).length) (List.drop 0 ((id (α:=Qk) p).2.2.1))) (List.take (((id (α:=Qk) p).2.2.2).length) (List.drop 0 ((id (α:=Qk) p).2.2.2)))))) (λhb=>?_)
 have il:Sz.sz p<=536870912:=hp;simp only[id,List.drop_zero,List.take_length];refine⟨by unfold Qs;omega,?_⟩;have mn:(bB.take 2000).length<=2000:=by simp;omega
 refine Za (bB.take 2000) (λr x=>∀ q:Qk,Sz.sz q<=536870912+100*x->rH r q=(ZK p bB)->Ds (λr'=>r'=Dr (ZK p bB)) bB (x:Int) q.1 q.2.1 q.2.2.1 q.2.2.2) ?_ ?_ p (by omega) rfl
 ·intro q hq he;refine QAc _ _ _ _ _ _ _ ⟨λh=>by simp at h;omega,λ_=>au ?_⟩;exact he
 ·intro k x r hk aU hg ih q hq he;have zj:=My q x;have i7:k<2000/\k<bB.length:=by simp at aU;omega
  have g7:aq 0 bB k=x:=by rw[<- QXt i7.1];exact hg 0
  refine QAc _ _ _ _ _ _ _ ⟨λ_=>?_,λh=>by simp at h;omega⟩;rw[Int.toNat_natCast,g7,dM (by omega)]
  try simp only[xx]
  exact⟨⟨⟨by omega,i7.2⟩,by unfold px;show Sz.sz q<=_;omega⟩,ih (ZQ q x) (by omega) he⟩
theorem QOG:Qf Tryz.prog Nx:=Qi λx h=>QNC x.1 x.2.1 h
end
end Go.Proofs.YtdplaepmjogjjaaGreat.Am

namespace Go.Proofs.YtdplaepmjogjjaaGreat.Am
open Go Go.RowKit Go.Proofs.YtdplaepmjogjjaaGreat
set_option linter.all false
noncomputable section
variable (K:aB->Prop)
def uU(t:Int × (List Int)):aB:=⟨(aL t.1),[],[],true,[(.sl 0 [TI] (.dp 0 false []) t.2)]⟩
def pN:aI:=Qg 26 [(.d [TI]),(.c TI)] λx=>(none,uU (QP (α:=List Int) x.1 x.2.1))
def Nz:aF:=⟨[],true⟩
def Qz8:af :=
 (ag [(ag [(.ae [ab 6 5,ab 7 0,a9 8 7,aw 9 .lss 6 8]),(.cond 9 .skip (.exit 0))]),(.block 1 (ag [(.ae [ab 12 0,ab 13 5,ab 14 1,aZ 15 12 13 [TI],aT 15 14 1]),(.ae [ab 16 1,aw 17 .add 16 (ar 1),ab 1 17])])),(.ae [ab 10 5,aw 11 .add 10 (ar 1),ab 5 11])])
def QyI:List (Nat × Md):=[(0,.one .f),(1,.one .d),(5,.one .d)]
def QzC:af :=
 (ag [(.ae [ab 18 1,ab 4 18]),.ret])
def QOi:af :=
 (ag [(.ae [ab 4 (ar 0)]),(ag [(.ae [ab 5 (ar 0)]),(.block 0 (.loop QyI Qz8))]),QzC])
def QsI:List (bm × Md):=[(.t 4,.one .d)]
def QA1:Qb:=TQ 0 1 QsI K
def QVk:Qb:=aY (aN Nz 1 QzC (QA1 K)) (QA1 K)
def QO5:Qb:=a6 0 (QVk K)
def Dt(a:List Int)(k1:Int)(i:Int)(a1:List Int):Prop:=Loop Nz 1 QyI Qz8 (QO5 K) ⟨[(0,(.r [TI] 0 0 a.length)),(1,(aL k1)),(5,(aL i))],[(0,(.sl 0 [TI] (.dp 0 false []) a1))],1⟩
theorem QBE(a:List Int)(k1:Int)(i:Int)(a1:List Int) (h :
 (aJ (decide (i<((a.length:Nat):Int))) (((0<=i/\Int.toNat i<a.length)/\((0+(Int.toNat i))<a1.length))/\(Dt K a (aG (k1+1)) (aG (i+1)) ((a1).set (0+(Int.toNat i)) k1))) (K (uU (k1,a1))))):Dt K a k1 i a1 :=
 Loop.of h
theorem QMk(a:List Int)(k:Int):aK Tryz.prog 26 [(.ow 0 [TI] dw a),(.c TI k)] (uU (QP (α:=List Int) a k)):=by
 refine bw Nz QOi QsI 0 1 19 pN kn (λK =>
 (Dt K a k 0 a)) (λhb=>?_)
 have fg:a.length<=9223372036854775807:=hb.1.1;refine nO (A:=λkk ii ll=>Dt (λr'=>r'=uU (QP (α:=List Int) a k)) a kk ii ll) (Q:=λz=>uU z=uU (QP (α:=List Int) a k)) a k ?_ ?_ rfl
 ·intro kk pre post x hl hA;have aU:pre.length<a.length:=by omega
  have hw:aG (((pre.length:Nat):Int)+1)=((pre.length+1:Nat):Int):=by rw[QG (by omega) (by omega)];omega
  refine QBE _ _ _ _ _ ?_;refine⟨λ_=>?_,λh=>absurd h (by simp;omega)⟩;simp only[Int.toNat_natCast,Nat.zero_add,J6,nM,Ye,nK,hw,iK,aU,Ym,and_true,true_and,Int.natCast_nonneg];exact hA
 ·intro kk l hl hq;refine QBE _ _ _ _ _ ?_;exact⟨λh=>absurd h (by simp),λ_=>hq⟩
theorem uV:Qf Tryz.prog pN:=Qi λx _=>QMk x.1 x.2.1
def sJ(t:Int):aB:=b7 (aL t)
def sK:aI:=Qg 27 [(.c (.sl [TI])),(.c TI)] λx=>(some (Q4 (α:=List Int) x.1 x.2.1),sJ (aS (α:=List Int) x.1 x.2.1))
def NA:aF:=⟨[],false⟩
def QDP:af :=
 (ag [(ag [(.ae [ab 6 5,ab 7 0,a9 8 7,aw 9 .lss 6 8]),(.cond 9 .skip (.exit 0))]),(.block 1 (ag [(ag [(.ae [ab 12 0,ab 13 5,aZ 14 12 13 [TI],an 15 14 1,ab 16 1,aw 17 .neq 15 16]),(.cond 17 (ag [(.ae [ab 4 (ar (-1))]),.ret]) .skip)]),(.ae [ab 18 1,aw 19 .add 18 (ar 1),ab 1 19])])),(.ae [ab 10 5,aw 11 .add 10 (ar 1),ab 5 11])])
def QAD:List (Nat × Md):=eW [0,1,5]
def QxB:af :=
 (ag [(.ae [ab 20 1,ab 4 20]),.ret])
def QPq:af :=
 (ag [(.ae [ab 4 (ar 0)]),(ag [(.ae [ab 5 (ar 0)]),(.block 0 (.loop QAD QDP))]),QxB])
def QqL:List (bm × Md):=[(.t 4,.one .d)]
def QEU:Qb:=TQ 0 0 QqL K
def QUB:Qb:=aY (aN NA 0 QxB (QEU K)) (QEU K)
def QRY:Qb:=a6 0 (QUB K)
def Du(a:List Int)(k1:Int)(i:Int):Prop:=Loop NA 0 QAD QDP (QRY K) ⟨[(0,(bc [TI] a)),(1,(aL k1)),(5,(aL i))],[],0⟩
theorem QDb(a:List Int)(k1:Int)(i:Int) (h :
 (aJ (decide (i<(a.length:Int))) ((0<=i/\Int.toNat i<a.length)/\(aJ ((aq (0:Int) a (Int.toNat i)) != k1) (K (sJ (-1:Int))) (Du K a (aG (k1+1)) (aG (i+1))))) (K (sJ k1)))):Du K a k1 i :=
 Loop.of h
theorem QPb(a:List Int)(k:Int)(hp:Q4 (α:=List Int) a k):aK Tryz.prog 27 [(.c (.sl [TI]) a),(.c TI k)] (sJ (aS (α:=List Int) a k)):=by
 refine bw NA QPq QqL 0 0 21 sK kn (λK =>
 (Du K a k 0)) (λhb=>?_)
 have fg:a.length<=9223372036854775807:=hb.1.1;refine J8 (A:=λkk ii=>Du (λr'=>r'=sJ (aS (α:=List Int) a k)) a kk ii) (Q:=λz=>sJ z=sJ (aS (α:=List Int) a k)) a k hp ?_ ?_ rfl
 ·intro kk pre post x ha fR cn dk;have aU:pre.length<a.length:=by rw[ha];simp
  have hg:∀ d,aq d a pre.length=x:=λd=>by rw[ha];exact Ye d pre post x
  have hw:aG (((pre.length:Nat):Int)+1)=((pre.length+1:Nat):Int):=by rw[QG (by omega) (by omega)];omega
  refine QDb _ _ _ _ ?_;refine⟨λ_=>?_,λh=>absurd h (by simp;omega)⟩;simp only[Int.toNat_natCast,hg,hw,aU,Ym,and_true,true_and,Int.natCast_nonneg];simp only[o6,o7,o8,Prod.ext_iff]at cn dk;refine⟨λh=>cn (λe=>YV h (e).symm),λh0=>?_⟩;have e0:=(Y1 h0).symm;exact dk e0
 ·intro kk hq;refine QDb _ _ _ _ ?_;exact⟨λh=>absurd h (by simp),λ_=>hq⟩
theorem y7:Qf Tryz.prog sK:=Qi λx h=>QPb x.1 x.2.1 h
def uW(t:Int × (List (List Int))):aB:=⟨(aL t.1),[],[],true,[(.sl 0 [(.sl [TI])] (.dp 0 false []) t.2)]⟩
def Dv:aI:=Qg 82 [(.d [(.sl [TI])]),(.c TI)] λx=>(none,uW (QP (α:=List (List Int)) x.1 x.2.1))
def NB:aF:=⟨[pN],true⟩
def QBF:af :=
 (ag [(ag [(.ae [ab 6 5,ab 7 0,a9 8 7,aw 9 .lss 6 8]),(.cond 9 .skip (.exit 0))]),(.block 1 (.ae [ab 12 0,ab 13 5,aZ 14 12 13 [(.sl [TI])],ak 15 14 0,an 16 15 1,ab 17 1,aD 18 26 [16,17],ab 1 18])),(.ae [ab 10 5,aw 11 .add 10 (ar 1),ab 5 11])])
def QtE:List (Nat × Md):=[(0,.one .f),(1,.one .d),(5,.one .d)]
def QER:af :=
 (ag [(.ae [ab 19 1,ab 4 19]),.ret])
def QLV:af :=
 (ag [(.ae [ab 4 (ar 0)]),(ag [(.ae [ab 5 (ar 0)]),(.block 0 (.loop QtE QBF))]),QER])
def QEI:List (bm × Md):=[(.t 4,.one .d)]
def QtA:Qb:=TQ 0 1 QEI K
def QHC:Qb:=aY (aN NB 1 QER (QtA K)) (QtA K)
def QG0:Qb:=a6 0 (QHC K)
def Dw(a:List (List Int))(k1:Int)(i:Int)(a1:List (List Int)):Prop:=Loop NB 1 QtE QBF (QG0 K) ⟨[(0,(.r [(.sl [TI])] 0 0 a.length)),(1,(aL k1)),(5,(aL i))],[(0,(.sl 0 [(.sl [TI])] (.dp 0 false []) a1))],1⟩
theorem Qxl(a:List (List Int))(k1:Int)(i:Int)(a1:List (List Int)) (h :
 (aJ (decide (i<((a.length:Nat):Int))) (((0<=i/\Int.toNat i<a.length)/\(((0+(Int.toNat i))<a1.length)/\((0+(Int.toNat i))<a1.length)))/\(Dw K a ((gg ([]:List Int) (0+(Int.toNat i)) (λe_=>e_) (λe_ y_=>y_) (QP (α:=List Int)) (k1,a1)).1) (aG (i+1)) ((gg ([]:List Int) (0+(Int.toNat i)) (λe_=>e_) (λe_ y_=>y_) (QP (α:=List Int)) (k1,a1)).2))) (K (uW (k1,a1))))):Dw K a k1 i a1 :=
 Loop.of h
theorem QU3(a:List (List Int))(k:Int):aK Tryz.prog 82 [(.ow 0 [(.sl [TI])] dw a),(.c TI k)] (uW (QP (α:=List (List Int)) a k)):=by
 refine bw NB QLV QEI 0 1 20 Dv (kc uV kn) (λK =>
 (Dw K a k 0 a)) (λhb=>?_)
 have fg:a.length<=9223372036854775807:=hb.1.1;refine nO (A:=λkk ii ll=>Dw (λr'=>r'=uW (QP (α:=List (List Int)) a k)) a kk ii ll) (Q:=λz=>uW z=uW (QP (α:=List (List Int)) a k)) a k ?_ ?_ rfl
 ·intro kk pre post x hl hA;have aU:pre.length<a.length:=by omega
  have hw:aG (((pre.length:Nat):Int)+1)=((pre.length+1:Nat):Int):=by rw[QG (by omega) (by omega)];omega
  refine Qxl _ _ _ _ _ ?_;refine⟨λ_=>?_,λh=>absurd h (by simp;omega)⟩;simp only[Int.toNat_natCast,Nat.zero_add,J6,nM,Ye,nK,hw,iK,aU,Ym,and_true,true_and,Int.natCast_nonneg];exact hA
 ·intro kk l hl hq;refine Qxl _ _ _ _ _ ?_;exact⟨λh=>absurd h (by simp),λ_=>hq⟩
theorem QAJ:Qf Tryz.prog Dv:=Qi λx _=>QU3 x.1 x.2.1
def sL(t:Int):aB:=b7 (aL t)
def Dx:aI:=Qg 86 [(.c (.sl [(.sl [TI])])),(.c TI)] λx=>(some (Q4 (α:=List (List Int)) x.1 x.2.1),sL (aS (α:=List (List Int)) x.1 x.2.1))
def NC:aF:=⟨[sK],false⟩
def Qu8:af :=
 (ag [(ag [(.ae [ab 6 5,ab 7 0,a9 8 7,aw 9 .lss 6 8]),(.cond 9 .skip (.exit 0))]),(.block 1 (ag [(.ae [ab 12 0,ab 13 5,aZ 14 12 13 [(.sl [TI])],ak 15 14 0,an 16 15 1,ab 17 1,aD 18 27 [16,17],ab 1 18]),(.ae [ab 19 1,aw 20 .lss 19 (ar 0)]),(.cond 20 (ag [(.ae [ab 4 (ar (-1))]),.ret]) .skip)])),(.ae [ab 10 5,aw 11 .add 10 (ar 1),ab 5 11])])
def QDt:List (Nat × Md):=eW [0,1,5]
def QAm:af :=
 (ag [(.ae [ab 21 1,ab 4 21]),.ret])
def QL8:af :=
 (ag [(.ae [ab 4 (ar 0)]),(ag [(.ae [ab 5 (ar 0)]),(.block 0 (.loop QDt Qu8))]),QAm])
def QCF:List (bm × Md):=[(.t 4,.one .d)]
def Qtz:Qb:=TQ 0 0 QCF K
def QGk:Qb:=aY (aN NC 0 QAm (Qtz K)) (Qtz K)
def QJQ:Qb:=a6 0 (QGk K)
def Dy(a:List (List Int))(k1:Int)(i:Int):Prop:=Loop NC 0 QDt Qu8 (QJQ K) ⟨[(0,(bc [(.sl [TI])] a)),(1,(aL k1)),(5,(aL i))],[],0⟩
theorem QCY(a:List (List Int))(k1:Int)(i:Int) (h :
 (aJ (decide (i<(a.length:Int))) (((0<=i/\Int.toNat i<a.length)/\(Q4 (α:=List Int) (aq ([]:List Int) a (Int.toNat i)) k1))/\(aJ (decide ((aS (α:=List Int) (aq ([]:List Int) a (Int.toNat i)) k1)<0)) (K (sL (-1:Int))) (Dy K a (aS (α:=List Int) (aq ([]:List Int) a (Int.toNat i)) k1) (aG (i+1))))) (K (sL k1)))):Dy K a k1 i :=
 Loop.of h
theorem QQa(a:List (List Int))(k:Int)(hp:Q4 (α:=List (List Int)) a k):aK Tryz.prog 86 [(.c (.sl [(.sl [TI])]) a),(.c TI k)] (sL (aS (α:=List (List Int)) a k)):=by
 refine bw NC QL8 QCF 0 0 22 Dx (kc y7 kn) (λK =>
 (Dy K a k 0)) (λhb=>?_)
 have fg:a.length<=9223372036854775807:=hb.1.1;refine J8 (A:=λkk ii=>Dy (λr'=>r'=sL (aS (α:=List (List Int)) a k)) a kk ii) (Q:=λz=>sL z=sL (aS (α:=List (List Int)) a k)) a k hp ?_ ?_ rfl
 ·intro kk pre post x ha fR cn dk;have aU:pre.length<a.length:=by rw[ha];simp
  have hg:∀ d,aq d a pre.length=x:=λd=>by rw[ha];exact Ye d pre post x
  have hw:aG (((pre.length:Nat):Int)+1)=((pre.length+1:Nat):Int):=by rw[QG (by omega) (by omega)];omega
  refine QCY _ _ _ _ ?_;refine⟨λ_=>?_,λh=>absurd h (by simp;omega)⟩;simp only[Int.toNat_natCast,hg,hw,aU,Ym,and_true,true_and,Int.natCast_nonneg];refine⟨fR,λh=>cn (λe=>Z3 fR (of_decide_eq_true h) (e)),λh0=>?_⟩;obtain⟨e0,h0⟩:=Yf (of_decide_eq_false h0);rw[h0];exact dk e0
 ·intro kk hq;refine QCY _ _ _ _ ?_;exact⟨λh=>absurd h (by simp),λ_=>hq⟩
theorem Qva:Qf Tryz.prog Dx:=Qi λx h=>QQa x.1 x.2.1 h
def uX(t:Int × (List bp)):aB:=⟨(aL t.1),[],[],true,[(.sl 0 QQ (.dp 0 false []) t.2)]⟩
def ND:aI:=Qg 79 [(.d QQ),(.c TI)] λx=>(none,uX (QP (α:=List bp) x.1 x.2.1))
def NF:aF:=⟨[],true⟩
def QB8:af :=
 (ag [(ag [(.ae [ab 6 5,ab 7 0,a9 8 7,aw 9 .lss 6 8]),(.cond 9 .skip (.exit 0))]),(.block 1 (ag [(.ae [ab 12 0,ab 13 5,ab 14 1,aZ 15 12 13 QQ,ak 16 15 0,aT 16 14 1]),(.ae [ab 17 1,aw 18 .add 17 (ar 1),ab 1 18]),(.ae [ab 19 0,ab 20 5,ab 21 1,aZ 22 19 20 QQ,ak 23 22 1,aT 23 21 1]),(.ae [ab 24 1,aw 25 .add 24 (ar 1),ab 1 25])])),(.ae [ab 10 5,aw 11 .add 10 (ar 1),ab 5 11])])
def Qww:List (Nat × Md):=[(0,.one .f),(1,.one .d),(5,.one .d)]
def QEy:af :=
 (ag [(.ae [ab 26 1,ab 4 26]),.ret])
def QPr:af :=
 (ag [(.ae [ab 4 (ar 0)]),(ag [(.ae [ab 5 (ar 0)]),(.block 0 (.loop Qww QB8))]),QEy])
def Qye:List (bm × Md):=[(.t 4,.one .d)]
def Qzh:Qb:=TQ 0 1 Qye K
def QIV:Qb:=aY (aN NF 1 QEy (Qzh K)) (Qzh K)
def QYI:Qb:=a6 0 (QIV K)
def Dz(a:List bp)(k1:Int)(i:Int)(a1:List bp):Prop:=Loop NF 1 Qww QB8 (QYI K) ⟨[(0,(.r QQ 0 0 a.length)),(1,(aL k1)),(5,(aL i))],[(0,(.sl 0 QQ (.dp 0 false []) a1))],1⟩
theorem QBV(a:List bp)(k1:Int)(i:Int)(a1:List bp) (h :
 (aJ (decide (i<((a.length:Nat):Int))) (((0<=i/\Int.toNat i<a.length)/\((0+(Int.toNat i))<a1.length))/\(((0<=i/\Int.toNat i<a.length)/\((0+(Int.toNat i))<((gy eG (0+(Int.toNat i)) (λe_ k_=>(k_,e_.2)) (k1,a1)).2).length))/\(Dz K a (aG ((aG (k1+1))+1)) (aG (i+1)) ((gy eG (0+(Int.toNat i)) (λe_ k_=>(e_.1,k_)) (gy eG (0+(Int.toNat i)) (λe_ k_=>(k_,e_.2)) (k1,a1))).2)))) (K (uX (k1,a1))))):Dz K a k1 i a1 :=
 Loop.of h
theorem QHF(a:List bp)(k:Int):aK Tryz.prog 79 [(.ow 0 QQ dw a),(.c TI k)] (uX (QP (α:=List bp) a k)):=by
 refine bw NF QPr Qye 0 1 27 ND kn (λK =>
 (Dz K a k 0 a)) (λhb=>?_)
 have fg:a.length<=9223372036854775807:=hb.1.1;refine nO (A:=λkk ii ll=>Dz (λr'=>r'=uX (QP (α:=List bp) a k)) a kk ii ll) (Q:=λz=>uX z=uX (QP (α:=List bp) a k)) a k ?_ ?_ rfl
 ·intro kk pre post x hl hA;have aU:pre.length<a.length:=by omega
  have hw:aG (((pre.length:Nat):Int)+1)=((pre.length+1:Nat):Int):=by rw[QG (by omega) (by omega)];omega
  refine QBV _ _ _ _ _ ?_;refine⟨λ_=>?_,λh=>absurd h (by simp;omega)⟩;simp only[Int.toNat_natCast,Nat.zero_add,J6,nM,Ye,nK,hw,iK,aU,Ym,and_true,true_and,Int.natCast_nonneg];exact hA
 ·intro kk l hl hq;refine QBV _ _ _ _ _ ?_;exact⟨λh=>absurd h (by simp),λ_=>hq⟩
theorem QOX:Qf Tryz.prog ND:=Qi λx _=>QHF x.1 x.2.1
def pO(t:Int):aB:=b7 (aL t)
def NG:aI:=Qg 83 [(.c (.sl QQ)),(.c TI)] λx=>(some (Q4 (α:=List bp) x.1 x.2.1),pO (aS (α:=List bp) x.1 x.2.1))
def NH:aF:=⟨[],false⟩
def QDR:af :=
 (ag [(ag [(.ae [ab 6 5,ab 7 0,a9 8 7,aw 9 .lss 6 8]),(.cond 9 .skip (.exit 0))]),(.block 1 (ag [(ag [(.ae [ab 12 0,ab 13 5,aZ 14 12 13 QQ,ak 15 14 0,an 16 15 1,ab 17 1,aw 18 .neq 16 17]),(.cond 18 (ag [(.ae [ab 4 (ar (-1))]),.ret]) .skip)]),(.ae [ab 19 1,aw 20 .add 19 (ar 1),ab 1 20]),(ag [(.ae [ab 21 0,ab 22 5,aZ 23 21 22 QQ,ak 24 23 1,an 25 24 1,ab 26 1,aw 27 .neq 25 26]),(.cond 27 (ag [(.ae [ab 4 (ar (-1))]),.ret]) .skip)]),(.ae [ab 28 1,aw 29 .add 28 (ar 1),ab 1 29])])),(.ae [ab 10 5,aw 11 .add 10 (ar 1),ab 5 11])])
def Qzn:List (Nat × Md):=eW [0,1,5]
def Qxr:af :=
 (ag [(.ae [ab 30 1,ab 4 30]),.ret])
def QOy:af :=
 (ag [(.ae [ab 4 (ar 0)]),(ag [(.ae [ab 5 (ar 0)]),(.block 0 (.loop Qzn QDR))]),Qxr])
def QwW:List (bm × Md):=[(.t 4,.one .d)]
def QvY:Qb:=TQ 0 0 QwW K
def QVb:Qb:=aY (aN NH 0 Qxr (QvY K)) (QvY K)
def QFo:Qb:=a6 0 (QVb K)
def DA(a:List bp)(k1:Int)(i:Int):Prop:=Loop NH 0 Qzn QDR (QFo K) ⟨[(0,(bc QQ a)),(1,(aL k1)),(5,(aL i))],[],0⟩
theorem QEp(a:List bp)(k1:Int)(i:Int) (h :
 (aJ (decide (i<(a.length:Int))) ((0<=i/\Int.toNat i<a.length)/\(aJ (((aq eG a (Int.toNat i)).1) != k1) (K (pO (-1:Int))) ((0<=i/\Int.toNat i<a.length)/\(aJ (((aq eG a (Int.toNat i)).2) != (aG (k1+1))) (K (pO (-1:Int))) (DA K a (aG ((aG (k1+1))+1)) (aG (i+1))))))) (K (pO k1)))):DA K a k1 i :=
 Loop.of h
theorem QKb(a:List bp)(k:Int)(hp:Q4 (α:=List bp) a k):aK Tryz.prog 83 [(.c (.sl QQ) a),(.c TI k)] (pO (aS (α:=List bp) a k)):=by
 refine bw NH QOy QwW 0 0 31 NG kn (λK =>
 (DA K a k 0)) (λhb=>?_)
 have fg:a.length<=9223372036854775807:=hb.1.1;refine J8 (A:=λkk ii=>DA (λr'=>r'=pO (aS (α:=List bp) a k)) a kk ii) (Q:=λz=>pO z=pO (aS (α:=List bp) a k)) a k hp ?_ ?_ rfl
 ·intro kk pre post x ha fR cn dk;have aU:pre.length<a.length:=by rw[ha];simp
  have hg:∀ d,aq d a pre.length=x:=λd=>by rw[ha];exact Ye d pre post x
  have hw:aG (((pre.length:Nat):Int)+1)=((pre.length+1:Nat):Int):=by rw[QG (by omega) (by omega)];omega
  refine QEp _ _ _ _ ?_;refine⟨λ_=>?_,λh=>absurd h (by simp;omega)⟩;simp only[Int.toNat_natCast,hg,hw,aU,Ym,and_true,true_and,Int.natCast_nonneg];have gI:=(Ze fR).1;have fN:=(Ze fR).2;simp only[o6,o7,o8,Prod.ext_iff]at cn dk gI fN;refine⟨λh=>cn (λe=>YV h (e.1).symm),λh0=>?_⟩;have e0:=(Y1 h0).symm;refine⟨λh=>cn (λe=>YV h (e.2).symm),λh1=>?_⟩;have e1:=(Y1 h1).symm;exact dk ⟨e0,e1⟩
 ·intro kk hq;refine QEp _ _ _ _ ?_;exact⟨λh=>absurd h (by simp),λ_=>hq⟩
theorem QMS:Qf Tryz.prog NG:=Qi λx h=>QKb x.1 x.2.1 h
def uY(t:Int × (List Qm)):aB:=⟨(aL t.1),[],[],true,[(.sl 0 Qu (.dp 0 false []) t.2)]⟩
def NI:aI:=Qg 182 [(.d Qu),(.c TI)] λx=>(none,uY (QP (α:=List Qm) x.1 x.2.1))
def NJ:aF:=⟨[pN],true⟩
def Qrq:af :=
 (ag [(ag [(.ae [ab 6 5,ab 7 0,a9 8 7,aw 9 .lss 6 8]),(.cond 9 .skip (.exit 0))]),(.block 1 (ag [(.ae [ab 12 0,ab 13 5,ab 14 1,aZ 15 12 13 Qu,ak 16 15 0,aT 16 14 1]),(.ae [ab 17 1,aw 18 .add 17 (ar 1),ab 1 18]),(.ae [ab 19 0,ab 20 5,aZ 21 19 20 Qu,ak 22 21 1,an 23 22 1,ab 24 1,aD 25 26 [23,24],ab 1 25])])),(.ae [ab 10 5,aw 11 .add 10 (ar 1),ab 5 11])])
def QBe:List (Nat × Md):=[(0,.one .f),(1,.one .d),(5,.one .d)]
def QBX:af :=
 (ag [(.ae [ab 26 1,ab 4 26]),.ret])
def QYw:af :=
 (ag [(.ae [ab 4 (ar 0)]),(ag [(.ae [ab 5 (ar 0)]),(.block 0 (.loop QBe Qrq))]),QBX])
def QE4:List (bm × Md):=[(.t 4,.one .d)]
def QBH:Qb:=TQ 0 1 QE4 K
def QKr:Qb:=aY (aN NJ 1 QBX (QBH K)) (QBH K)
def QQc:Qb:=a6 0 (QKr K)
def DB(a:List Qm)(k1:Int)(i:Int)(a1:List Qm):Prop:=Loop NJ 1 QBe Qrq (QQc K) ⟨[(0,(.r Qu 0 0 a.length)),(1,(aL k1)),(5,(aL i))],[(0,(.sl 0 Qu (.dp 0 false []) a1))],1⟩
theorem Qsd(a:List Qm)(k1:Int)(i:Int)(a1:List Qm) (h :
 (aJ (decide (i<((a.length:Nat):Int))) (((0<=i/\Int.toNat i<a.length)/\((0+(Int.toNat i))<a1.length))/\(((0<=i/\Int.toNat i<a.length)/\(((0+(Int.toNat i))<((gy ((0,[]):Qm) (0+(Int.toNat i)) (λe_ k_=>(k_,e_.2)) (k1,a1)).2).length)/\((0+(Int.toNat i))<((gy ((0,[]):Qm) (0+(Int.toNat i)) (λe_ k_=>(k_,e_.2)) (k1,a1)).2).length)))/\(DB K a ((gg ((0,[]):Qm) (0+(Int.toNat i)) (λe_=>e_.2) (λe_ y_=>(e_.1,y_)) (QP (α:=List Int)) (gy ((0,[]):Qm) (0+(Int.toNat i)) (λe_ k_=>(k_,e_.2)) (k1,a1))).1) (aG (i+1)) ((gg ((0,[]):Qm) (0+(Int.toNat i)) (λe_=>e_.2) (λe_ y_=>(e_.1,y_)) (QP (α:=List Int)) (gy ((0,[]):Qm) (0+(Int.toNat i)) (λe_ k_=>(k_,e_.2)) (k1,a1))).2)))) (K (uY (k1,a1))))):DB K a k1 i a1 :=
 Loop.of h
theorem QRd(a:List Qm)(k:Int):aK Tryz.prog 182 [(.ow 0 Qu dw a),(.c TI k)] (uY (QP (α:=List Qm) a k)):=by
 refine bw NJ QYw QE4 0 1 27 NI (kc uV kn) (λK =>
 (DB K a k 0 a)) (λhb=>?_)
 have fg:a.length<=9223372036854775807:=hb.1.1;refine nO (A:=λkk ii ll=>DB (λr'=>r'=uY (QP (α:=List Qm) a k)) a kk ii ll) (Q:=λz=>uY z=uY (QP (α:=List Qm) a k)) a k ?_ ?_ rfl
 ·intro kk pre post x hl hA;have aU:pre.length<a.length:=by omega
  have hw:aG (((pre.length:Nat):Int)+1)=((pre.length+1:Nat):Int):=by rw[QG (by omega) (by omega)];omega
  refine Qsd _ _ _ _ _ ?_;refine⟨λ_=>?_,λh=>absurd h (by simp;omega)⟩;simp only[Int.toNat_natCast,Nat.zero_add,J6,nM,Ye,nK,hw,iK,aU,Ym,and_true,true_and,Int.natCast_nonneg];exact hA
 ·intro kk l hl hq;refine Qsd _ _ _ _ _ ?_;exact⟨λh=>absurd h (by simp),λ_=>hq⟩
theorem QLi:Qf Tryz.prog NI:=Qi λx _=>QRd x.1 x.2.1
def pP(t:Int):aB:=b7 (aL t)
def NK:aI:=Qg 214 [(.c (.sl Qu)),(.c TI)] λx=>(some (Q4 (α:=List Qm) x.1 x.2.1),pP (aS (α:=List Qm) x.1 x.2.1))
def NL:aF:=⟨[sK],false⟩
def Quu:af :=
 (ag [(ag [(.ae [ab 6 5,ab 7 0,a9 8 7,aw 9 .lss 6 8]),(.cond 9 .skip (.exit 0))]),(.block 1 (ag [(ag [(.ae [ab 12 0,ab 13 5,aZ 14 12 13 Qu,ak 15 14 0,an 16 15 1,ab 17 1,aw 18 .neq 16 17]),(.cond 18 (ag [(.ae [ab 4 (ar (-1))]),.ret]) .skip)]),(.ae [ab 19 1,aw 20 .add 19 (ar 1),ab 1 20]),(.ae [ab 21 0,ab 22 5,aZ 23 21 22 Qu,ak 24 23 1,an 25 24 1,ab 26 1,aD 27 27 [25,26],ab 1 27]),(.ae [ab 28 1,aw 29 .lss 28 (ar 0)]),(.cond 29 (ag [(.ae [ab 4 (ar (-1))]),.ret]) .skip)])),(.ae [ab 10 5,aw 11 .add 10 (ar 1),ab 5 11])])
def Qt6:List (Nat × Md):=eW [0,1,5]
def Qq0:af :=
 (ag [(.ae [ab 30 1,ab 4 30]),.ret])
def QW1:af :=
 (ag [(.ae [ab 4 (ar 0)]),(ag [(.ae [ab 5 (ar 0)]),(.block 0 (.loop Qt6 Quu))]),Qq0])
def Qyb:List (bm × Md):=[(.t 4,.one .d)]
def QvB:Qb:=TQ 0 0 Qyb K
def QKe:Qb:=aY (aN NL 0 Qq0 (QvB K)) (QvB K)
def QXy:Qb:=a6 0 (QKe K)
def DC(a:List Qm)(k1:Int)(i:Int):Prop:=Loop NL 0 Qt6 Quu (QXy K) ⟨[(0,(bc Qu a)),(1,(aL k1)),(5,(aL i))],[],0⟩
theorem QBQ(a:List Qm)(k1:Int)(i:Int) (h :
 (aJ (decide (i<(a.length:Int))) ((0<=i/\Int.toNat i<a.length)/\(aJ (((aq ((0,[]):Qm) a (Int.toNat i)).1) != k1) (K (pP (-1:Int))) (((0<=i/\Int.toNat i<a.length)/\(Q4 (α:=List Int) ((aq ((0,[]):Qm) a (Int.toNat i)).2) (aG (k1+1))))/\(aJ (decide ((aS (α:=List Int) ((aq ((0,[]):Qm) a (Int.toNat i)).2) (aG (k1+1)))<0)) (K (pP (-1:Int))) (DC K a (aS (α:=List Int) ((aq ((0,[]):Qm) a (Int.toNat i)).2) (aG (k1+1))) (aG (i+1))))))) (K (pP k1)))):DC K a k1 i :=
 Loop.of h
theorem QTB(a:List Qm)(k:Int)(hp:Q4 (α:=List Qm) a k):aK Tryz.prog 214 [(.c (.sl Qu) a),(.c TI k)] (pP (aS (α:=List Qm) a k)):=by
 refine bw NL QW1 Qyb 0 0 31 NK (kc y7 kn) (λK =>
 (DC K a k 0)) (λhb=>?_)
 have fg:a.length<=9223372036854775807:=hb.1.1;refine J8 (A:=λkk ii=>DC (λr'=>r'=pP (aS (α:=List Qm) a k)) a kk ii) (Q:=λz=>pP z=pP (aS (α:=List Qm) a k)) a k hp ?_ ?_ rfl
 ·intro kk pre post x ha fR cn dk;have aU:pre.length<a.length:=by rw[ha];simp
  have hg:∀ d,aq d a pre.length=x:=λd=>by rw[ha];exact Ye d pre post x
  have hw:aG (((pre.length:Nat):Int)+1)=((pre.length+1:Nat):Int):=by rw[QG (by omega) (by omega)];omega
  refine QBQ _ _ _ _ ?_;refine⟨λ_=>?_,λh=>absurd h (by simp;omega)⟩;simp only[Int.toNat_natCast,hg,hw,aU,Ym,and_true,true_and,Int.natCast_nonneg];have gI:=(Ze fR).1;have fN:=(Ze fR).2;simp only[o6,o7,o8,Prod.ext_iff]at cn dk gI fN;refine⟨λh=>cn (λe=>YV h (e.1).symm),λh0=>?_⟩;have e0:=(Y1 h0).symm;refine⟨fN,λh=>cn (λe=>Z3 fN (of_decide_eq_true h) (e.2)),λh1=>?_⟩;obtain⟨e1,h1⟩:=Yf (of_decide_eq_false h1);rw[h1];exact dk ⟨e0,e1⟩
 ·intro kk hq;refine QBQ _ _ _ _ ?_;exact⟨λh=>absurd h (by simp),λ_=>hq⟩
theorem QSX:Qf Tryz.prog NK:=Qi λx h=>QTB x.1 x.2.1 h
def uZ(t:Int × (List aH)):aB:=⟨(aL t.1),[],[],true,[(.sl 0 aM (.dp 0 false []) t.2)]⟩
def NM:aI:=Qg 80 [(.d aM),(.c TI)] λx=>(none,uZ (QP (α:=List aH) x.1 x.2.1))
def NN:aF:=⟨[pN],true⟩
def Qvw:af :=
 (ag [(ag [(.ae [ab 6 5,ab 7 0,a9 8 7,aw 9 .lss 6 8]),(.cond 9 .skip (.exit 0))]),(.block 1 (ag [(.ae [ab 12 0,ab 13 5,ab 14 1,aZ 15 12 13 aM,ak 16 15 0,aT 16 14 1]),(.ae [ab 17 1,aw 18 .add 17 (ar 1),ab 1 18]),(.ae [ab 19 0,ab 20 5,ab 21 1,aZ 22 19 20 aM,ak 23 22 1,aT 23 21 1]),(.ae [ab 24 1,aw 25 .add 24 (ar 1),ab 1 25]),(.ae [ab 26 0,ab 27 5,ab 28 1,aZ 29 26 27 aM,ak 30 29 2,aT 30 28 1]),(.ae [ab 31 1,aw 32 .add 31 (ar 1),ab 1 32]),(.ae [ab 33 0,ab 34 5,aZ 35 33 34 aM,ak 36 35 3,an 37 36 1,ab 38 1,aD 39 26 [37,38],ab 1 39])])),(.ae [ab 10 5,aw 11 .add 10 (ar 1),ab 5 11])])
def QvF:List (Nat × Md):=[(0,.one .f),(1,.one .d),(5,.one .d)]
def QtX:af :=
 (ag [(.ae [ab 40 1,ab 4 40]),.ret])
def QRG:af :=
 (ag [(.ae [ab 4 (ar 0)]),(ag [(.ae [ab 5 (ar 0)]),(.block 0 (.loop QvF Qvw))]),QtX])
def QxF:List (bm × Md):=[(.t 4,.one .d)]
def Qy2:Qb:=TQ 0 1 QxF K
def QH1:Qb:=aY (aN NN 1 QtX (Qy2 K)) (Qy2 K)
def QFr:Qb:=a6 0 (QH1 K)
def DE(a:List aH)(k1:Int)(i:Int)(a1:List aH):Prop:=Loop NN 1 QvF Qvw (QFr K) ⟨[(0,(.r aM 0 0 a.length)),(1,(aL k1)),(5,(aL i))],[(0,(.sl 0 aM (.dp 0 false []) a1))],1⟩
theorem QAU(a:List aH)(k1:Int)(i:Int)(a1:List aH) (h :
 let z2:=gy b6 (0+(Int.toNat i)) (λe_ k_=>(k_,e_.2.1,e_.2.2.1,e_.2.2.2)) (k1,a1)
 let z4:=gy b6 (0+(Int.toNat i)) (λe_ k_=>(e_.1,k_,e_.2.2.1,e_.2.2.2)) z2
 let z1:=gy b6 (0+(Int.toNat i)) (λe_ k_=>(e_.1,e_.2.1,k_,e_.2.2.2)) z4
 let z3:=gg b6 (0+(Int.toNat i)) (λe_=>e_.2.2.2) (λe_ y_=>(e_.1,e_.2.1,e_.2.2.1,y_)) (QP (α:=List Int)) z1
 (aJ (decide (i<((a.length:Nat):Int))) (((0<=i/\Int.toNat i<a.length)/\((0+(Int.toNat i))<a1.length))/\(((0<=i/\Int.toNat i<a.length)/\((0+(Int.toNat i))<(z2.2).length))/\(((0<=i/\Int.toNat i<a.length)/\((0+(Int.toNat i))<(z4.2).length))/\(((0<=i/\Int.toNat i<a.length)/\(((0+(Int.toNat i))<(z1.2).length)/\((0+(Int.toNat i))<(z1.2).length)))/\(DE K a (z3.1) (aG (i+1)) (z3.2)))))) (K (uZ (k1,a1))))):DE K a k1 i a1 :=
 Loop.of h
theorem QLf(a:List aH)(k:Int):aK Tryz.prog 80 [(.ow 0 aM dw a),(.c TI k)] (uZ (QP (α:=List aH) a k)):=by
 refine bw NN QRG QxF 0 1 41 NM (kc uV kn) (λK =>
 (DE K a k 0 a)) (λhb=>?_)
 have fg:a.length<=9223372036854775807:=hb.1.1;refine nO (A:=λkk ii ll=>DE (λr'=>r'=uZ (QP (α:=List aH) a k)) a kk ii ll) (Q:=λz=>uZ z=uZ (QP (α:=List aH) a k)) a k ?_ ?_ rfl
 ·intro kk pre post x hl hA;have aU:pre.length<a.length:=by omega
  have hw:aG (((pre.length:Nat):Int)+1)=((pre.length+1:Nat):Int):=by rw[QG (by omega) (by omega)];omega
  refine QAU _ _ _ _ _ ?_
  conv=>zeta
  refine⟨λ_=>?_,λh=>absurd h (by simp;omega)⟩;simp only[Int.toNat_natCast,Nat.zero_add,J6,nM,Ye,nK,hw,iK,aU,Ym,and_true,true_and,Int.natCast_nonneg];exact hA
 ·intro kk l hl hq;refine QAU _ _ _ _ _ ?_
  conv=>zeta
  exact⟨λh=>absurd h (by simp),λ_=>hq⟩
theorem QP7:Qf Tryz.prog NM:=Qi λx _=>QLf x.1 x.2.1
def JM(t:Int):aB:=b7 (aL t)
def NO:aI:=Qg 84 [(.c (.sl aM)),(.c TI)] λx=>(some (Q4 (α:=List aH) x.1 x.2.1),JM (aS (α:=List aH) x.1 x.2.1))
def NP:aF:=⟨[sK],false⟩
def Qyn:af :=
 (ag [(ag [(.ae [ab 6 5,ab 7 0,a9 8 7,aw 9 .lss 6 8]),(.cond 9 .skip (.exit 0))]),(.block 1 (ag [(ag [(.ae [ab 12 0,ab 13 5,aZ 14 12 13 aM,ak 15 14 0,an 16 15 1,ab 17 1,aw 18 .neq 16 17]),(.cond 18 (ag [(.ae [ab 4 (ar (-1))]),.ret]) .skip)]),(.ae [ab 19 1,aw 20 .add 19 (ar 1),ab 1 20]),(ag [(.ae [ab 21 0,ab 22 5,aZ 23 21 22 aM,ak 24 23 1,an 25 24 1,ab 26 1,aw 27 .neq 25 26]),(.cond 27 (ag [(.ae [ab 4 (ar (-1))]),.ret]) .skip)]),(.ae [ab 28 1,aw 29 .add 28 (ar 1),ab 1 29]),(ag [(.ae [ab 30 0,ab 31 5,aZ 32 30 31 aM,ak 33 32 2,an 34 33 1,ab 35 1,aw 36 .neq 34 35]),(.cond 36 (ag [(.ae [ab 4 (ar (-1))]),.ret]) .skip)]),(.ae [ab 37 1,aw 38 .add 37 (ar 1),ab 1 38]),(.ae [ab 39 0,ab 40 5,aZ 41 39 40 aM,ak 42 41 3,an 43 42 1,ab 44 1,aD 45 27 [43,44],ab 1 45]),(.ae [ab 46 1,aw 47 .lss 46 (ar 0)]),(.cond 47 (ag [(.ae [ab 4 (ar (-1))]),.ret]) .skip)])),(.ae [ab 10 5,aw 11 .add 10 (ar 1),ab 5 11])])
def QwK:List (Nat × Md):=eW [0,1,5]
def QEY:af :=
 (ag [(.ae [ab 48 1,ab 4 48]),.ret])
def QVz:af :=
 (ag [(.ae [ab 4 (ar 0)]),(ag [(.ae [ab 5 (ar 0)]),(.block 0 (.loop QwK Qyn))]),QEY])
def QC5:List (bm × Md):=[(.t 4,.one .d)]
def QDB:Qb:=TQ 0 0 QC5 K
def QSO:Qb:=aY (aN NP 0 QEY (QDB K)) (QDB K)
def QP4:Qb:=a6 0 (QSO K)
def DF(a:List aH)(k1:Int)(i:Int):Prop:=Loop NP 0 QwK Qyn (QP4 K) ⟨[(0,(bc aM a)),(1,(aL k1)),(5,(aL i))],[],0⟩
theorem Qxd(a:List aH)(k1:Int)(i:Int) (h :
 (aJ (decide (i<(a.length:Int))) ((0<=i/\Int.toNat i<a.length)/\(aJ (((aq b6 a (Int.toNat i)).1) != k1) (K (JM (-1:Int))) ((0<=i/\Int.toNat i<a.length)/\(aJ (((aq b6 a (Int.toNat i)).2.1) != (aG (k1+1))) (K (JM (-1:Int))) ((0<=i/\Int.toNat i<a.length)/\(aJ (((aq b6 a (Int.toNat i)).2.2.1) != (aG ((aG (k1+1))+1))) (K (JM (-1:Int))) (((0<=i/\Int.toNat i<a.length)/\(Q4 (α:=List Int) ((aq b6 a (Int.toNat i)).2.2.2) (aG ((aG ((aG (k1+1))+1))+1))))/\(aJ (decide ((aS (α:=List Int) ((aq b6 a (Int.toNat i)).2.2.2) (aG ((aG ((aG (k1+1))+1))+1)))<0)) (K (JM (-1:Int))) (DF K a (aS (α:=List Int) ((aq b6 a (Int.toNat i)).2.2.2) (aG ((aG ((aG (k1+1))+1))+1))) (aG (i+1))))))))))) (K (JM k1)))):DF K a k1 i :=
 Loop.of h
theorem QOr(a:List aH)(k:Int)(hp:Q4 (α:=List aH) a k):aK Tryz.prog 84 [(.c (.sl aM) a),(.c TI k)] (JM (aS (α:=List aH) a k)):=by
 refine bw NP QVz QC5 0 0 49 NO (kc y7 kn) (λK =>
 (DF K a k 0)) (λhb=>?_)
 have fg:a.length<=9223372036854775807:=hb.1.1;refine J8 (A:=λkk ii=>DF (λr'=>r'=JM (aS (α:=List aH) a k)) a kk ii) (Q:=λz=>JM z=JM (aS (α:=List aH) a k)) a k hp ?_ ?_ rfl
 ·intro kk pre post x ha fR cn dk;have aU:pre.length<a.length:=by rw[ha];simp
  have hg:∀ d,aq d a pre.length=x:=λd=>by rw[ha];exact Ye d pre post x
  have hw:aG (((pre.length:Nat):Int)+1)=((pre.length+1:Nat):Int):=by rw[QG (by omega) (by omega)];omega
  refine Qxd _ _ _ _ ?_;refine⟨λ_=>?_,λh=>absurd h (by simp;omega)⟩;simp only[Int.toNat_natCast,hg,hw,aU,Ym,and_true,true_and,Int.natCast_nonneg];have gI:=(Ze fR).1;have fN:=(Ze fR).2;have eT:=(Ze fN).1;have iL:=(Ze fN).2;have fh:=(Ze iL).1;have gj:=(Ze iL).2;simp only[o6,o7,o8,Prod.ext_iff]at cn dk gI fN eT iL fh gj;refine⟨λh=>cn (λe=>YV h (e.1).symm),λh0=>?_⟩;have e0:=(Y1 h0).symm;refine⟨λh=>cn (λe=>YV h (e.2.1).symm),λh1=>?_⟩;have e1:=(Y1 h1).symm;refine⟨λh=>cn (λe=>YV h (e.2.2.1).symm),λh2=>?_⟩;have e2:=(Y1 h2).symm;refine⟨gj,λh=>cn (λe=>Z3 gj (of_decide_eq_true h) (e.2.2.2)),λh3=>?_⟩;obtain⟨e3,h3⟩:=Yf (of_decide_eq_false h3);rw[h3];exact dk ⟨e0,e1,e2,e3⟩
 ·intro kk hq;refine Qxd _ _ _ _ ?_;exact⟨λh=>absurd h (by simp),λ_=>hq⟩
theorem QIe:Qf Tryz.prog NO:=Qi λx h=>QOr x.1 x.2.1 h
def u0(t:Int × (List Qo)):aB:=⟨(aL t.1),[],[],true,[(.sl 0 QF (.dp 0 false []) t.2)]⟩
def NQ:aI:=Qg 42 [(.d QF),(.c TI)] λx=>(none,u0 (QP (α:=List Qo) x.1 x.2.1))
def NR:aF:=⟨[pN],true⟩
def Qq9:af :=
 (ag [(ag [(.ae [ab 6 5,ab 7 0,a9 8 7,aw 9 .lss 6 8]),(.cond 9 .skip (.exit 0))]),(.block 1 (ag [(.ae [ab 12 0,ab 13 5,aZ 14 12 13 QF,ak 15 14 0,an 16 15 1,ab 17 1,aD 18 26 [16,17],ab 1 18]),(.ae [ab 19 0,ab 20 5,aZ 21 19 20 QF,ak 22 21 1,an 23 22 1,ab 24 1,aD 25 26 [23,24],ab 1 25])])),(.ae [ab 10 5,aw 11 .add 10 (ar 1),ab 5 11])])
def QuI:List (Nat × Md):=[(0,.one .f),(1,.one .d),(5,.one .d)]
def QuK:af :=
 (ag [(.ae [ab 26 1,ab 4 26]),.ret])
def QF6:af :=
 (ag [(.ae [ab 4 (ar 0)]),(ag [(.ae [ab 5 (ar 0)]),(.block 0 (.loop QuI Qq9))]),QuK])
def QtF:List (bm × Md):=[(.t 4,.one .d)]
def QAd:Qb:=TQ 0 1 QtF K
def QOO:Qb:=aY (aN NR 1 QuK (QAd K)) (QAd K)
def QXI:Qb:=a6 0 (QOO K)
def DG(a:List Qo)(k1:Int)(i:Int)(a1:List Qo):Prop:=Loop NR 1 QuI Qq9 (QXI K) ⟨[(0,(.r QF 0 0 a.length)),(1,(aL k1)),(5,(aL i))],[(0,(.sl 0 QF (.dp 0 false []) a1))],1⟩
theorem QCM(a:List Qo)(k1:Int)(i:Int)(a1:List Qo) (h :
 (aJ (decide (i<((a.length:Nat):Int))) (((0<=i/\Int.toNat i<a.length)/\(((0+(Int.toNat i))<a1.length)/\((0+(Int.toNat i))<a1.length)))/\(((0<=i/\Int.toNat i<a.length)/\(((0+(Int.toNat i))<((gg QW (0+(Int.toNat i)) (λe_=>e_.1) (λe_ y_=>(y_,e_.2)) (QP (α:=List Int)) (k1,a1)).2).length)/\((0+(Int.toNat i))<((gg QW (0+(Int.toNat i)) (λe_=>e_.1) (λe_ y_=>(y_,e_.2)) (QP (α:=List Int)) (k1,a1)).2).length)))/\(DG K a ((gg QW (0+(Int.toNat i)) (λe_=>e_.2) (λe_ y_=>(e_.1,y_)) (QP (α:=List Int)) (gg QW (0+(Int.toNat i)) (λe_=>e_.1) (λe_ y_=>(y_,e_.2)) (QP (α:=List Int)) (k1,a1))).1) (aG (i+1)) ((gg QW (0+(Int.toNat i)) (λe_=>e_.2) (λe_ y_=>(e_.1,y_)) (QP (α:=List Int)) (gg QW (0+(Int.toNat i)) (λe_=>e_.1) (λe_ y_=>(y_,e_.2)) (QP (α:=List Int)) (k1,a1))).2)))) (K (u0 (k1,a1))))):DG K a k1 i a1 :=
 Loop.of h
theorem QRs(a:List Qo)(k:Int):aK Tryz.prog 42 [(.ow 0 QF dw a),(.c TI k)] (u0 (QP (α:=List Qo) a k)):=by
 refine bw NR QF6 QtF 0 1 27 NQ (kc uV kn) (λK =>
 (DG K a k 0 a)) (λhb=>?_)
 have fg:a.length<=9223372036854775807:=hb.1.1;refine nO (A:=λkk ii ll=>DG (λr'=>r'=u0 (QP (α:=List Qo) a k)) a kk ii ll) (Q:=λz=>u0 z=u0 (QP (α:=List Qo) a k)) a k ?_ ?_ rfl
 ·intro kk pre post x hl hA;have aU:pre.length<a.length:=by omega
  have hw:aG (((pre.length:Nat):Int)+1)=((pre.length+1:Nat):Int):=by rw[QG (by omega) (by omega)];omega
  refine QCM _ _ _ _ _ ?_;refine⟨λ_=>?_,λh=>absurd h (by simp;omega)⟩;simp only[Int.toNat_natCast,Nat.zero_add,J6,nM,Ye,nK,hw,iK,aU,Ym,and_true,true_and,Int.natCast_nonneg];exact hA
 ·intro kk l hl hq;refine QCM _ _ _ _ _ ?_;exact⟨λh=>absurd h (by simp),λ_=>hq⟩
theorem QOj:Qf Tryz.prog NQ:=Qi λx _=>QRs x.1 x.2.1
def pQ(t:Int):aB:=b7 (aL t)
def NS:aI:=Qg 136 [(.c (.sl QF)),(.c TI)] λx=>(some (Q4 (α:=List Qo) x.1 x.2.1),pQ (aS (α:=List Qo) x.1 x.2.1))
def NT:aF:=⟨[sK],false⟩
def QsG:af :=
 (ag [(ag [(.ae [ab 6 5,ab 7 0,a9 8 7,aw 9 .lss 6 8]),(.cond 9 .skip (.exit 0))]),(.block 1 (ag [(.ae [ab 12 0,ab 13 5,aZ 14 12 13 QF,ak 15 14 0,an 16 15 1,ab 17 1,aD 18 27 [16,17],ab 1 18]),(ag [(.ae [ab 19 1,aw 20 .lss 19 (ar 0)]),(.cond 20 (ag [(.ae [ab 4 (ar (-1))]),.ret]) .skip)]),(.ae [ab 21 0,ab 22 5,aZ 23 21 22 QF,ak 24 23 1,an 25 24 1,ab 26 1,aD 27 27 [25,26],ab 1 27]),(.ae [ab 28 1,aw 29 .lss 28 (ar 0)]),(.cond 29 (ag [(.ae [ab 4 (ar (-1))]),.ret]) .skip)])),(.ae [ab 10 5,aw 11 .add 10 (ar 1),ab 5 11])])
def QrI:List (Nat × Md):=eW [0,1,5]
def QtM:af :=
 (ag [(.ae [ab 30 1,ab 4 30]),.ret])
def QQY:af :=
 (ag [(.ae [ab 4 (ar 0)]),(ag [(.ae [ab 5 (ar 0)]),(.block 0 (.loop QrI QsG))]),QtM])
def QsW:List (bm × Md):=[(.t 4,.one .d)]
def QtN:Qb:=TQ 0 0 QsW K
def QHb:Qb:=aY (aN NT 0 QtM (QtN K)) (QtN K)
def QGI:Qb:=a6 0 (QHb K)
def DH(a:List Qo)(k1:Int)(i:Int):Prop:=Loop NT 0 QrI QsG (QGI K) ⟨[(0,(bc QF a)),(1,(aL k1)),(5,(aL i))],[],0⟩
theorem Qyh(a:List Qo)(k1:Int)(i:Int) (h :
 (aJ (decide (i<(a.length:Int))) (((0<=i/\Int.toNat i<a.length)/\(Q4 (α:=List Int) ((aq QW a (Int.toNat i)).1) k1))/\(aJ (decide ((aS (α:=List Int) ((aq QW a (Int.toNat i)).1) k1)<0)) (K (pQ (-1:Int))) (((0<=i/\Int.toNat i<a.length)/\(Q4 (α:=List Int) ((aq QW a (Int.toNat i)).2) (aS (α:=List Int) ((aq QW a (Int.toNat i)).1) k1)))/\(aJ (decide ((aS (α:=List Int) ((aq QW a (Int.toNat i)).2) (aS (α:=List Int) ((aq QW a (Int.toNat i)).1) k1))<0)) (K (pQ (-1:Int))) (DH K a (aS (α:=List Int) ((aq QW a (Int.toNat i)).2) (aS (α:=List Int) ((aq QW a (Int.toNat i)).1) k1)) (aG (i+1))))))) (K (pQ k1)))):DH K a k1 i :=
 Loop.of h
theorem QSq(a:List Qo)(k:Int)(hp:Q4 (α:=List Qo) a k):aK Tryz.prog 136 [(.c (.sl QF) a),(.c TI k)] (pQ (aS (α:=List Qo) a k)):=by
 refine bw NT QQY QsW 0 0 31 NS (kc y7 kn) (λK =>
 (DH K a k 0)) (λhb=>?_)
 have fg:a.length<=9223372036854775807:=hb.1.1;refine J8 (A:=λkk ii=>DH (λr'=>r'=pQ (aS (α:=List Qo) a k)) a kk ii) (Q:=λz=>pQ z=pQ (aS (α:=List Qo) a k)) a k hp ?_ ?_ rfl
 ·intro kk pre post x ha fR cn dk;have aU:pre.length<a.length:=by rw[ha];simp
  have hg:∀ d,aq d a pre.length=x:=λd=>by rw[ha];exact Ye d pre post x
  have hw:aG (((pre.length:Nat):Int)+1)=((pre.length+1:Nat):Int):=by rw[QG (by omega) (by omega)];omega
  refine Qyh _ _ _ _ ?_;refine⟨λ_=>?_,λh=>absurd h (by simp;omega)⟩;simp only[Int.toNat_natCast,hg,hw,aU,Ym,and_true,true_and,Int.natCast_nonneg];have gI:=(Ze fR).1;have fN:=(Ze fR).2;simp only[o6,o7,o8,Prod.ext_iff]at cn dk gI fN;refine⟨gI,λh=>cn (λe=>Z3 gI (of_decide_eq_true h) (e.1)),λh0=>?_⟩;obtain⟨e0,h0⟩:=Yf (of_decide_eq_false h0);rw[h0];refine⟨fN,λh=>cn (λe=>Z3 fN (of_decide_eq_true h) (e.2)),λh1=>?_⟩;obtain⟨e1,h1⟩:=Yf (of_decide_eq_false h1);rw[h1];exact dk ⟨e0,e1⟩
 ·intro kk hq;refine Qyh _ _ _ _ ?_;exact⟨λh=>absurd h (by simp),λ_=>hq⟩
theorem QYy:Qf Tryz.prog NS:=Qi λx h=>QSq x.1 x.2.1 h
def u1(t:Int × (List QD)):aB:=⟨(aL t.1),[],[],true,[(.sl 0 QE (.dp 0 false []) t.2)]⟩
def NU:aI:=Qg 81 [(.d QE),(.c TI)] λx=>(none,u1 (QP (α:=List QD) x.1 x.2.1))
def NV:aF:=⟨[Dv],true⟩
def Qx6:af :=
 (ag [(ag [(.ae [ab 6 5,ab 7 0,a9 8 7,aw 9 .lss 6 8]),(.cond 9 .skip (.exit 0))]),(.block 1 (ag [(.ae [ab 12 0,ab 13 5,ab 14 1,aZ 15 12 13 QE,ak 16 15 0,aT 16 14 1]),(.ae [ab 17 1,aw 18 .add 17 (ar 1),ab 1 18]),(.ae [ab 19 0,ab 20 5,aZ 21 19 20 QE,ak 22 21 1,an 23 22 1,ab 24 1,aD 25 82 [23,24],ab 1 25])])),(.ae [ab 10 5,aw 11 .add 10 (ar 1),ab 5 11])])
def Qwm:List (Nat × Md):=[(0,.one .f),(1,.one .d),(5,.one .d)]
def QD3:af :=
 (ag [(.ae [ab 26 1,ab 4 26]),.ret])
def QT3:af :=
 (ag [(.ae [ab 4 (ar 0)]),(ag [(.ae [ab 5 (ar 0)]),(.block 0 (.loop Qwm Qx6))]),QD3])
def QA2:List (bm × Md):=[(.t 4,.one .d)]
def QzE:Qb:=TQ 0 1 QA2 K
def QVS:Qb:=aY (aN NV 1 QD3 (QzE K)) (QzE K)
def QPV:Qb:=a6 0 (QVS K)
def DI(a:List QD)(k1:Int)(i:Int)(a1:List QD):Prop:=Loop NV 1 Qwm Qx6 (QPV K) ⟨[(0,(.r QE 0 0 a.length)),(1,(aL k1)),(5,(aL i))],[(0,(.sl 0 QE (.dp 0 false []) a1))],1⟩
theorem Qry(a:List QD)(k1:Int)(i:Int)(a1:List QD) (h :
 (aJ (decide (i<((a.length:Nat):Int))) (((0<=i/\Int.toNat i<a.length)/\((0+(Int.toNat i))<a1.length))/\(((0<=i/\Int.toNat i<a.length)/\(((0+(Int.toNat i))<((gy QT (0+(Int.toNat i)) (λe_ k_=>(k_,e_.2)) (k1,a1)).2).length)/\((0+(Int.toNat i))<((gy QT (0+(Int.toNat i)) (λe_ k_=>(k_,e_.2)) (k1,a1)).2).length)))/\(DI K a ((gg QT (0+(Int.toNat i)) (λe_=>e_.2) (λe_ y_=>(e_.1,y_)) (QP (α:=List (List Int))) (gy QT (0+(Int.toNat i)) (λe_ k_=>(k_,e_.2)) (k1,a1))).1) (aG (i+1)) ((gg QT (0+(Int.toNat i)) (λe_=>e_.2) (λe_ y_=>(e_.1,y_)) (QP (α:=List (List Int))) (gy QT (0+(Int.toNat i)) (λe_ k_=>(k_,e_.2)) (k1,a1))).2)))) (K (u1 (k1,a1))))):DI K a k1 i a1 :=
 Loop.of h
theorem QJC(a:List QD)(k:Int):aK Tryz.prog 81 [(.ow 0 QE dw a),(.c TI k)] (u1 (QP (α:=List QD) a k)):=by
 refine bw NV QT3 QA2 0 1 27 NU (kc QAJ kn) (λK =>
 (DI K a k 0 a)) (λhb=>?_)
 have fg:a.length<=9223372036854775807:=hb.1.1;refine nO (A:=λkk ii ll=>DI (λr'=>r'=u1 (QP (α:=List QD) a k)) a kk ii ll) (Q:=λz=>u1 z=u1 (QP (α:=List QD) a k)) a k ?_ ?_ rfl
 ·intro kk pre post x hl hA;have aU:pre.length<a.length:=by omega
  have hw:aG (((pre.length:Nat):Int)+1)=((pre.length+1:Nat):Int):=by rw[QG (by omega) (by omega)];omega
  refine Qry _ _ _ _ _ ?_;refine⟨λ_=>?_,λh=>absurd h (by simp;omega)⟩;simp only[Int.toNat_natCast,Nat.zero_add,J6,nM,Ye,nK,hw,iK,aU,Ym,and_true,true_and,Int.natCast_nonneg];exact hA
 ·intro kk l hl hq;refine Qry _ _ _ _ _ ?_;exact⟨λh=>absurd h (by simp),λ_=>hq⟩
theorem QHW:Qf Tryz.prog NU:=Qi λx _=>QJC x.1 x.2.1
def pR(t:Int):aB:=b7 (aL t)
def NW:aI:=Qg 85 [(.c (.sl QE)),(.c TI)] λx=>(some (Q4 (α:=List QD) x.1 x.2.1),pR (aS (α:=List QD) x.1 x.2.1))
def NX:aF:=⟨[Dx],false⟩
def QAY:af :=
 (ag [(ag [(.ae [ab 6 5,ab 7 0,a9 8 7,aw 9 .lss 6 8]),(.cond 9 .skip (.exit 0))]),(.block 1 (ag [(ag [(.ae [ab 12 0,ab 13 5,aZ 14 12 13 QE,ak 15 14 0,an 16 15 1,ab 17 1,aw 18 .neq 16 17]),(.cond 18 (ag [(.ae [ab 4 (ar (-1))]),.ret]) .skip)]),(.ae [ab 19 1,aw 20 .add 19 (ar 1),ab 1 20]),(.ae [ab 21 0,ab 22 5,aZ 23 21 22 QE,ak 24 23 1,an 25 24 1,ab 26 1,aD 27 86 [25,26],ab 1 27]),(.ae [ab 28 1,aw 29 .lss 28 (ar 0)]),(.cond 29 (ag [(.ae [ab 4 (ar (-1))]),.ret]) .skip)])),(.ae [ab 10 5,aw 11 .add 10 (ar 1),ab 5 11])])
def QwX:List (Nat × Md):=eW [0,1,5]
def QsX:af :=
 (ag [(.ae [ab 30 1,ab 4 30]),.ret])
def QKL:af :=
 (ag [(.ae [ab 4 (ar 0)]),(ag [(.ae [ab 5 (ar 0)]),(.block 0 (.loop QwX QAY))]),QsX])
def Qzo:List (bm × Md):=[(.t 4,.one .d)]
def QD4:Qb:=TQ 0 0 Qzo K
def QSQ:Qb:=aY (aN NX 0 QsX (QD4 K)) (QD4 K)
def QVl:Qb:=a6 0 (QSQ K)
def DJ(a:List QD)(k1:Int)(i:Int):Prop:=Loop NX 0 QwX QAY (QVl K) ⟨[(0,(bc QE a)),(1,(aL k1)),(5,(aL i))],[],0⟩
theorem Qv9(a:List QD)(k1:Int)(i:Int) (h :
 (aJ (decide (i<(a.length:Int))) ((0<=i/\Int.toNat i<a.length)/\(aJ (((aq QT a (Int.toNat i)).1) != k1) (K (pR (-1:Int))) (((0<=i/\Int.toNat i<a.length)/\(Q4 (α:=List (List Int)) ((aq QT a (Int.toNat i)).2) (aG (k1+1))))/\(aJ (decide ((aS (α:=List (List Int)) ((aq QT a (Int.toNat i)).2) (aG (k1+1)))<0)) (K (pR (-1:Int))) (DJ K a (aS (α:=List (List Int)) ((aq QT a (Int.toNat i)).2) (aG (k1+1))) (aG (i+1))))))) (K (pR k1)))):DJ K a k1 i :=
 Loop.of h
theorem QHM(a:List QD)(k:Int)(hp:Q4 (α:=List QD) a k):aK Tryz.prog 85 [(.c (.sl QE) a),(.c TI k)] (pR (aS (α:=List QD) a k)):=by
 refine bw NX QKL Qzo 0 0 31 NW (kc Qva kn) (λK =>
 (DJ K a k 0)) (λhb=>?_)
 have fg:a.length<=9223372036854775807:=hb.1.1;refine J8 (A:=λkk ii=>DJ (λr'=>r'=pR (aS (α:=List QD) a k)) a kk ii) (Q:=λz=>pR z=pR (aS (α:=List QD) a k)) a k hp ?_ ?_ rfl
 ·intro kk pre post x ha fR cn dk;have aU:pre.length<a.length:=by rw[ha];simp
  have hg:∀ d,aq d a pre.length=x:=λd=>by rw[ha];exact Ye d pre post x
  have hw:aG (((pre.length:Nat):Int)+1)=((pre.length+1:Nat):Int):=by rw[QG (by omega) (by omega)];omega
  refine Qv9 _ _ _ _ ?_;refine⟨λ_=>?_,λh=>absurd h (by simp;omega)⟩;simp only[Int.toNat_natCast,hg,hw,aU,Ym,and_true,true_and,Int.natCast_nonneg];have gI:=(Ze fR).1;have fN:=(Ze fR).2;simp only[o6,o7,o8,Prod.ext_iff]at cn dk gI fN;refine⟨λh=>cn (λe=>YV h (e.1).symm),λh0=>?_⟩;have e0:=(Y1 h0).symm;refine⟨fN,λh=>cn (λe=>Z3 fN (of_decide_eq_true h) (e.2)),λh1=>?_⟩;obtain⟨e1,h1⟩:=Yf (of_decide_eq_false h1);rw[h1];exact dk ⟨e0,e1⟩
 ·intro kk hq;refine Qv9 _ _ _ _ ?_;exact⟨λh=>absurd h (by simp),λ_=>hq⟩
theorem QJh:Qf Tryz.prog NW:=Qi λx h=>QHM x.1 x.2.1 h
def u2(t:Int × (List Qd)):aB:=⟨(aL t.1),[],[],true,[(.sl 0 Qh (.dp 0 false []) t.2)]⟩
def NY:aI:=Qg 96 [(.d Qh),(.c TI)] λx=>(none,u2 (QP (α:=List Qd) x.1 x.2.1))
def NZ:aF:=⟨[NI],true⟩
def QwD:af :=
 (ag [(ag [(.ae [ab 6 5,ab 7 0,a9 8 7,aw 9 .lss 6 8]),(.cond 9 .skip (.exit 0))]),(.block 1 (ag [(.ae [ab 12 0,ab 13 5,ab 14 1,aZ 15 12 13 Qh,ak 16 15 0,aT 16 14 1]),(.ae [ab 17 1,aw 18 .add 17 (ar 1),ab 1 18]),(.ae [ab 19 0,ab 20 5,aZ 21 19 20 Qh,ak 22 21 1,an 23 22 1,ab 24 1,aD 25 182 [23,24],ab 1 25])])),(.ae [ab 10 5,aw 11 .add 10 (ar 1),ab 5 11])])
def Qw7:List (Nat × Md):=[(0,.one .f),(1,.one .d),(5,.one .d)]
def Qwn:af :=
 (ag [(.ae [ab 26 1,ab 4 26]),.ret])
def QFx:af :=
 (ag [(.ae [ab 4 (ar 0)]),(ag [(.ae [ab 5 (ar 0)]),(.block 0 (.loop Qw7 QwD))]),Qwn])
def QrV:List (bm × Md):=[(.t 4,.one .d)]
def QsP:Qb:=TQ 0 1 QrV K
def QFM:Qb:=aY (aN NZ 1 Qwn (QsP K)) (QsP K)
def QID:Qb:=a6 0 (QFM K)
def DK(a:List Qd)(k1:Int)(i:Int)(a1:List Qd):Prop:=Loop NZ 1 Qw7 QwD (QID K) ⟨[(0,(.r Qh 0 0 a.length)),(1,(aL k1)),(5,(aL i))],[(0,(.sl 0 Qh (.dp 0 false []) a1))],1⟩
theorem QCy(a:List Qd)(k1:Int)(i:Int)(a1:List Qd) (h :
 (aJ (decide (i<((a.length:Nat):Int))) (((0<=i/\Int.toNat i<a.length)/\((0+(Int.toNat i))<a1.length))/\(((0<=i/\Int.toNat i<a.length)/\(((0+(Int.toNat i))<((gy Qx (0+(Int.toNat i)) (λe_ k_=>(k_,e_.2)) (k1,a1)).2).length)/\((0+(Int.toNat i))<((gy Qx (0+(Int.toNat i)) (λe_ k_=>(k_,e_.2)) (k1,a1)).2).length)))/\(DK K a ((gg Qx (0+(Int.toNat i)) (λe_=>e_.2) (λe_ y_=>(e_.1,y_)) (QP (α:=List Qm)) (gy Qx (0+(Int.toNat i)) (λe_ k_=>(k_,e_.2)) (k1,a1))).1) (aG (i+1)) ((gg Qx (0+(Int.toNat i)) (λe_=>e_.2) (λe_ y_=>(e_.1,y_)) (QP (α:=List Qm)) (gy Qx (0+(Int.toNat i)) (λe_ k_=>(k_,e_.2)) (k1,a1))).2)))) (K (u2 (k1,a1))))):DK K a k1 i a1 :=
 Loop.of h
theorem QFe(a:List Qd)(k:Int):aK Tryz.prog 96 [(.ow 0 Qh dw a),(.c TI k)] (u2 (QP (α:=List Qd) a k)):=by
 refine bw NZ QFx QrV 0 1 27 NY (kc QLi kn) (λK =>
 (DK K a k 0 a)) (λhb=>?_)
 have fg:a.length<=9223372036854775807:=hb.1.1;refine nO (A:=λkk ii ll=>DK (λr'=>r'=u2 (QP (α:=List Qd) a k)) a kk ii ll) (Q:=λz=>u2 z=u2 (QP (α:=List Qd) a k)) a k ?_ ?_ rfl
 ·intro kk pre post x hl hA;have aU:pre.length<a.length:=by omega
  have hw:aG (((pre.length:Nat):Int)+1)=((pre.length+1:Nat):Int):=by rw[QG (by omega) (by omega)];omega
  refine QCy _ _ _ _ _ ?_;refine⟨λ_=>?_,λh=>absurd h (by simp;omega)⟩;simp only[Int.toNat_natCast,Nat.zero_add,J6,nM,Ye,nK,hw,iK,aU,Ym,and_true,true_and,Int.natCast_nonneg];exact hA
 ·intro kk l hl hq;refine QCy _ _ _ _ _ ?_;exact⟨λh=>absurd h (by simp),λ_=>hq⟩
theorem QIt:Qf Tryz.prog NY:=Qi λx _=>QFe x.1 x.2.1
def pS(t:Int):aB:=b7 (aL t)
def N0:aI:=Qg 138 [(.c (.sl Qh)),(.c TI)] λx=>(some (Q4 (α:=List Qd) x.1 x.2.1),pS (aS (α:=List Qd) x.1 x.2.1))
def N1:aF:=⟨[NK],false⟩
def Qwb:af :=
 (ag [(ag [(.ae [ab 6 5,ab 7 0,a9 8 7,aw 9 .lss 6 8]),(.cond 9 .skip (.exit 0))]),(.block 1 (ag [(ag [(.ae [ab 12 0,ab 13 5,aZ 14 12 13 Qh,ak 15 14 0,an 16 15 1,ab 17 1,aw 18 .neq 16 17]),(.cond 18 (ag [(.ae [ab 4 (ar (-1))]),.ret]) .skip)]),(.ae [ab 19 1,aw 20 .add 19 (ar 1),ab 1 20]),(.ae [ab 21 0,ab 22 5,aZ 23 21 22 Qh,ak 24 23 1,an 25 24 1,ab 26 1,aD 27 214 [25,26],ab 1 27]),(.ae [ab 28 1,aw 29 .lss 28 (ar 0)]),(.cond 29 (ag [(.ae [ab 4 (ar (-1))]),.ret]) .skip)])),(.ae [ab 10 5,aw 11 .add 10 (ar 1),ab 5 11])])
def Qtg:List (Nat × Md):=eW [0,1,5]
def Qrm:af :=
 (ag [(.ae [ab 30 1,ab 4 30]),.ret])
def QGw:af :=
 (ag [(.ae [ab 4 (ar 0)]),(ag [(.ae [ab 5 (ar 0)]),(.block 0 (.loop Qtg Qwb))]),Qrm])
def QvX:List (bm × Md):=[(.t 4,.one .d)]
def QyT:Qb:=TQ 0 0 QvX K
def QQ3:Qb:=aY (aN N1 0 Qrm (QyT K)) (QyT K)
def QVC:Qb:=a6 0 (QQ3 K)
def DL(a:List Qd)(k1:Int)(i:Int):Prop:=Loop N1 0 Qtg Qwb (QVC K) ⟨[(0,(bc Qh a)),(1,(aL k1)),(5,(aL i))],[],0⟩
theorem QAE(a:List Qd)(k1:Int)(i:Int) (h :
 (aJ (decide (i<(a.length:Int))) ((0<=i/\Int.toNat i<a.length)/\(aJ (((aq Qx a (Int.toNat i)).1) != k1) (K (pS (-1:Int))) (((0<=i/\Int.toNat i<a.length)/\(Q4 (α:=List Qm) ((aq Qx a (Int.toNat i)).2) (aG (k1+1))))/\(aJ (decide ((aS (α:=List Qm) ((aq Qx a (Int.toNat i)).2) (aG (k1+1)))<0)) (K (pS (-1:Int))) (DL K a (aS (α:=List Qm) ((aq Qx a (Int.toNat i)).2) (aG (k1+1))) (aG (i+1))))))) (K (pS k1)))):DL K a k1 i :=
 Loop.of h
theorem QRu(a:List Qd)(k:Int)(hp:Q4 (α:=List Qd) a k):aK Tryz.prog 138 [(.c (.sl Qh) a),(.c TI k)] (pS (aS (α:=List Qd) a k)):=by
 refine bw N1 QGw QvX 0 0 31 N0 (kc QSX kn) (λK =>
 (DL K a k 0)) (λhb=>?_)
 have fg:a.length<=9223372036854775807:=hb.1.1;refine J8 (A:=λkk ii=>DL (λr'=>r'=pS (aS (α:=List Qd) a k)) a kk ii) (Q:=λz=>pS z=pS (aS (α:=List Qd) a k)) a k hp ?_ ?_ rfl
 ·intro kk pre post x ha fR cn dk;have aU:pre.length<a.length:=by rw[ha];simp
  have hg:∀ d,aq d a pre.length=x:=λd=>by rw[ha];exact Ye d pre post x
  have hw:aG (((pre.length:Nat):Int)+1)=((pre.length+1:Nat):Int):=by rw[QG (by omega) (by omega)];omega
  refine QAE _ _ _ _ ?_;refine⟨λ_=>?_,λh=>absurd h (by simp;omega)⟩;simp only[Int.toNat_natCast,hg,hw,aU,Ym,and_true,true_and,Int.natCast_nonneg];have gI:=(Ze fR).1;have fN:=(Ze fR).2;simp only[o6,o7,o8,Prod.ext_iff]at cn dk gI fN;refine⟨λh=>cn (λe=>YV h (e.1).symm),λh0=>?_⟩;have e0:=(Y1 h0).symm;refine⟨fN,λh=>cn (λe=>Z3 fN (of_decide_eq_true h) (e.2)),λh1=>?_⟩;obtain⟨e1,h1⟩:=Yf (of_decide_eq_false h1);rw[h1];exact dk ⟨e0,e1⟩
 ·intro kk hq;refine QAE _ _ _ _ ?_;exact⟨λh=>absurd h (by simp),λ_=>hq⟩
theorem QWM:Qf Tryz.prog N0:=Qi λx h=>QRu x.1 x.2.1 h
def u3(t:Int × (List Qc)):aB:=⟨(aL t.1),[],[],true,[(.sl 0 Qe (.dp 0 false []) t.2)]⟩
def N2:aI:=Qg 95 [(.d Qe),(.c TI)] λx=>(none,u3 (QP (α:=List Qc) x.1 x.2.1))
def N3:aF:=⟨[ND,NM,NU,Dv,pN],true⟩
def QED:af :=
 (ag [(ag [(.ae [ab 6 5,ab 7 0,a9 8 7,aw 9 .lss 6 8]),(.cond 9 .skip (.exit 0))]),(.block 1 (ag [(.ae [ab 12 0,ab 13 5,ab 14 1,aZ 15 12 13 Qe,ak 16 15 0,aT 16 14 1]),(.ae [ab 17 1,aw 18 .add 17 (ar 1),ab 1 18]),(.ae [ab 19 0,ab 20 5,aZ 21 19 20 Qe,ak 22 21 1,an 23 22 1,ab 24 1,aD 25 79 [23,24],ab 1 25]),(.ae [ab 26 0,ab 27 5,aZ 28 26 27 Qe,ak 29 28 2,an 30 29 1,ab 31 1,aD 32 80 [30,31],ab 1 32]),(.ae [ab 33 0,ab 34 5,ab 35 1,aw 36 .rem 35 (ar 3),aw 37 .eql 36 (ar 0),aZ 38 33 34 Qe,ak 39 38 3,aT 39 37 1]),(.ae [ab 40 1,aw 41 .add 40 (ar 1),ab 1 41]),(.ae [ab 42 0,ab 43 5,ab 44 1,aw 45 .rem 44 (ar 3),aw 46 .eql 45 (ar 0),aZ 47 42 43 Qe,ak 48 47 4,aT 48 46 1]),(.ae [ab 49 1,aw 50 .add 49 (ar 1),ab 1 50]),(.ae [ab 51 0,ab 52 5,aZ 53 51 52 Qe,ak 54 53 5,an 55 54 1,ab 56 1,aD 57 81 [55,56],ab 1 57]),(.ae [ab 58 0,ab 59 5,aZ 60 58 59 Qe,ak 61 60 6,an 62 61 1,ab 63 1,aD 64 82 [62,63],ab 1 64]),(.ae [ab 65 0,ab 66 5,aZ 67 65 66 Qe,ak 68 67 7,an 69 68 1,ab 70 1,aD 71 26 [69,70],ab 1 71]),(.ae [ab 72 0,ab 73 5,aZ 74 72 73 Qe,ak 75 74 8,an 76 75 1,ab 77 1,aD 78 26 [76,77],ab 1 78]),(.ae [ab 79 0,ab 80 5,aZ 81 79 80 Qe,ak 82 81 9,an 83 82 1,ab 84 1,aD 85 26 [83,84],ab 1 85]),(.ae [ab 86 0,ab 87 5,aZ 88 86 87 Qe,ak 89 88 10,an 90 89 1,ab 91 1,aD 92 26 [90,91],ab 1 92]),(.ae [ab 93 0,ab 94 5,aZ 95 93 94 Qe,ak 96 95 11,ak 97 96 0,an 98 97 1,ab 99 1,aD 100 82 [98,99],ab 1 100]),(.ae [ab 101 0,ab 102 5,ab 103 1,aZ 104 101 102 Qe,ak 105 104 11,ak 106 105 1,aT 106 103 1]),(.ae [ab 107 1,aw 108 .add 107 (ar 1),ab 1 108]),(.ae [ab 109 0,ab 110 5,ab 111 1,aw 112 .rem 111 (ar 3),aw 113 .eql 112 (ar 0),aZ 114 109 110 Qe,ak 115 114 11,ak 116 115 2,aT 116 113 1]),(.ae [ab 117 1,aw 118 .add 117 (ar 1),ab 1 118])])),(.ae [ab 10 5,aw 11 .add 10 (ar 1),ab 5 11])])
def QE0:List (Nat × Md):=[(0,.one .f),(1,.one .d),(5,.one .d)]
def Qu9:af :=
 (ag [(.ae [ab 119 1,ab 4 119]),.ret])
def QRM:af :=
 (ag [(.ae [ab 4 (ar 0)]),(ag [(.ae [ab 5 (ar 0)]),(.block 0 (.loop QE0 QED))]),Qu9])
def QzJ:List (bm × Md):=[(.t 4,.one .d)]
def QCn:Qb:=TQ 0 1 QzJ K
def QGJ:Qb:=aY (aN N3 1 Qu9 (QCn K)) (QCn K)
def QHL:Qb:=a6 0 (QGJ K)
def DM(a:List Qc)(k1:Int)(i:Int)(a1:List Qc):Prop:=Loop N3 1 QE0 QED (QHL K) ⟨[(0,(.r Qe 0 0 a.length)),(1,(aL k1)),(5,(aL i))],[(0,(.sl 0 Qe (.dp 0 false []) a1))],1⟩
theorem QDY(a:List Qc)(k1:Int)(i:Int)(a1:List Qc) (h :
 let eX:=gy Qz (0+(Int.toNat i)) (λe_ k_=>(k_,e_.2.1,e_.2.2.1,e_.2.2.2.1,e_.2.2.2.2.1,e_.2.2.2.2.2.1,e_.2.2.2.2.2.2.1,e_.2.2.2.2.2.2.2.1,e_.2.2.2.2.2.2.2.2.1,e_.2.2.2.2.2.2.2.2.2.1,e_.2.2.2.2.2.2.2.2.2.2.1,e_.2.2.2.2.2.2.2.2.2.2.2.1,e_.2.2.2.2.2.2.2.2.2.2.2.2.1,e_.2.2.2.2.2.2.2.2.2.2.2.2.2)) (k1,a1)
 let z5:=gg Qz (0+(Int.toNat i)) (λe_=>e_.2.1) (λe_ y_=>(e_.1,y_,e_.2.2.1,e_.2.2.2.1,e_.2.2.2.2.1,e_.2.2.2.2.2.1,e_.2.2.2.2.2.2.1,e_.2.2.2.2.2.2.2.1,e_.2.2.2.2.2.2.2.2.1,e_.2.2.2.2.2.2.2.2.2.1,e_.2.2.2.2.2.2.2.2.2.2.1,e_.2.2.2.2.2.2.2.2.2.2.2.1,e_.2.2.2.2.2.2.2.2.2.2.2.2.1,e_.2.2.2.2.2.2.2.2.2.2.2.2.2)) (QP (α:=List bp)) eX
 let dR:=gg Qz (0+(Int.toNat i)) (λe_=>e_.2.2.1) (λe_ y_=>(e_.1,e_.2.1,y_,e_.2.2.2.1,e_.2.2.2.2.1,e_.2.2.2.2.2.1,e_.2.2.2.2.2.2.1,e_.2.2.2.2.2.2.2.1,e_.2.2.2.2.2.2.2.2.1,e_.2.2.2.2.2.2.2.2.2.1,e_.2.2.2.2.2.2.2.2.2.2.1,e_.2.2.2.2.2.2.2.2.2.2.2.1,e_.2.2.2.2.2.2.2.2.2.2.2.2.1,e_.2.2.2.2.2.2.2.2.2.2.2.2.2)) (QP (α:=List aH)) z5
 let z3:=gy Qz (0+(Int.toNat i)) (λe_ k_=>(e_.1,e_.2.1,e_.2.2.1,((Int.tmod k_ (3:Int))==0),e_.2.2.2.2.1,e_.2.2.2.2.2.1,e_.2.2.2.2.2.2.1,e_.2.2.2.2.2.2.2.1,e_.2.2.2.2.2.2.2.2.1,e_.2.2.2.2.2.2.2.2.2.1,e_.2.2.2.2.2.2.2.2.2.2.1,e_.2.2.2.2.2.2.2.2.2.2.2.1,e_.2.2.2.2.2.2.2.2.2.2.2.2.1,e_.2.2.2.2.2.2.2.2.2.2.2.2.2)) dR
 let eY:=gy Qz (0+(Int.toNat i)) (λe_ k_=>(e_.1,e_.2.1,e_.2.2.1,e_.2.2.2.1,((Int.tmod k_ (3:Int))==0),e_.2.2.2.2.2.1,e_.2.2.2.2.2.2.1,e_.2.2.2.2.2.2.2.1,e_.2.2.2.2.2.2.2.2.1,e_.2.2.2.2.2.2.2.2.2.1,e_.2.2.2.2.2.2.2.2.2.2.1,e_.2.2.2.2.2.2.2.2.2.2.2.1,e_.2.2.2.2.2.2.2.2.2.2.2.2.1,e_.2.2.2.2.2.2.2.2.2.2.2.2.2)) z3
 let z7:=gg Qz (0+(Int.toNat i)) (λe_=>e_.2.2.2.2.2.1) (λe_ y_=>(e_.1,e_.2.1,e_.2.2.1,e_.2.2.2.1,e_.2.2.2.2.1,y_,e_.2.2.2.2.2.2.1,e_.2.2.2.2.2.2.2.1,e_.2.2.2.2.2.2.2.2.1,e_.2.2.2.2.2.2.2.2.2.1,e_.2.2.2.2.2.2.2.2.2.2.1,e_.2.2.2.2.2.2.2.2.2.2.2.1,e_.2.2.2.2.2.2.2.2.2.2.2.2.1,e_.2.2.2.2.2.2.2.2.2.2.2.2.2)) (QP (α:=List QD)) eY
 let z1:=gg Qz (0+(Int.toNat i)) (λe_=>e_.2.2.2.2.2.2.1) (λe_ y_=>(e_.1,e_.2.1,e_.2.2.1,e_.2.2.2.1,e_.2.2.2.2.1,e_.2.2.2.2.2.1,y_,e_.2.2.2.2.2.2.2.1,e_.2.2.2.2.2.2.2.2.1,e_.2.2.2.2.2.2.2.2.2.1,e_.2.2.2.2.2.2.2.2.2.2.1,e_.2.2.2.2.2.2.2.2.2.2.2.1,e_.2.2.2.2.2.2.2.2.2.2.2.2.1,e_.2.2.2.2.2.2.2.2.2.2.2.2.2)) (QP (α:=List (List Int))) z7
 let f4:=QP (α:=List Int)
 let z8:=gg Qz (0+(Int.toNat i)) (λe_=>e_.2.2.2.2.2.2.2.1) (λe_ y_=>(e_.1,e_.2.1,e_.2.2.1,e_.2.2.2.1,e_.2.2.2.2.1,e_.2.2.2.2.2.1,e_.2.2.2.2.2.2.1,y_,e_.2.2.2.2.2.2.2.2.1,e_.2.2.2.2.2.2.2.2.2.1,e_.2.2.2.2.2.2.2.2.2.2.1,e_.2.2.2.2.2.2.2.2.2.2.2.1,e_.2.2.2.2.2.2.2.2.2.2.2.2.1,e_.2.2.2.2.2.2.2.2.2.2.2.2.2)) f4 z1
 let z6:=gg Qz (0+(Int.toNat i)) (λe_=>e_.2.2.2.2.2.2.2.2.1) (λe_ y_=>(e_.1,e_.2.1,e_.2.2.1,e_.2.2.2.1,e_.2.2.2.2.1,e_.2.2.2.2.2.1,e_.2.2.2.2.2.2.1,e_.2.2.2.2.2.2.2.1,y_,e_.2.2.2.2.2.2.2.2.2.1,e_.2.2.2.2.2.2.2.2.2.2.1,e_.2.2.2.2.2.2.2.2.2.2.2.1,e_.2.2.2.2.2.2.2.2.2.2.2.2.1,e_.2.2.2.2.2.2.2.2.2.2.2.2.2)) f4 z8
 let z2:=gg Qz (0+(Int.toNat i)) (λe_=>e_.2.2.2.2.2.2.2.2.2.1) (λe_ y_=>(e_.1,e_.2.1,e_.2.2.1,e_.2.2.2.1,e_.2.2.2.2.1,e_.2.2.2.2.2.1,e_.2.2.2.2.2.2.1,e_.2.2.2.2.2.2.2.1,e_.2.2.2.2.2.2.2.2.1,y_,e_.2.2.2.2.2.2.2.2.2.2.1,e_.2.2.2.2.2.2.2.2.2.2.2.1,e_.2.2.2.2.2.2.2.2.2.2.2.2.1,e_.2.2.2.2.2.2.2.2.2.2.2.2.2)) f4 z6
 let z9:=gg Qz (0+(Int.toNat i)) (λe_=>e_.2.2.2.2.2.2.2.2.2.2.1) (λe_ y_=>(e_.1,e_.2.1,e_.2.2.1,e_.2.2.2.1,e_.2.2.2.2.1,e_.2.2.2.2.2.1,e_.2.2.2.2.2.2.1,e_.2.2.2.2.2.2.2.1,e_.2.2.2.2.2.2.2.2.1,e_.2.2.2.2.2.2.2.2.2.1,y_,e_.2.2.2.2.2.2.2.2.2.2.2.1,e_.2.2.2.2.2.2.2.2.2.2.2.2.1,e_.2.2.2.2.2.2.2.2.2.2.2.2.2)) f4 z2
 let z4:=gg Qz (0+(Int.toNat i)) (λe_=>e_.2.2.2.2.2.2.2.2.2.2.2.1) (λe_ y_=>(e_.1,e_.2.1,e_.2.2.1,e_.2.2.2.1,e_.2.2.2.2.1,e_.2.2.2.2.2.1,e_.2.2.2.2.2.2.1,e_.2.2.2.2.2.2.2.1,e_.2.2.2.2.2.2.2.2.1,e_.2.2.2.2.2.2.2.2.2.1,e_.2.2.2.2.2.2.2.2.2.2.1,y_,e_.2.2.2.2.2.2.2.2.2.2.2.2.1,e_.2.2.2.2.2.2.2.2.2.2.2.2.2)) (QP (α:=List (List Int))) z9
 let fS:=gy Qz (0+(Int.toNat i)) (λe_ k_=>(e_.1,e_.2.1,e_.2.2.1,e_.2.2.2.1,e_.2.2.2.2.1,e_.2.2.2.2.2.1,e_.2.2.2.2.2.2.1,e_.2.2.2.2.2.2.2.1,e_.2.2.2.2.2.2.2.2.1,e_.2.2.2.2.2.2.2.2.2.1,e_.2.2.2.2.2.2.2.2.2.2.1,e_.2.2.2.2.2.2.2.2.2.2.2.1,k_,e_.2.2.2.2.2.2.2.2.2.2.2.2.2)) z4
 (aJ (decide (i<((a.length:Nat):Int))) (((0<=i/\Int.toNat i<a.length)/\((0+(Int.toNat i))<a1.length))/\(((0<=i/\Int.toNat i<a.length)/\(((0+(Int.toNat i))<(eX.2).length)/\((0+(Int.toNat i))<(eX.2).length)))/\(((0<=i/\Int.toNat i<a.length)/\(((0+(Int.toNat i))<(z5.2).length)/\((0+(Int.toNat i))<(z5.2).length)))/\(((¬ ((3:Int):Int)=0)/\((0<=i/\Int.toNat i<a.length)/\((0+(Int.toNat i))<(dR.2).length)))/\(((¬ ((3:Int):Int)=0)/\((0<=i/\Int.toNat i<a.length)/\((0+(Int.toNat i))<(z3.2).length)))/\(((0<=i/\Int.toNat i<a.length)/\(((0+(Int.toNat i))<(eY.2).length)/\((0+(Int.toNat i))<(eY.2).length)))/\(((0<=i/\Int.toNat i<a.length)/\(((0+(Int.toNat i))<(z7.2).length)/\((0+(Int.toNat i))<(z7.2).length)))/\(((0<=i/\Int.toNat i<a.length)/\(((0+(Int.toNat i))<(z1.2).length)/\((0+(Int.toNat i))<(z1.2).length)))/\(((0<=i/\Int.toNat i<a.length)/\(((0+(Int.toNat i))<(z8.2).length)/\((0+(Int.toNat i))<(z8.2).length)))/\(((0<=i/\Int.toNat i<a.length)/\(((0+(Int.toNat i))<(z6.2).length)/\((0+(Int.toNat i))<(z6.2).length)))/\(((0<=i/\Int.toNat i<a.length)/\(((0+(Int.toNat i))<(z2.2).length)/\((0+(Int.toNat i))<(z2.2).length)))/\(((0<=i/\Int.toNat i<a.length)/\(((0+(Int.toNat i))<(z9.2).length)/\((0+(Int.toNat i))<(z9.2).length)))/\(((0<=i/\Int.toNat i<a.length)/\((0+(Int.toNat i))<(z4.2).length))/\(((¬ ((3:Int):Int)=0)/\((0<=i/\Int.toNat i<a.length)/\((0+(Int.toNat i))<(fS.2).length)))/\(DM K a (aG ((aG ((z4.1)+1))+1)) (aG (i+1)) ((gy Qz (0+(Int.toNat i)) (λe_ k_=>(e_.1,e_.2.1,e_.2.2.1,e_.2.2.2.1,e_.2.2.2.2.1,e_.2.2.2.2.2.1,e_.2.2.2.2.2.2.1,e_.2.2.2.2.2.2.2.1,e_.2.2.2.2.2.2.2.2.1,e_.2.2.2.2.2.2.2.2.2.1,e_.2.2.2.2.2.2.2.2.2.2.1,e_.2.2.2.2.2.2.2.2.2.2.2.1,e_.2.2.2.2.2.2.2.2.2.2.2.2.1,((Int.tmod k_ (3:Int))==0))) fS).2)))))))))))))))) (K (u3 (k1,a1))))):DM K a k1 i a1 :=
 Loop.of h
theorem QWs(a:List Qc)(k:Int):aK Tryz.prog 95 [(.ow 0 Qe dw a),(.c TI k)] (u3 (QP (α:=List Qc) a k)):=by
 refine bw N3 QRM QzJ 0 1 120 N2 (kc QOX (kc QP7 (kc QHW (kc QAJ (kc uV kn))))) (λK =>
 (DM K a k 0 a)) (λhb=>?_)
 have fg:a.length<=9223372036854775807:=hb.1.1;refine nO (A:=λkk ii ll=>DM (λr'=>r'=u3 (QP (α:=List Qc) a k)) a kk ii ll) (Q:=λz=>u3 z=u3 (QP (α:=List Qc) a k)) a k ?_ ?_ rfl
 ·intro kk pre post x hl hA;have aU:pre.length<a.length:=by omega
  have hw:aG (((pre.length:Nat):Int)+1)=((pre.length+1:Nat):Int):=by rw[QG (by omega) (by omega)];omega
  refine QDY _ _ _ _ _ ?_
  conv=>zeta
  refine⟨λ_=>?_,λh=>absurd h (by simp;omega)⟩;simp only[Int.toNat_natCast,Nat.zero_add,J6,nM,Ye,nK,hw,iK,aU,Ym,and_true,true_and,Int.natCast_nonneg];exact hA
 ·intro kk l hl hq;refine QDY _ _ _ _ _ ?_
  conv=>zeta
  exact⟨λh=>absurd h (by simp),λ_=>hq⟩
theorem QMD:Qf Tryz.prog N2:=Qi λx _=>QWs x.1 x.2.1
def Yc(t:Int):aB:=b7 (aL t)
def N4:aI:=Qg 137 [(.c (.sl Qe)),(.c TI)] λx=>(some (Q4 (α:=List Qc) x.1 x.2.1),Yc (aS (α:=List Qc) x.1 x.2.1))
def N5:aF:=⟨[NG,NO,NW,Dx,sK],false⟩
def QwS:af :=
 (ag [(ag [(.ae [ab 6 5,ab 7 0,a9 8 7,aw 9 .lss 6 8]),(.cond 9 .skip (.exit 0))]),(.block 1 (ag [(ag [(.ae [ab 12 0,ab 13 5,aZ 14 12 13 Qe,ak 15 14 0,an 16 15 1,ab 17 1,aw 18 .neq 16 17]),(.cond 18 (ag [(.ae [ab 4 (ar (-1))]),.ret]) .skip)]),(.ae [ab 19 1,aw 20 .add 19 (ar 1),ab 1 20]),(.ae [ab 21 0,ab 22 5,aZ 23 21 22 Qe,ak 24 23 1,an 25 24 1,ab 26 1,aD 27 83 [25,26],ab 1 27]),(ag [(.ae [ab 28 1,aw 29 .lss 28 (ar 0)]),(.cond 29 (ag [(.ae [ab 4 (ar (-1))]),.ret]) .skip)]),(.ae [ab 30 0,ab 31 5,aZ 32 30 31 Qe,ak 33 32 2,an 34 33 1,ab 35 1,aD 36 84 [34,35],ab 1 36]),(ag [(.ae [ab 37 1,aw 38 .lss 37 (ar 0)]),(.cond 38 (ag [(.ae [ab 4 (ar (-1))]),.ret]) .skip)]),(ag [(.ae [ab 39 0,ab 40 5,aZ 41 39 40 Qe,ak 42 41 3,an 43 42 1,ab 44 1,aw 45 .rem 44 (ar 3),aw 46 .eql 45 (ar 0),aC 47 (.ij true 43 46)]),(.cond 47 (ag [(.ae [ab 4 (ar (-1))]),.ret]) .skip)]),(.ae [ab 48 1,aw 49 .add 48 (ar 1),ab 1 49]),(ag [(.ae [ab 50 0,ab 51 5,aZ 52 50 51 Qe,ak 53 52 4,an 54 53 1,ab 55 1,aw 56 .rem 55 (ar 3),aw 57 .eql 56 (ar 0),aC 58 (.ij true 54 57)]),(.cond 58 (ag [(.ae [ab 4 (ar (-1))]),.ret]) .skip)]),(.ae [ab 59 1,aw 60 .add 59 (ar 1),ab 1 60]),(.ae [ab 61 0,ab 62 5,aZ 63 61 62 Qe,ak 64 63 5,an 65 64 1,ab 66 1,aD 67 85 [65,66],ab 1 67]),(ag [(.ae [ab 68 1,aw 69 .lss 68 (ar 0)]),(.cond 69 (ag [(.ae [ab 4 (ar (-1))]),.ret]) .skip)]),(.ae [ab 70 0,ab 71 5,aZ 72 70 71 Qe,ak 73 72 6,an 74 73 1,ab 75 1,aD 76 86 [74,75],ab 1 76]),(ag [(.ae [ab 77 1,aw 78 .lss 77 (ar 0)]),(.cond 78 (ag [(.ae [ab 4 (ar (-1))]),.ret]) .skip)]),(.ae [ab 79 0,ab 80 5,aZ 81 79 80 Qe,ak 82 81 7,an 83 82 1,ab 84 1,aD 85 27 [83,84],ab 1 85]),(ag [(.ae [ab 86 1,aw 87 .lss 86 (ar 0)]),(.cond 87 (ag [(.ae [ab 4 (ar (-1))]),.ret]) .skip)]),(.ae [ab 88 0,ab 89 5,aZ 90 88 89 Qe,ak 91 90 8,an 92 91 1,ab 93 1,aD 94 27 [92,93],ab 1 94]),(ag [(.ae [ab 95 1,aw 96 .lss 95 (ar 0)]),(.cond 96 (ag [(.ae [ab 4 (ar (-1))]),.ret]) .skip)]),(.ae [ab 97 0,ab 98 5,aZ 99 97 98 Qe,ak 100 99 9,an 101 100 1,ab 102 1,aD 103 27 [101,102],ab 1 103]),(ag [(.ae [ab 104 1,aw 105 .lss 104 (ar 0)]),(.cond 105 (ag [(.ae [ab 4 (ar (-1))]),.ret]) .skip)]),(.ae [ab 106 0,ab 107 5,aZ 108 106 107 Qe,ak 109 108 10,an 110 109 1,ab 111 1,aD 112 27 [110,111],ab 1 112]),(ag [(.ae [ab 113 1,aw 114 .lss 113 (ar 0)]),(.cond 114 (ag [(.ae [ab 4 (ar (-1))]),.ret]) .skip)]),(.ae [ab 115 0,ab 116 5,aZ 117 115 116 Qe,ak 118 117 11,ak 119 118 0,an 120 119 1,ab 121 1,aD 122 86 [120,121],ab 1 122]),(ag [(.ae [ab 123 1,aw 124 .lss 123 (ar 0)]),(.cond 124 (ag [(.ae [ab 4 (ar (-1))]),.ret]) .skip)]),(ag [(.ae [ab 125 0,ab 126 5,aZ 127 125 126 Qe,ak 128 127 11,ak 129 128 1,an 130 129 1,ab 131 1,aw 132 .neq 130 131]),(.cond 132 (ag [(.ae [ab 4 (ar (-1))]),.ret]) .skip)]),(.ae [ab 133 1,aw 134 .add 133 (ar 1),ab 1 134]),(ag [(.ae [ab 135 0,ab 136 5,aZ 137 135 136 Qe,ak 138 137 11,ak 139 138 2,an 140 139 1,ab 141 1,aw 142 .rem 141 (ar 3),aw 143 .eql 142 (ar 0),aC 144 (.ij true 140 143)]),(.cond 144 (ag [(.ae [ab 4 (ar (-1))]),.ret]) .skip)]),(.ae [ab 145 1,aw 146 .add 145 (ar 1),ab 1 146])])),(.ae [ab 10 5,aw 11 .add 10 (ar 1),ab 5 11])])
def QqI:List (Nat × Md):=eW [0,1,5]
def Qt1:af :=
 (ag [(.ae [ab 147 1,ab 4 147]),.ret])
def QOC:af :=
 (ag [(.ae [ab 4 (ar 0)]),(ag [(.ae [ab 5 (ar 0)]),(.block 0 (.loop QqI QwS))]),Qt1])
def Qtj:List (bm × Md):=[(.t 4,.one .d)]
def QxT:Qb:=TQ 0 0 Qtj K
def QLE:Qb:=aY (aN N5 0 Qt1 (QxT K)) (QxT K)
def QSZ:Qb:=a6 0 (QLE K)
def DN(a:List Qc)(k1:Int)(i:Int):Prop:=Loop N5 0 QqI QwS (QSZ K) ⟨[(0,(bc Qe a)),(1,(aL k1)),(5,(aL i))],[],0⟩
theorem Qxp(a:List Qc)(k1:Int)(i:Int) (h :
 let z2:=aq Qz a (Int.toNat i)
 let z8:=aS (α:=List bp) (z2.2.1) (aG (k1+1))
 let z4:=aS (α:=List aH) (z2.2.2.1) z8
 let z5:=aS (α:=List QD) (z2.2.2.2.2.2.1) (aG ((aG (z4+1))+1))
 let z9:=aS (α:=List (List Int)) (z2.2.2.2.2.2.2.1) z5
 let z1:=aS (α:=List Int) (z2.2.2.2.2.2.2.2.1) z9
 let eY:=aS (α:=List Int) (z2.2.2.2.2.2.2.2.2.1) z1
 let z6:=aS (α:=List Int) (z2.2.2.2.2.2.2.2.2.2.1) eY
 let z3:=aS (α:=List Int) (z2.2.2.2.2.2.2.2.2.2.2.1) z6
 let z7:=aS (α:=List (List Int)) (z2.2.2.2.2.2.2.2.2.2.2.2.1) z3
 (aJ (decide (i<(a.length:Int))) ((0<=i/\Int.toNat i<a.length)/\(aJ ((z2.1) != k1) (K (Yc (-1:Int))) (((0<=i/\Int.toNat i<a.length)/\(Q4 (α:=List bp) (z2.2.1) (aG (k1+1))))/\(aJ (decide (z8<0)) (K (Yc (-1:Int))) (((0<=i/\Int.toNat i<a.length)/\(Q4 (α:=List aH) (z2.2.2.1) z8))/\(aJ (decide (z4<0)) (K (Yc (-1:Int))) (((0<=i/\Int.toNat i<a.length)/\(¬ ((3:Int):Int)=0))/\(aJ (!((z2.2.2.2.1)==((Int.tmod z4 (3:Int))==0))) (K (Yc (-1:Int))) (((0<=i/\Int.toNat i<a.length)/\(¬ ((3:Int):Int)=0))/\(aJ (!((z2.2.2.2.2.1)==((Int.tmod (aG (z4+1)) (3:Int))==0))) (K (Yc (-1:Int))) (((0<=i/\Int.toNat i<a.length)/\(Q4 (α:=List QD) (z2.2.2.2.2.2.1) (aG ((aG (z4+1))+1))))/\(aJ (decide (z5<0)) (K (Yc (-1:Int))) (((0<=i/\Int.toNat i<a.length)/\(Q4 (α:=List (List Int)) (z2.2.2.2.2.2.2.1) z5))/\(aJ (decide (z9<0)) (K (Yc (-1:Int))) (((0<=i/\Int.toNat i<a.length)/\(Q4 (α:=List Int) (z2.2.2.2.2.2.2.2.1) z9))/\(aJ (decide (z1<0)) (K (Yc (-1:Int))) (((0<=i/\Int.toNat i<a.length)/\(Q4 (α:=List Int) (z2.2.2.2.2.2.2.2.2.1) z1))/\(aJ (decide (eY<0)) (K (Yc (-1:Int))) (((0<=i/\Int.toNat i<a.length)/\(Q4 (α:=List Int) (z2.2.2.2.2.2.2.2.2.2.1) eY))/\(aJ (decide (z6<0)) (K (Yc (-1:Int))) (((0<=i/\Int.toNat i<a.length)/\(Q4 (α:=List Int) (z2.2.2.2.2.2.2.2.2.2.2.1) z6))/\(aJ (decide (z3<0)) (K (Yc (-1:Int))) (((0<=i/\Int.toNat i<a.length)/\(Q4 (α:=List (List Int)) (z2.2.2.2.2.2.2.2.2.2.2.2.1) z3))/\(aJ (decide (z7<0)) (K (Yc (-1:Int))) ((0<=i/\Int.toNat i<a.length)/\(aJ ((z2.2.2.2.2.2.2.2.2.2.2.2.2.1) != z7) (K (Yc (-1:Int))) (((0<=i/\Int.toNat i<a.length)/\(¬ ((3:Int):Int)=0))/\(aJ (!((z2.2.2.2.2.2.2.2.2.2.2.2.2.2)==((Int.tmod (aG (z7+1)) (3:Int))==0))) (K (Yc (-1:Int))) (DN K a (aG ((aG (z7+1))+1)) (aG (i+1))))))))))))))))))))))))))))))) (K (Yc k1)))):DN K a k1 i :=
 Loop.of h
theorem QPs(a:List Qc)(k:Int)(hp:Q4 (α:=List Qc) a k):aK Tryz.prog 137 [(.c (.sl Qe) a),(.c TI k)] (Yc (aS (α:=List Qc) a k)):=by
 refine bw N5 QOC Qtj 0 0 148 N4 (kc QMS (kc QIe (kc QJh (kc Qva (kc y7 kn))))) (λK =>
 (DN K a k 0)) (λhb=>?_)
 have fg:a.length<=9223372036854775807:=hb.1.1;refine J8 (A:=λkk ii=>DN (λr'=>r'=Yc (aS (α:=List Qc) a k)) a kk ii) (Q:=λz=>Yc z=Yc (aS (α:=List Qc) a k)) a k hp ?_ ?_ rfl
 ·intro kk pre post x ha fR cn dk;have aU:pre.length<a.length:=by rw[ha];simp
  have hg:∀ d,aq d a pre.length=x:=λd=>by rw[ha];exact Ye d pre post x
  have hw:aG (((pre.length:Nat):Int)+1)=((pre.length+1:Nat):Int):=by rw[QG (by omega) (by omega)];omega
  refine Qxp _ _ _ _ ?_
  conv=>zeta
  refine⟨λ_=>?_,λh=>absurd h (by simp;omega)⟩;simp only[Int.toNat_natCast,hg,hw,aU,Ym,and_true,true_and,Int.natCast_nonneg];have gI:=(Ze fR).1;have fN:=(Ze fR).2;have eT:=(Ze fN).1;have iL:=(Ze fN).2;have fh:=(Ze iL).1;have gj:=(Ze iL).2;have hp3:=(Ze gj).1;have wP:=(Ze gj).2;have hp4:=(Ze wP).1;have N6:=(Ze wP).2;have N7:=(Ze N6).1;have N8:=(Ze N6).2;have N9:=(Ze N8).1;have Oa:=(Ze N8).2;have Ob:=(Ze Oa).1;have Oc:=(Ze Oa).2;have Od:=(Ze Oc).1;have Oe:=(Ze Oc).2;have Of:=(Ze Oe).1;have Og:=(Ze Oe).2;have sM:=(Ze Og).1;have sN:=(Ze Og).2;have sO:=(Ze sN).1;have sP:=(Ze sN).2;have Oh:=(Ze sP).1;have Oi:=(Ze sP).2;simp only[o6,o7,o8,Prod.ext_iff]at cn dk gI fN eT iL fh gj hp3 wP hp4 N6 N7 N8 N9 Oa Ob Oc Od Oe Of Og sM sN sO sP Oh Oi;refine⟨λh=>cn (λe=>YV h (e.1).symm),λh0=>?_⟩;have e0:=(Y1 h0).symm;refine⟨eT,λh=>cn (λe=>Z3 eT (of_decide_eq_true h) (e.2.1)),λh1=>?_⟩;obtain⟨e1,h1⟩:=Yf (of_decide_eq_false h1);rw[h1];refine⟨fh,λh=>cn (λe=>Z3 fh (of_decide_eq_true h) (e.2.2.1)),λh2=>?_⟩;obtain⟨e2,h2⟩:=Yf (of_decide_eq_false h2);rw[h2];refine⟨λh=>cn (λe=>YV h (e.2.2.2.1).symm),λh3=>?_⟩;have e3:=(Y1 h3).symm;refine⟨λh=>cn (λe=>YV h (e.2.2.2.2.1).symm),λh4=>?_⟩;have e4:=(Y1 h4).symm;refine⟨N7,λh=>cn (λe=>Z3 N7 (of_decide_eq_true h) (e.2.2.2.2.2.1)),λh5=>?_⟩;obtain⟨e5,h5⟩:=Yf (of_decide_eq_false h5);rw[h5];refine⟨N9,λh=>cn (λe=>Z3 N9 (of_decide_eq_true h) (e.2.2.2.2.2.2.1)),λh6=>?_⟩;obtain⟨e6,h6⟩:=Yf (of_decide_eq_false h6);rw[h6];refine⟨Ob,λh=>cn (λe=>Z3 Ob (of_decide_eq_true h) (e.2.2.2.2.2.2.2.1)),λh7=>?_⟩;obtain⟨e7,h7⟩:=Yf (of_decide_eq_false h7);rw[h7];refine⟨Od,λh=>cn (λe=>Z3 Od (of_decide_eq_true h) (e.2.2.2.2.2.2.2.2.1)),λh8=>?_⟩;obtain⟨e8,h8⟩:=Yf (of_decide_eq_false h8);rw[h8];refine⟨Of,λh=>cn (λe=>Z3 Of (of_decide_eq_true h) (e.2.2.2.2.2.2.2.2.2.1)),λh9=>?_⟩;obtain⟨e9,h9⟩:=Yf (of_decide_eq_false h9);rw[h9];refine⟨sM,λh=>cn (λe=>Z3 sM (of_decide_eq_true h) (e.2.2.2.2.2.2.2.2.2.2.1)),λnk=>?_⟩;obtain⟨e10,nk⟩:=Yf (of_decide_eq_false nk);rw[nk];refine⟨sO,λh=>cn (λe=>Z3 sO (of_decide_eq_true h) (e.2.2.2.2.2.2.2.2.2.2.2.1)),λxH=>?_⟩;obtain⟨e11,xH⟩:=Yf (of_decide_eq_false xH);rw[xH];refine⟨λh=>cn (λe=>YV h (e.2.2.2.2.2.2.2.2.2.2.2.2.1).symm),λh12=>?_⟩;have e12:=(Y1 h12).symm;refine⟨λh=>cn (λe=>YV h (e.2.2.2.2.2.2.2.2.2.2.2.2.2).symm),λh13=>?_⟩;have e13:=(Y1 h13).symm;exact dk ⟨e0,e1,e2,e3,e4,e5,e6,e7,e8,e9,e10,e11,e12,e13⟩
 ·intro kk hq;refine Qxp _ _ _ _ ?_
  conv=>zeta
  exact⟨λh=>absurd h (by simp),λ_=>hq⟩
theorem QHi:Qf Tryz.prog N4:=Qi λx h=>QPs x.1 x.2.1 h
def Oj(t:Int × Qk):aB:=⟨(aL t.1),[],[],true,[(.sl 0 QF (.dp 0 false []) t.2.1),(.sl 0 Qe (.dp 0 false []) t.2.2.1),(.sl 0 Qh (.dp 0 false []) t.2.2.2.1),(.sl 0 Qh (.dp 0 false []) t.2.2.2.2)]⟩
def Ol:aI:=Qg 25 [(.s QM),(.c TI)] λx=>(none,Oj (ZT (α:=Qk) x.1 x.2.1))
def QJs:aF:=⟨[NQ,N2,NY],true⟩
def QNt:af :=
 (ag [(.ae [aC 2 (.box 56 0 4),ab 4 (ar 0)]),(.ae [ak 5 2 0,an 6 5 1,ab 7 1,aD 8 42 [6,7],ab 1 8]),(.ae [ak 9 2 1,an 10 9 1,ab 11 1,aD 12 95 [10,11],ab 1 12]),(.ae [ak 13 2 2,an 14 13 1,ab 15 1,aD 16 96 [14,15],ab 1 16]),(.ae [ak 17 2 3,an 18 17 1,ab 19 1,aD 20 96 [18,19],ab 1 20]),(.ae [ab 21 1,ab 4 21]),.ret])
def QWR:List (bm × Md):=[(.t 4,.one .d)]
theorem QYi(a:Qk)(k:Int):aK Tryz.prog 25 [(.a [(.ow 0 QF dw a.1),(.ow 0 Qe dw a.2.1),(.ow 0 Qh dw a.2.2.1),(.ow 0 Qh dw a.2.2.2)]),(.c TI k)] (Oj (ZT (α:=Qk) a k)):=by
 refine bw QJs QNt QWR 0 4 22 Ol (kc QOj (kc QMD (kc QIt kn))) (λK =>
 (((a.1).length=(a.1).length)/\(((a.2.1).length=(a.2.1).length)/\(((a.2.2.1).length=(a.2.2.1).length)/\(((a.2.2.2).length=(a.2.2.2).length)/\K (Oj ((QP (α:=List Qd) a.2.2.2 ((QP (α:=List Qd) a.2.2.1 ((QP (α:=List Qc) a.2.1 ((QP (α:=List Qo) a.1 k).1)).1)).1)).1,((QP (α:=List Qo) a.1 k).2,(QP (α:=List Qc) a.2.1 ((QP (α:=List Qo) a.1 k).1)).2,(QP (α:=List Qd) a.2.2.1 ((QP (α:=List Qc) a.2.1 ((QP (α:=List Qo) a.1 k).1)).1)).2,(QP (α:=List Qd) a.2.2.2 ((QP (α:=List Qd) a.2.2.1 ((QP (α:=List Qc) a.2.1 ((QP (α:=List Qo) a.1 k).1)).1)).1)).2)))))))) (λhb=>?_)
 have sQ:(a.1).length<=9223372036854775807:=hb.1.1.1;have sR:(a.2.1).length<=9223372036854775807:=hb.1.2.1.1;have sS:(a.2.2.1).length<=9223372036854775807:=hb.1.2.2.1.1;have sT:(a.2.2.2).length<=9223372036854775807:=hb.1.2.2.2.1.1;repeat' apply And.intro
 all_goals first | rfl | exact au rfl
theorem QHB:Qf Tryz.prog Ol:=Qi λx _=>QYi x.1 x.2.1
def sU(t:Int):aB:=b7 (aL t)
def Om:aI:=Qg 43 [(.a QM),(.c TI)] λx=>(some (Jg (α:=Qk) x.1 x.2.1),sU (eg (α:=Qk) x.1 x.2.1))
def QWL:aF:=⟨[NS,N4,N0],false⟩
def QH0:af :=
 (ag [(.ae [aC 2 (.box 56 0 4),ab 4 (ar 0)]),(.ae [ak 5 2 0,an 6 5 1,ab 7 1,aD 8 136 [6,7],ab 1 8]),(ag [(.ae [ab 9 1,aw 10 .lss 9 (ar 0)]),(.cond 10 (ag [(.ae [ab 4 (ar (-1))]),.ret]) .skip)]),(.ae [ak 11 2 1,an 12 11 1,ab 13 1,aD 14 137 [12,13],ab 1 14]),(ag [(.ae [ab 15 1,aw 16 .lss 15 (ar 0)]),(.cond 16 (ag [(.ae [ab 4 (ar (-1))]),.ret]) .skip)]),(.ae [ak 17 2 2,an 18 17 1,ab 19 1,aD 20 138 [18,19],ab 1 20]),(ag [(.ae [ab 21 1,aw 22 .lss 21 (ar 0)]),(.cond 22 (ag [(.ae [ab 4 (ar (-1))]),.ret]) .skip)]),(.ae [ak 23 2 3,an 24 23 1,ab 25 1,aD 26 138 [24,25],ab 1 26]),(ag [(.ae [ab 27 1,aw 28 .lss 27 (ar 0)]),(.cond 28 (ag [(.ae [ab 4 (ar (-1))]),.ret]) .skip)]),(.ae [ab 29 1,ab 4 29]),.ret])
def QOU:List (bm × Md):=[(.t 4,.one .d)]
theorem QF5(a:Qk)(k:Int)(hp:Jg (α:=Qk) a k):aK Tryz.prog 43 [(.a (aR.cells QM a)),(.c TI k)] (sU (eg (α:=Qk) a k)):=by
 refine bw QWL QH0 QOU 0 0 30 Om (kc QYy (kc QHi (kc QWM kn))) (λK =>
 let z3:=aS (α:=List Qo) a.1 k
 let z1:=aS (α:=List Qc) a.2.1 z3
 let z2:=aS (α:=List Qd) a.2.2.1 z1
 ((Q4 (α:=List Qo) a.1 k)/\(aJ (decide (z3<0)) (K (sU (-1:Int))) ((Q4 (α:=List Qc) a.2.1 z3)/\(aJ (decide (z1<0)) (K (sU (-1:Int))) ((Q4 (α:=List Qd) a.2.2.1 z1)/\(aJ (decide (z2<0)) (K (sU (-1:Int))) ((Q4 (α:=List Qd) a.2.2.2 z2)/\(aJ (decide ((aS (α:=List Qd) a.2.2.2 z2)<0)) (K (sU (-1:Int))) (K (sU (aS (α:=List Qd) a.2.2.2 z2)))))))))))) (λhb=>?_)
 have sQ:(a.1).length<=9223372036854775807:=hb.1.1.1;have sR:(a.2.1).length<=9223372036854775807:=hb.1.2.1.1;have sS:(a.2.2.1).length<=9223372036854775807:=hb.1.2.2.1.1;have sT:(a.2.2.2).length<=9223372036854775807:=hb.1.2.2.2.1.1
 conv=>zeta
 have gI:=(tR hp).1;have fN:=(tR hp).2;have eT:=(tR fN).1;have iL:=(tR fN).2;have fh:=(tR iL).1;have gj:=(tR iL).2;simp only[QOe,QUT,QPz,QQL]at gI fN eT iL fh gj;refine⟨(o9 gI),λh=>au (AH (λe=>Z3 (o9 gI) (of_decide_eq_true h) (congrArg (λz=>z.1) e))).symm,λg0=>?_⟩;obtain⟨e0,h0⟩:=Yf (of_decide_eq_false g0);rw[h0];refine⟨(o9 eT),λh=>au (AH (λe=>Z3 (o9 eT) (of_decide_eq_true h) (congrArg (λz=>z.2.1) e))).symm,λg1=>?_⟩;obtain⟨e1,h1⟩:=Yf (of_decide_eq_false g1);rw[h1];refine⟨(o9 fh),λh=>au (AH (λe=>Z3 (o9 fh) (of_decide_eq_true h) (congrArg (λz=>z.2.2.1) e))).symm,λg2=>?_⟩;obtain⟨e2,h2⟩:=Yf (of_decide_eq_false g2);rw[h2];refine⟨(o9 gj),λh=>au (AH (λe=>Z3 (o9 gj) (of_decide_eq_true h) (congrArg (λz=>z.2.2.2) e))).symm,λg3=>?_⟩;obtain⟨e3,h3⟩:=Yf (of_decide_eq_false g3);rw[h3];exact au (TC (x:=a) (k:=k) (Prod.ext e0 (Prod.ext e1 (Prod.ext e2 e3)))).symm
theorem QHe:Qf Tryz.prog Om:=Qi λx h=>QF5 x.1 x.2.1 h
end
end Go.Proofs.YtdplaepmjogjjaaGreat.Am

namespace Go.Proofs.YtdplaepmjogjjaaGreat.Am
open Go Go.RowKit Go.Proofs.YtdplaepmjogjjaaGreat
set_option linter.all false
set_option maxHeartbeats 2000000
noncomputable section
variable (K:aB->Prop)
def YS(t:Bool):aB:=b7 (bE t)
def QXn:aI:=Qg 11 [(.a QM),(.c (.sl [TI]))] λx=>(none,YS (Gi x.1 x.2.1))
def QHl:aF:=⟨[Iz,IB,pb,Nx,Nv,IC,pc,Ol,pN,Om],false⟩
def QUS:af :=
 (ag [(.ae [aC 2 (.box 49 0 4),ab 4 (a0 false)]),(ag [(.ae [ab 14 1,a9 15 14,aw 16 .gtr 15 (ar 1048576)]),(.cond 16 (ag [(.ae [ab 4 (a0 true)]),.ret]) .skip)]),(.ae [ab 5 (ar 1048576)]),(.ae [a7 17 2 4,ab 18 5,aD 19 19 [17,18],ab 5 19]),(ag [(.ae [ab 20 5,aw 21 .lss 20 (ar 0)]),(.cond 21 (ag [(.ae [ab 4 (a0 true)]),.ret]) .skip)]),(.ae [a7 22 2 4,aD 23 21 [22],ab 24 1,aD 25 29 [24],aD 26 53 [23,25],aC 6 (.new 56 (bG QM)),aT 6 26 4]),(.ae [a7 27 2 4,aD 28 21 [27],aC 7 (.new 56 (bG QM)),aT 7 28 4]),(.ae [ab 29 1,aD 30 29 [29],ab 8 30]),(.ae [a7 31 7 4,ab 32 8,aD 33 54 [31,32],aC 9 (.new 56 (bG QM)),aT 9 33 4]),(ag [(.ae [a7 34 9 4,a7 35 6 4,aD 36 24 [34,35],bL 37 36]),(.cond 37 (ag [(.ae [ab 4 (a0 false)]),.ret]) .skip)]),(ag [(.draw [a7 38 7 4,a7 39 2 4,aD 40 21 [39],aD 41 24 [38,40],bL 42 41] [(0,2)]),(.cond 42 (ag [(.ae [ab 4 (a0 false)]),.ret]) .skip)]),(ag [(.ae [ab 43 8,ab 44 1,aD 45 29 [44],aD 46 23 [43,45],bL 47 46]),(.cond 47 (ag [(.ae [ab 4 (a0 false)]),.ret]) .skip)]),(.ae [ab 10 (ar 1)]),(.ae [a7 48 7 4,ab 49 10,aD 50 25 [48,49],ab 10 50]),(.ae [ab 51 8,ab 52 10,aD 53 26 [51,52],ab 10 53]),(ag [(.ae [ab 54 10,aw 55 .lss 54 (ar 0),ab 56 55,.bt 56 false [a7 57 9 4,a7 58 6 4,aD 59 24 [57,58],bL 60 59] 61 60]),(.cond 61 (ag [(.ae [ab 4 (a0 false)]),.ret]) .skip)]),(.ae [ab 11 (ar 1)]),(.ae [a7 62 9 4,ab 63 11,aD 64 25 [62,63],ab 11 64]),(.ae [ab 12 (ar 1)]),(.ae [a7 65 9 4,ab 66 12,aD 67 43 [65,66],ab 12 67]),(ag [(.ae [ab 68 12,aw 69 .lss 68 (ar 0)]),(.cond 69 (ag [(.ae [ab 4 (a0 false)]),.ret]) .skip)]),(ag [(.ae [ab 70 12,ab 71 11,aw 72 .neq 70 71]),(.cond 72 (ag [(.ae [ab 4 (a0 false)]),.ret]) .skip)]),(.ae [a7 73 2 4,aD 74 21 [73],ab 75 1,aD 76 29 [75],aD 77 54 [74,76],aC 13 (.new 56 (bG QM)),aT 13 77 4]),(ag [(.ae [a7 78 13 4,a7 79 6 4,aD 80 24 [78,79],bL 81 80]),(.cond 81 (ag [(.ae [ab 4 (a0 false)]),.ret]) .skip)]),(.ae [ab 12 (ar 1)]),(.ae [a7 82 9 4,ab 83 12,aD 84 43 [82,83],ab 12 84]),(ag [(.ae [ab 85 12,aw 86 .lss 85 (ar 0)]),(.cond 86 (ag [(.ae [ab 4 (a0 false)]),.ret]) .skip)]),(ag [(.ae [ab 87 12,ab 88 11,aw 89 .neq 87 88]),(.cond 89 (ag [(.ae [ab 4 (a0 false)]),.ret]) .skip)]),(.ae [ab 4 (a0 true)]),.ret])
def QO0:List (bm × Md):=[(.t 4,.one .d)]
theorem gY(aP:Qk)(b4:List Int):aK Tryz.prog 11 [(.a (aR.cells QM aP)),(.c (.sl [TI]) b4)] (YS (Gi aP b4)):=by
 refine bw QHl QUS QO0 0 0 90 QXn (kc QXc (kc QLy (kc tU (kc QOG (kc QYL (kc QWy (kc tX (kc QHB (kc uV (kc QHe kn)))))))))) (λK =>
 let z3:=id (α:=Qk) aP
 let z9:=List.take ((z3.2.2.1).length) (List.drop 0 (z3.2.2.1))
 let eY:=List.take ((z3.2.2.2).length) (List.drop 0 (z3.2.2.2))
 let eX:=List.take ((z3.2.1).length) (List.drop 0 (z3.2.1))
 let dR:=List.take ((z3.1).length) (List.drop 0 (z3.1))
 let fS:=id (α:=List Int) b4
 let z7:=List.take (fS.length) (List.drop 0 fS)
 let z1:=ZK (dR,eX,z9,eY) z7
 let z4:=sB (dR,eX,z9,eY) z7
 let z5:=aX (α:=Qk) ((List.take ((z1.1).length) (List.drop 0 (z1.1))),(List.take ((z1.2.1).length) (List.drop 0 (z1.2.1))),(List.take ((z1.2.2.1).length) (List.drop 0 (z1.2.2.1))),(List.take ((z1.2.2.2).length) (List.drop 0 (z1.2.2.2)))) z1
 let z6:=ZT (α:=Qk) z1 (1:Int)
 let f4:=bA (α:=List Int) b4
 let gz:=bA (α:=Qk) aP
 let gV:=List.take ((z1.2.2.1).length) (List.drop 0 ((z6.2).2.2.1))
 let kU:=List.take ((z1.2.2.2).length) (List.drop 0 ((z6.2).2.2.2))
 let kV:=List.take ((z1.2.1).length) (List.drop 0 ((z6.2).2.1))
 let kW:=List.take ((z1.1).length) (List.drop 0 ((z6.2).1))
 let z2:=eg (α:=Qk) (kW,kV,gV,kU) (1:Int)
 let z8:=Jg (α:=Qk) (kW,kV,gV,kU) (1:Int)
 (aJ (decide ((b4.length:Int)>(1048576:Int))) (K (YS true)) ((bJ (α:=Qk) aP (1048576:Int))/\(aJ (decide ((bg (α:=Qk) aP (1048576:Int))<(0:Int))) (K (YS true)) ((gz/\(f4/\z4))/\(gz/\(f4/\(z4/\(aJ (!z5) (K (YS false)) (gz/\(aJ (!(aX (α:=Qk) (dR,eX,z9,eY) (dR,eX,z9,eY))) (K (YS false)) (f4/\(aJ (!(aX (α:=List Int) z7 z7)) (K (YS false)) ((((z3.1).length=(z3.1).length)/\(((z3.2.1).length=(z3.2.1).length)/\(((z3.2.2.1).length=(z3.2.2.1).length)/\((z3.2.2.2).length=(z3.2.2.2).length))))/\((fS.length=fS.length)/\(aJ ((decide (((QP (α:=List Int) fS ((ZT (α:=Qk) z3 (1:Int)).1)).1)<(0:Int)))||(!z5)) (K (YS false)) ((((z1.1).length=(z1.1).length)/\(((z1.2.1).length=(z1.2.1).length)/\(((z1.2.2.1).length=(z1.2.2.1).length)/\((z1.2.2.2).length=(z1.2.2.2).length))))/\(z8/\(aJ (decide (z2<(0:Int))) (K (YS false)) (aJ (z2 != (z6.1)) (K (YS false)) ((gz/\(f4/\z4))/\(aJ (!z5) (K (YS false)) (z8/\(aJ (decide (z2<(0:Int))) (K (YS false)) (aJ (z2 != (z6.1)) (K (YS false)) (K (YS true))))))))))))))))))))))))))) (λhb=>?_)
 refine⟨λ_=>rfl,λme=>?_⟩;have jl:=QOZ (of_decide_eq_false me);refine⟨Gk,λ_=>rfl,λOn=>?_⟩;have sV:=QRx (of_decide_eq_false On) (Int.le_refl _);have s1:Sz.sz aP<=1048576:=sV;have hl:sB aP b4:=by unfold sB;omega
 have iN:Sz.sz (ZK aP b4)<=4294967296:=by have:=QYd aP b4;omega
 have ka0:=TH (x:=aP) (k:=(1:Int)) (b:=1) (c:=1048576) ⟨by omega,by omega⟩ (TG aP) (show Sz.sz aP<=1048576 from sV) (by omega);have ka1:=QQI (x:=b4) (k:=(ZT aP (1:Int)).1) (b:=16777217) (c:=1048576) ⟨ka0.2.1,by have:=ka0.2.2;omega⟩ (JY b4) (show Sz.sz b4<=1048576 from jl) (by omega);have kn:¬ ((QP b4 (ZT aP (1:Int)).1).1<0):=by have:=ka1.2.1;omega
 have kr0:=TH (x:=(ZK aP b4)) (k:=(1:Int)) (b:=1) (c:=4294967296) ⟨by omega,by omega⟩ (TG _) iN (by omega);obtain⟨kp0,kh0⟩:=QS2 kr0.1;have kn0:¬ ((ZT (ZK aP b4) (1:Int)).1<0):=by have:=kr0.2.1;omega
 have y9:List.take ((ZK aP b4).1).length ((ZT (ZK aP b4) (1:Int)).2.1)=(ZT (ZK aP b4) (1:Int)).2.1:=AF _ _;have za:List.take ((ZK aP b4).2.1).length ((ZT (ZK aP b4) (1:Int)).2.2.1)=(ZT (ZK aP b4) (1:Int)).2.2.1:=AF _ _;have zb:List.take ((ZK aP b4).2.2.1).length ((ZT (ZK aP b4) (1:Int)).2.2.2.1)=(ZT (ZK aP b4) (1:Int)).2.2.2.1:=AF _ _;have zc:List.take ((ZK aP b4).2.2.2).length ((ZT (ZK aP b4) (1:Int)).2.2.2.2)=(ZT (ZK aP b4) (1:Int)).2.2.2.2:=AF _ _;simp only[id_eq,List.drop_zero,List.take_length,Prod.eta];simp[aJ,aX,QIl,Gi,QYM,QFX,QVt,jl,sV,kn,kp0,kh0,kn0,y9,za,zb,zc,hl]
end
end Go.Proofs.YtdplaepmjogjjaaGreat.Am

