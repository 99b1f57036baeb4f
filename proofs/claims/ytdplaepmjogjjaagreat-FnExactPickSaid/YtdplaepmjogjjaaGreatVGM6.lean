/-
  Written by program: the code of functions, what it asks, and that it comes to what the models say.
-/
import Derived.Test.YtdplaepmjogjjaaGreatVGM5
namespace Go.Proofs.YtdplaepmjogjjaaGreat.Am
open Go Go.RowKit Go.Proofs.YtdplaepmjogjjaaGreat
set_option linter.all false
noncomputable section
variable (K:aB->Prop)
def CX(t:bt):aB:=b6 (.a [(aL t.1),(aL t.2)])
def CY:aJ:=Qg 144 [(.a QR),(.c TI)] λx=>(none,CX (Qk x.1 x.2.1))
def QQy:aF:=⟨[Y1],false⟩
def QWm:af :=
 (ag [(.ae [aC 2 (.box 56 0 4),aC 4 (.new 175 (bG QO))]),(ag [(.draw [ab 5 1,ak 6 2 1,an 7 6 1,ba 8 7,aw 9 .sub 8 (ar 1),aD 10 158 [5,(ar 0),9],bL 11 10,ab 12 11,.bw 12 false [ak 13 2 1,an 14 13 1,ab 15 1,aZ 16 14 15 Qe,ak 17 16 0,an 18 17 1,ak 19 2 1,an 20 19 1,ab 21 1,aZ 22 20 21 Qe,ak 23 22 1,an 24 23 1,ba 25 24,aw 26 .sub 25 (ar 1),aD 27 158 [18,(ar 0),26],bL 28 27] 29 28] []),(.cond 29 (ag [(.ae [aC 30 (.build (bG QO) []),aV 4 30 2]),.ret]) .skip)]),(.draw [ak 31 2 1,an 32 31 1,ab 33 1,aZ 34 32 33 Qe,ak 35 34 1,an 36 35 1,ak 37 2 1,an 38 37 1,ab 39 1,aZ 40 38 39 Qe,ak 41 40 0,an 42 41 1,aZ 43 36 42 QO,a9 44 43 2,aV 4 44 2] []),.ret])
def QLp:List (bn × Md):=[(.l 4 2 true,.b [.d,.d])]
theorem QJo(p:Qm)(s:Int):aK Tryz.prog 144 [(.a (aT.cells QR p)),(.c TI s)] (CX (Qk p s)):=by
 refine bz QQy QWm QLp 0 0 45 CY (kc Jg kn) (λK =>
 (((!(!(bj s (0:Int) (aG (((p.2.1).length:Int)-1)))))=true->((0<=s/\Int.toNat s<(p.2.1).length)/\(0<=s/\Int.toNat s<(p.2.1).length)))/\(aI ((!(bj s (0:Int) (aG (((p.2.1).length:Int)-1))))||(!(bj ((aq Qy p.2.1 (Int.toNat s)).1) (0:Int) (aG ((((aq Qy p.2.1 (Int.toNat s)).2.1).length:Int)-1))))) (K (CX ((0:Int),(0:Int)))) (((0<=s/\Int.toNat s<(p.2.1).length)/\((0<=s/\Int.toNat s<(p.2.1).length)/\((0:Int)<=(aq Qy p.2.1 (Int.toNat s)).1/\Int.toNat ((aq Qy p.2.1 (Int.toNat s)).1)<((aq Qy p.2.1 (Int.toNat s)).2.1).length)))/\K (CX (aq eF ((aq Qy p.2.1 (Int.toNat s)).2.1) (Int.toNat ((aq Qy p.2.1 (Int.toNat s)).1)))))))) (λhb=>?_)
 have fY:(p.1).length<=9223372036854775807:=hb.1.1.1;have fA:(p.2.1).length<=9223372036854775807:=hb.1.2.1.1;have gX:(p.2.2.1).length<=9223372036854775807:=hb.1.2.2.1.1;have gY:(p.2.2.2).length<=9223372036854775807:=hb.1.2.2.2.1.1;have e1:aG ((p.2.1.length:Int)-1)=p.2.1.length-1:=QF (by omega) (by omega);rw[e1];by_cases h0:bj s 0 (p.2.1.length-1)=true
 ·have h1:=Za.1 h0;have aW:s.toNat<p.2.1.length:=by omega
  have dE:=JA aW Qy;have jU:(aq Qy p.2.1 s.toNat).2.1.length<=9223372036854775807:=(hb.1.2.1.2 _ dE).2.1.1;rw[QF (x:=((aq Qy p.2.1 s.toNat).2.1.length:Int)-1) (by omega) (by omega)];refine⟨λ_=>⟨⟨h1.1,aW⟩,h1.1,aW⟩,λh=>au ?_,λh=>⟨⟨⟨h1.1,aW⟩,⟨h1.1,aW⟩,?_⟩,au ?_⟩⟩
  ·simp[h0]at h;simp[Qk,h0,rh,h]
  ·simp[h0]at h;have:=Za.1 h;omega
  ·simp[h0]at h;simp[Qk,h0,rh,h]
 ·refine⟨λh=>by simp[h0]at h,λh=>au ?_,λh=>by simp[h0]at h⟩;simp[Qk,h0]
theorem Qx3:Qf Tryz.prog CY:=Qh λx _=>QJo x.1 x.2.1
def yJ(t:bt):aB:=b6 (.a [(aL t.1),(aL t.2)])
def CZ:aJ:=Qg 148 [(.a QR),(.c TI)] λx=>(none,yJ (Qk x.1 x.2.1))
def QFj:aF:=⟨[],false⟩
def QIs:af :=
 (ag [(.ae [aC 2 (.box 56 0 4),aC 4 (.new 175 (bG QO))]),(ag [(.ae [ab 6 1,aw 7 .lss 6 (ar 0),ab 8 7,.bw 8 false [ab 9 1,ak 10 2 1,an 11 10 1,ba 12 11,aw 13 .geq 9 12] 14 13]),(.cond 14 (ag [(.ae [aC 15 (.build (bG QO) []),aV 4 15 2]),.ret]) .skip)]),(.ae [ak 16 2 1,an 17 16 1,ab 18 1,aZ 19 17 18 Qe,a9 20 19 14,aC 5 (.new 39 (bG Qe)),aV 5 20 14]),(ag [(.ae [ak 21 5 0,an 22 21 1,aw 23 .lss 22 (ar 0),ab 24 23,.bw 24 false [ak 25 5 0,an 26 25 1,ak 27 5 1,an 28 27 1,ba 29 28,aw 30 .geq 26 29] 31 30]),(.cond 31 (ag [(.ae [aC 32 (.build (bG QO) []),aV 4 32 2]),.ret]) .skip)]),(.ae [ak 33 5 1,an 34 33 1,ak 35 5 0,an 36 35 1,aZ 37 34 36 QO,a9 38 37 2,aV 4 38 2]),.ret])
def QMq:List (bn × Md):=[(.l 4 2 true,.b [.d,.d])]
theorem QXL(p:Qm)(s:Int):aK Tryz.prog 148 [(.a (aT.cells QR p)),(.c TI s)] (yJ (Qk p s)):=by
 refine bz QFj QIs QMq 0 0 39 CZ kn (λK =>
 (aI ((decide (s<0))||(decide (s>=((p.2.1).length:Int)))) (K (yJ ((0:Int),(0:Int)))) ((0<=s/\Int.toNat s<(p.2.1).length)/\(aI ((decide (((aq Qy p.2.1 (Int.toNat s)).1)<0))||(decide (((aq Qy p.2.1 (Int.toNat s)).1)>=(((aq Qy p.2.1 (Int.toNat s)).2.1).length:Int)))) (K (yJ ((0:Int),(0:Int)))) (((0:Int)<=(aq Qy p.2.1 (Int.toNat s)).1/\Int.toNat ((aq Qy p.2.1 (Int.toNat s)).1)<((aq Qy p.2.1 (Int.toNat s)).2.1).length)/\K (yJ (aq eF ((aq Qy p.2.1 (Int.toNat s)).2.1) (Int.toNat ((aq Qy p.2.1 (Int.toNat s)).1))))))))) (λhb=>?_)
 refine⟨λh=>au ?_,λh=>?_⟩
 ·have h0:bj s 0 (p.2.1.length-1)=false:=by simp at h;simp[bj];omega
  simp[Qk,h0]
 have h0:bj s 0 (p.2.1.length-1)=true:=by simp at h;simp[bj];omega
 have h1:=Za.1 h0;have aW:s.toNat<p.2.1.length:=by omega
 refine⟨⟨h1.1,aW⟩,λh=>au ?_,λh=>?_⟩
 ·have h2:bj (aq Qy p.2.1 s.toNat).1 0 ((aq Qy p.2.1 s.toNat).2.1.length-1)=false:=by simp at h;simp[bj];omega
  simp[Qk,h0,rh,h2]
 ·have h2:bj (aq Qy p.2.1 s.toNat).1 0 ((aq Qy p.2.1 s.toNat).2.1.length-1)=true:=by simp at h;simp[bj];omega
  have h3:=Za.1 h2;refine⟨⟨h3.1,by omega⟩,au ?_⟩;simp[Qk,h0,rh,h2]
theorem QuF:Qf Tryz.prog CZ:=Qh λx _=>QXL x.1 x.2.1
def yK(t:Bool):aB:=b6 (bE t)
def M4:aJ:=Qg 177 [(.a QR)] λx=>(none,yK (oT x.1))
def M5:aF:=⟨[],false⟩
def Qsz:af :=
 (ag [(ag [(.ae [ab 4 3,ak 5 1 1,an 6 5 1,ba 7 6,aw 8 .lss 4 7]),(.cond 8 .skip (.exit 0))]),(.block 1 (ag [(.draw [ak 11 1 1,an 12 11 1,ab 13 3,aZ 14 12 13 Qe,ak 15 14 0,an 16 15 1,ak 17 1 1,an 18 17 1,ab 19 3,aZ 20 18 19 Qe,ak 21 20 1,an 22 21 1,ba 23 22,aw 24 .sub 23 (ar 1),aw 25 .lss 16 24] []),(.cond 25 (ag [(.ae [ab 2 (a6 false)]),.ret]) .skip)])),(.ae [ab 9 3,aw 10 .add 9 (ar 1),ab 3 10])])
def QwE:List (Nat × Md):=[(1,.b (dO 4)),(3,.one .d)]
def Qug:af :=
 (ag [(.ae [ab 2 (a6 true)]),.ret])
def QMV:af :=
 (ag [(.ae [aC 1 (.box 56 0 4),ab 2 (a6 false)]),(ag [(.ae [ab 3 (ar 0)]),(.block 0 (.loop QwE Qsz))]),Qug])
def QCg:List (bn × Md):=[(.t 2,.one .d)]
def Qyt:Qb:=TQ 0 0 QCg K
def QLI:Qb:=a0 (aN M5 0 Qug (Qyt K)) (Qyt K)
def QTh:Qb:=a7 0 (QLI K)
def C0(p:Qm)(s:Int):Prop:=Loop M5 0 QwE Qsz (QTh K) ⟨[(1,(.p 0 0 0)),(3,(aL s))],[(0,(.box (aT.cells QR p)))],1⟩
theorem QCb(p:Qm)(s:Int) (h :
 (aI (decide (s<((p.2.1).length:Int))) (((0<=s/\Int.toNat s<(p.2.1).length)/\(0<=s/\Int.toNat s<(p.2.1).length))/\(aI (decide (((aq Qy p.2.1 (Int.toNat s)).1)<(aG ((((aq Qy p.2.1 (Int.toNat s)).2.1).length:Int)-1)))) (K (yK false)) (C0 K p (aG (s+1))))) (K (yK true)))):C0 K p s :=
 Loop.of h
theorem QXB(p:Qm):aK Tryz.prog 177 [(.a (aT.cells QR p))] (yK (oT p)):=by
 refine bz M5 QMV QCg 0 0 26 M4 kn (λK =>
 (C0 K p 0)) (λhb=>?_)
 have fY:(p.1).length<=9223372036854775807:=hb.1.1.1;have fA:(p.2.1).length<=9223372036854775807:=hb.1.2.1.1;have gX:(p.2.2.1).length<=9223372036854775807:=hb.1.2.2.1.1;have gY:(p.2.2.2).length<=9223372036854775807:=hb.1.2.2.2.1.1;refine Zf p.2.1 (λr k=>r.all Y3=p.2.1.all Y3->C0 (λr'=>r'=yK (oT p)) p k) ?_ ?_ rfl
 ·intro he;refine QCb _ _ _ ⟨λh=>by simp at h,λ_=>au ?_⟩;exact he
 ·intro k x r hk aW hg ih he;have dE:x∈p.2.1:=List.mem_of_mem_drop (i:=k) (by rw[hk];exact List.mem_cons_self);have jU:x.2.1.length<=9223372036854775807:=(hb.1.2.1.2 x dE).2.1.1;refine QCb _ _ _ ⟨λ_=>?_,λh=>by simp at h;omega⟩;rw[Int.toNat_natCast,hg,QF (x:=(k:Int)+1) (by omega) (by omega),QF (x:=(x.2.1.length:Int)-1) (by omega) (by omega)];rw[List.all_cons]at he;refine⟨⟨⟨by omega,aW⟩,by omega,aW⟩,λh=>au ?_,λh=>ih ?_⟩
  ·have:Y3 x=false:=by simp at h;simp[Y3];omega
   rw[this]at he;exact he
  ·have:Y3 x=true:=by simp at h;simp[Y3];omega
   rw[this,Bool.true_and]at he;exact he
theorem QIg:Qf Tryz.prog M4:=Qh λx _=>QXB x.1
def Jh(t:Bool):aB:=b6 (bE t)
def M6:aJ:=Qg 89 [(.a QR),(.c TI)] λx=>(none,Jh (ZG x.1 x.2.1))
def M7:aF:=⟨[MT,Y1,CY,M4],false⟩
def QxG:af :=
 (.cond 100 (ag [(.ae [ab 4 (a6 true)]),.ret]) (ag [(.ae [aw 105 .eql 20 (ar 8),ab 104 105]),(.cond 104 (ag [(.ae [a9 106 2 4,aD 107 177 [106],ab 4 107]),.ret]) .skip)]))
def QG4:List (Nat × Md):=[(2,.b (dO 4)),(20,.one .d),(100,.one .d)]
def QLm:af:=.wk QG4 QxG
def QEx:af :=
 (ag [(.ae [ab 4 (a6 false)]),.ret])
def QT5:af :=
 (ag [(.ae [aC 2 (.box 56 0 4),ab 4 (a6 false)]),(ag [(.ae [a9 5 2 4,aD 6 176 [5],bL 7 6,ab 8 7,.bw 8 false [ab 9 1,ak 10 2 1,an 11 10 1,ba 12 11,aw 13 .sub 12 (ar 1),aD 14 158 [9,(ar 0),13],bL 15 14] 16 15]),(.cond 16 (ag [(.ae [ab 4 (a6 false)]),.ret]) .skip)]),(ag [(.ae [a9 17 2 4,ab 18 1,aD 19 144 [17,18],aC 20 (.kV 19 0 1 false)]),(.block 0 (ag [(.ae [aw 22 .eql 20 (ar 1),ab 21 22]),(.cond 21 (ag [(.ae [ab 23 1,aw 24 .gtr 23 (ar 0),ab 25 24,.bw 25 true [ak 26 2 2,an 27 26 1,ab 28 1,aw 29 .sub 28 (ar 1),aZ 30 27 29 Qj,ak 31 30 1,an 32 31 1,ba 33 32,aw 34 .gtr 33 (ar 0)] 35 34,ab 4 35]),.ret]) (ag [(.ae [aw 37 .eql 20 (ar 3),ab 36 37]),(.cond 36 (ag [(.draw [ab 38 1,ak 39 2 1,an 40 39 1,ba 41 40,aw 42 .sub 41 (ar 1),aw 43 .lss 38 42,ab 44 43,.bw 44 true [ak 45 2 2,an 46 45 1,ab 47 1,aZ 48 46 47 Qj,ak 49 48 1,an 50 49 1,ba 51 50,ak 52 2 2,an 53 52 1,ab 54 1,aZ 55 53 54 Qj,ak 56 55 0,an 57 56 1,aw 58 .lss 51 57] 59 58,ab 4 59] []),.ret]) (ag [(.ae [aw 61 .eql 20 (ar 4),ab 60 61]),(.cond 60 (ag [(.ae [ab 62 1,ak 63 2 1,an 64 63 1,ba 65 64,aw 66 .sub 65 (ar 1),aw 67 .lss 62 66,ab 68 67,.bw 68 true [ak 69 2 3,an 70 69 1,ab 71 1,aZ 72 70 71 Qj,ak 73 72 1,an 74 73 1,ba 75 74,aw 76 .gtr 75 (ar 0)] 77 76,ab 4 77]),.ret]) (ag [(.ae [aw 79 .eql 20 (ar 7),ab 78 79]),(.cond 78 (ag [(.draw [ab 80 1,aw 81 .gtr 80 (ar 0),ab 82 81,.bw 82 true [ak 83 2 3,an 84 83 1,ab 85 1,aw 86 .sub 85 (ar 1),aZ 87 84 86 Qj,ak 88 87 1,an 89 88 1,ba 90 89,ak 91 2 3,an 92 91 1,ab 93 1,aw 94 .sub 93 (ar 1),aZ 95 92 94 Qj,ak 96 95 0,an 97 96 1,aw 98 .lss 90 97] 99 98,ab 4 99] []),.ret]) (ag [(ag [(.ae [aw 101 .eql 20 (ar 2),ab 100 101]),(.cond 100 .skip (ag [(.ae [aw 102 .eql 20 (ar 5),ab 100 102]),(.cond 100 .skip (.ae [aw 103 .eql 20 (ar 6),ab 100 103]))]))]),QLm]))]))]))]))]))]),QEx])
def QqJ:List (bn × Md):=[(.t 4,.one .d)]
def QtB:Qb:=TQ 0 0 QqJ K
def QPj:Qb:=a0 (aN M7 0 QEx (QtB K)) (QtB K)
def QE3:Qb:=a7 0 (QPj K)
@[irreducible] def yL(p:Qm)(s:Int)(x:Bool):Prop:=aN M7 0 QxG (QE3 K) ⟨[(2,(.p 0 0 0)),(20,(aL ((Qk p s).1))),(100,(bE x))],[(0,(.box (aT.cells QR p)))],1⟩
theorem QII(p:Qm)(s:Int)(x:Bool) (h :
 (aI x (K (Jh true)) (aI (((Qk p s).1)==8) (K (Jh (oT p))) (K (Jh false))))):dt (yL K p s x) :=
 dt.of h
theorem QL9(p:Qm)(s:Int):aK Tryz.prog 89 [(.a (aT.cells QR p)),(.c TI s)] (Jh (ZG p s)):=by
 refine bz M7 QT5 QqJ 0 0 108 M6 (kc QHD (kc Jg (kc Qx3 (kc QIg kn)))) (λK =>
 (aI ((!(Zk p))||(!(bj s (0:Int) (aG (((p.2.1).length:Int)-1))))) (K (Jh false)) (aI (((Qk p s).1)==1) (((decide (s>0))=true->(0<=aG (s-1)/\Int.toNat (aG (s-1))<(p.2.2.1).length))/\K (Jh ((decide (s>0))&&(decide ((((aq Qv p.2.2.1 (Int.toNat (aG (s-1)))).2).length:Int)>0))))) (aI (((Qk p s).1)==3) (((decide (s<(aG (((p.2.1).length:Int)-1))))=true->((0<=s/\Int.toNat s<(p.2.2.1).length)/\(0<=s/\Int.toNat s<(p.2.2.1).length)))/\K (Jh ((decide (s<(aG (((p.2.1).length:Int)-1))))&&(decide ((((aq Qv p.2.2.1 (Int.toNat s)).2).length:Int)<((aq Qv p.2.2.1 (Int.toNat s)).1)))))) (aI (((Qk p s).1)==4) (((decide (s<(aG (((p.2.1).length:Int)-1))))=true->(0<=s/\Int.toNat s<(p.2.2.2).length))/\K (Jh ((decide (s<(aG (((p.2.1).length:Int)-1))))&&(decide ((((aq Qv p.2.2.2 (Int.toNat s)).2).length:Int)>0))))) (aI (((Qk p s).1)==7) (((decide (s>0))=true->((0<=aG (s-1)/\Int.toNat (aG (s-1))<(p.2.2.2).length)/\(0<=aG (s-1)/\Int.toNat (aG (s-1))<(p.2.2.2).length)))/\K (Jh ((decide (s>0))&&(decide ((((aq Qv p.2.2.2 (Int.toNat (aG (s-1)))).2).length:Int)<((aq Qv p.2.2.2 (Int.toNat (aG (s-1)))).1)))))) (aI (((Qk p s).1)==2) (yL K p s (((Qk p s).1)==2)) (aI (((Qk p s).1)==5) (yL K p s (((Qk p s).1)==5)) (yL K p s (((Qk p s).1)==6)))))))))) (λhb=>?_)
 have fY:(p.1).length<=9223372036854775807:=hb.1.1.1;have fA:(p.2.1).length<=9223372036854775807:=hb.1.2.1.1;have gX:(p.2.2.1).length<=9223372036854775807:=hb.1.2.2.1.1;have gY:(p.2.2.2).length<=9223372036854775807:=hb.1.2.2.2.1.1;by_cases h0:(Zk p&&bj s 0 (p.2.1.length-1))=true;rotate_left
 ·have e1:aG ((p.2.1.length:Int)-1)=p.2.1.length-1:=QF (by omega) (by omega);rw[e1];refine⟨λh=>au (by grind[ZG]),λh=>by grind⟩
 have yM:=h0;simp only[Bool.and_eq_true,Za]at yM;have fg:=yM.1;simp only[Zk,Bool.and_eq_true,Za,beq_iff_eq]at fg;have e1:aG ((p.2.1.length:Int)-1)=p.2.1.length-1:=QF (by omega) (by omega);have e2:aG (s-1)=s-1:=QF (by omega) (by omega);rw[e1,e2];have e4:Int.toNat (s-1)=s.toNat-1:=by omega
 rw[e4];have hM:(ZG p s)=Jm p s (Qk p s).1:=by unfold ZG;rw[h0,Bool.true_and]
 have k2:∀ b:Bool,(b=true->Jm p s (Qk p s).1=true)->(b=false->Jm p s (Qk p s).1=if(Qk p s).1=8 then oT p else false)->yL (λr'=>r'=Jh (ZG p s)) p s b:=by
  intro b iu fw;refine(QII (λr'=>r'=Jh (ZG p s)) p s _ ⟨λh=>au ?_,λh=>⟨λh8=>au ?_,λh8=>au ?_⟩⟩).h
  ·rw[hM,iu h]
  ·rw[hM,fw h,if_pos (by simpa using h8)]
  ·rw[hM,fw h,if_neg (by simpa using h8)]
 generalize(Qk p s).1=kd at *;refine⟨λh=>by grind,λ_=>⟨λh1=>⟨λh=>by simp at h;omega,au ?_⟩,λh1=>⟨λh2=>⟨λh=>by simp at h;omega,au ?_⟩,λh2=>⟨λh3=>⟨λh=>by simp at h;omega,au ?_⟩,λh3=>⟨λh4=>⟨λh=>by simp at h;omega,au ?_⟩,λh4=>⟨λh5=>k2 _ ?_ ?_,λh5=>⟨λh6=>k2 _ ?_ ?_,λh6=>k2 _ ?_ ?_⟩⟩⟩⟩⟩⟩⟩
 all_goals (try rw[hM]);simp only[Jm,oS]at *;grind
theorem QTA:Qf Tryz.prog M6:=Qh λx _=>QL9 x.1 x.2.1
def Yt(t:Bool):aB:=b6 (bE t)
def M8:aJ:=Qg 92 [(.a QR),(.c TI)] λx=>(none,Yt (ZG x.1 x.2.1))
def yN:aF:=⟨[MX,CZ,MI],false⟩
def Qwp:af :=
 (ag [(.ae [aw 94 .lss 93 92]),(.cond 94 .skip (.exit 1)),(.block 2 (ag [(.ae [aZ 95 91 93 Qe,a9 96 95 14,aC 7 (.new 39 (bG Qe)),aV 7 96 14]),(.ae [ak 97 7 0,an 98 97 1,ak 99 7 1,an 100 99 1,ba 101 100,aw 102 .sub 101 (ar 1),aw 103 .lss 98 102]),(.cond 103 (ag [(.ae [ab 4 (a6 false)]),.ret]) .skip)])),(.ae [aw 104 .add 93 (ar 1),ab 93 104])])
def QxR:List (Nat × Md):=eV [91,92,93]
def Qwj:af :=
 (ag [(.ae [ab 4 (a6 true)]),.ret])
def QtC:af :=
 (.cond 84 (ag [(.ae [ab 4 (a6 true)]),.ret]) (ag [(.ae [aw 89 .eql 31 (ar 8),ab 88 89]),(.cond 88 (ag [(ag [(.ae [ak 90 2 1,an 91 90 1,ba 92 91,ab 93 (ar 0)]),(.block 1 (.loop QxR Qwp))]),Qwj]) .skip)]))
def QFy:List (Nat × Md):=[(2,.b (dO 4)),(31,.one .d),(84,.one .d)]
def QLU:af:=.wk QFy QtC
def QDi:af :=
 (ag [(.ae [ab 4 (a6 false)]),.ret])
def QV2:af :=
 (ag [(.ae [aC 2 (.box 56 0 4),ab 4 (a6 false)]),(ag [(.ae [a9 8 2 4,aD 9 179 [8],bL 10 9,ab 11 10,.bw 11 false [ab 12 1,aw 13 .lss 12 (ar 0)] 14 13,ab 15 14,.bw 15 false [ab 16 1,ak 17 2 1,an 18 17 1,ba 19 18,aw 20 .geq 16 19] 21 20]),(.cond 21 (ag [(.ae [ab 4 (a6 false)]),.ret]) .skip)]),(.ae [ab 22 1,ak 23 2 1,an 24 23 1,ba 25 24,aw 26 .sub 25 (ar 1),aw 27 .lss 22 26,ab 5 27]),(ag [(.ae [a9 28 2 4,ab 29 1,aD 30 148 [28,29],aC 31 (.kV 30 0 1 false)]),(.block 0 (ag [(.ae [aw 33 .eql 31 (ar 1),ab 32 33]),(.cond 32 (ag [(.ae [ab 34 1,aw 35 .gtr 34 (ar 0),ab 36 35,.bw 36 true [ak 37 2 2,an 38 37 1,ab 39 1,aw 40 .sub 39 (ar 1),aZ 41 38 40 Qj,ak 42 41 1,an 43 42 1,ba 44 43,aw 45 .gtr 44 (ar 0)] 46 45,ab 4 46]),.ret]) (ag [(.ae [aw 48 .eql 31 (ar 3),ab 47 48]),(.cond 47 (ag [(.ae [ab 49 5,ab 50 49,.bw 50 true [ak 51 2 2,an 52 51 1,ab 53 1,aZ 54 52 53 Qj,a9 55 54 2,aD 56 180 [55]] 57 56,ab 4 57]),.ret]) (ag [(.ae [aw 59 .eql 31 (ar 4),ab 58 59]),(.cond 58 (ag [(.ae [ab 60 5,ab 61 60,.bw 61 true [ak 62 2 3,an 63 62 1,ab 64 1,aZ 65 63 64 Qj,ak 66 65 1,an 67 66 1,ba 68 67,aw 69 .gtr 68 (ar 0)] 70 69,ab 4 70]),.ret]) (ag [(.ae [aw 72 .eql 31 (ar 7),ab 71 72]),(.cond 71 (ag [(.ae [ab 73 1,aw 74 .gtr 73 (ar 0),ab 75 74,.bw 75 true [ak 76 2 3,an 77 76 1,ab 78 1,aw 79 .sub 78 (ar 1),aZ 80 77 79 Qj,a9 81 80 2,aD 82 180 [81]] 83 82,ab 4 83]),.ret]) (ag [(ag [(.ae [aw 85 .eql 31 (ar 2),ab 84 85]),(.cond 84 .skip (ag [(.ae [aw 86 .eql 31 (ar 5),ab 84 86]),(.cond 84 .skip (.ae [aw 87 .eql 31 (ar 6),ab 84 87]))]))]),QLU]))]))]))]))]))]),QDi])
def QqS:List (bn × Md):=[(.t 4,.one .d)]
def QwW:Qb:=TQ 0 0 QqS K
def QKu:Qb:=a0 (aN yN 0 QDi (QwW K)) (QwW K)
def M9:Qb:=a7 0 (QKu K)
def QPy:Qb:=a0 (aN yN 0 Qwj (M9 K)) (M9 K)
def QLR:Qb:=a7 1 (QPy K)
def yO(p:Qm)(x1:Int):Prop:=Loop yN 0 QxR Qwp (QLR K) ⟨[(91,(bf Qe p.2.1)),(92,(aL ((p.2.1).length:Int))),(93,(aL x1))],[],0⟩
@[irreducible] def yP(p:Qm)(s:Int)(x:Bool):Prop:=aN yN 0 QtC (M9 K) ⟨[(2,(.p 0 0 0)),(31,(aL ((Qk p s).1))),(84,(bE x))],[(0,(.box (aT.cells QR p)))],1⟩
theorem QsX(p:Qm)(x1:Int) (h :
 (aI (decide (x1<((p.2.1).length:Int))) ((0<=x1/\Int.toNat x1<(p.2.1).length)/\(aI (decide (((aq Qy p.2.1 (Int.toNat x1)).1)<(aG ((((aq Qy p.2.1 (Int.toNat x1)).2.1).length:Int)-1)))) (K (Yt false)) (yO K p (aG (x1+1))))) (K (Yt true)))):yO K p x1 :=
 Loop.of h
theorem QNt(p:Qm)(s:Int)(x:Bool) (h :
 (aI x (K (Yt true)) (aI (((Qk p s).1)==8) (yO K p 0) (K (Yt false))))):dt (yP K p s x) :=
 dt.of h
theorem QF8(p:Qm)(s:Int):aK Tryz.prog 92 [(.a (aT.cells QR p)),(.c TI s)] (Yt (ZG p s)):=by
 refine bz yN QV2 QqS 0 0 105 M8 (kc QRL (kc QuF (kc QRu kn))) (λK =>
 (aI (((!(Zk p))||(decide (s<0)))||(decide (s>=((p.2.1).length:Int)))) (K (Yt false)) (aI (((Qk p s).1)==1) (((decide (s>0))=true->(0<=aG (s-1)/\Int.toNat (aG (s-1))<(p.2.2.1).length))/\K (Yt ((decide (s>0))&&(decide ((((aq Qv p.2.2.1 (Int.toNat (aG (s-1)))).2).length:Int)>0))))) (aI (((Qk p s).1)==3) (((decide (s<(aG (((p.2.1).length:Int)-1))))=true->(0<=s/\Int.toNat s<(p.2.2.1).length))/\K (Yt ((decide (s<(aG (((p.2.1).length:Int)-1))))&&(oS (aq Qv p.2.2.1 (Int.toNat s)))))) (aI (((Qk p s).1)==4) (((decide (s<(aG (((p.2.1).length:Int)-1))))=true->(0<=s/\Int.toNat s<(p.2.2.2).length))/\K (Yt ((decide (s<(aG (((p.2.1).length:Int)-1))))&&(decide ((((aq Qv p.2.2.2 (Int.toNat s)).2).length:Int)>0))))) (aI (((Qk p s).1)==7) (((decide (s>0))=true->(0<=aG (s-1)/\Int.toNat (aG (s-1))<(p.2.2.2).length))/\K (Yt ((decide (s>0))&&(oS (aq Qv p.2.2.2 (Int.toNat (aG (s-1)))))))) (aI (((Qk p s).1)==2) (yP K p s (((Qk p s).1)==2)) (aI (((Qk p s).1)==5) (yP K p s (((Qk p s).1)==5)) (yP K p s (((Qk p s).1)==6)))))))))) (λhb=>?_)
 have fY:(p.1).length<=9223372036854775807:=hb.1.1.1;have fA:(p.2.1).length<=9223372036854775807:=hb.1.2.1.1;have gX:(p.2.2.1).length<=9223372036854775807:=hb.1.2.2.1.1;have gY:(p.2.2.2).length<=9223372036854775807:=hb.1.2.2.2.1.1;by_cases h0:(Zk p&&bj s 0 (p.2.1.length-1))=true;rotate_left
 ·refine⟨λh=>au (by grind[ZG]),λh=>by grind[bj]⟩
 have yM:=h0;simp only[Bool.and_eq_true,Za]at yM;have fg:=yM.1;simp only[Zk,Bool.and_eq_true,Za,beq_iff_eq]at fg;have e1:aG ((p.2.1.length:Int)-1)=p.2.1.length-1:=QF (by omega) (by omega);have e2:aG (s-1)=s-1:=QF (by omega) (by omega);rw[e1,e2];have e4:Int.toNat (s-1)=s.toNat-1:=by omega
 rw[e4];have hM:(ZG p s)=Jm p s (Qk p s).1:=by unfold ZG;rw[h0,Bool.true_and]
 have ej:Jm p s (Qk p s).1=oT p->yO (λr'=>r'=Yt (ZG p s)) p ((0:Nat):Int):=by
  intro hm;refine Zf p.2.1 (λr k=>r.all Y3=p.2.1.all Y3->yO (λr'=>r'=Yt (ZG p s)) p k) ?_ ?_ rfl
  ·intro he;refine QsX (λr'=>r'=Yt (ZG p s)) p _ ⟨λh=>by simp at h,λ_=>au ?_⟩;rw[hM,hm];exact he
  ·intro k x r hk aW hg ih he;have dE:x∈p.2.1:=List.mem_of_mem_drop (i:=k) (by rw[hk];exact List.mem_cons_self);have jU:x.2.1.length<=9223372036854775807:=(hb.1.2.1.2 x dE).2.1.1;refine QsX (λr'=>r'=Yt (ZG p s)) p _ ⟨λ_=>?_,λh=>by simp at h;omega⟩;rw[Int.toNat_natCast,hg,QF (x:=(k:Int)+1) (by omega) (by omega),QF (x:=(x.2.1.length:Int)-1) (by omega) (by omega)];rw[List.all_cons]at he;refine⟨⟨by omega,aW⟩,λh=>au ?_,λh=>ih ?_⟩
   ·have:Y3 x=false:=by simp at h;simp[Y3];omega
    rw[this]at he;rw[hM,hm];exact he
   ·have:Y3 x=true:=by simp at h;simp[Y3];omega
    rw[this,Bool.true_and]at he;exact he
 have k2:∀ b:Bool,(b=true->Jm p s (Qk p s).1=true)->(b=false->Jm p s (Qk p s).1=if(Qk p s).1=8 then oT p else false)->yP (λr'=>r'=Yt (ZG p s)) p s b:=by
  intro b iu fw;refine(QNt (λr'=>r'=Yt (ZG p s)) p s _ ⟨λh=>au ?_,λh=>⟨λh8=>ej ?_,λh8=>au ?_⟩⟩).h
  ·rw[hM,iu h]
  ·rw[fw h,if_pos (by simpa using h8)]
  ·rw[hM,fw h,if_neg (by simpa using h8)]
 clear ej;generalize(Qk p s).1=kd at *;refine⟨λh=>by grind[bj],λ_=>⟨λh1=>⟨λh=>by simp at h;omega,au ?_⟩,λh1=>⟨λh2=>⟨λh=>by simp at h;omega,au ?_⟩,λh2=>⟨λh3=>⟨λh=>by simp at h;omega,au ?_⟩,λh3=>⟨λh4=>⟨λh=>by simp at h;omega,au ?_⟩,λh4=>⟨λh5=>k2 _ ?_ ?_,λh5=>⟨λh6=>k2 _ ?_ ?_,λh6=>k2 _ ?_ ?_⟩⟩⟩⟩⟩⟩⟩
 all_goals (try rw[hM]);simp only[Jm,oS]at *;grind
theorem QX3:Qf Tryz.prog M8:=Qh λx _=>QF8 x.1 x.2.1
end
end Go.Proofs.YtdplaepmjogjjaaGreat.Am

namespace Go.Proofs.YtdplaepmjogjjaaGreat.Am
open Go Go.RowKit Go.Proofs.YtdplaepmjogjjaaGreat
set_option linter.all false
set_option maxHeartbeats 2000000
noncomputable section
variable (K:aB->Prop)
def JN(t:Qm):aB:=⟨(.a [(.r QG 0 0 ((t.1).length)),(.r Qe 1 0 ((t.2.1).length)),(.r Qj 2 0 ((t.2.2.1).length)),(.r Qj 3 0 ((t.2.2.2).length))]),[(.sl 154 QG (.dp 0 true []) t.1),(.sl 39 Qe (.dp 0 true []) t.2.1),(.sl 161 Qj (.dp 0 true []) t.2.2.1),(.sl 161 Qj (.dp 0 true []) t.2.2.2)],[],false,[]⟩
def Na:aJ:=Qg 147 [(.a QR)] λx=>(some (Qt (α:=Qm) x.1),JN (id (α:=Qm) x.1))
def sy:aF:=⟨[Kp,uA,yD],true⟩
def Qud:af :=
 (ag [(.ae [aw 18 .lss 17 16]),(.cond 18 .skip (.exit 0)),(.block 1 (ag [(.ae [aZ 19 15 17 Qe,a9 20 19 14,aC 5 (.new 39 (bG Qe)),aV 5 20 14]),(.draw [ak 21 3 1,an 22 21 1,a9 23 5 14,aD 24 70 [23],aC 25 (.bW 39 Qe [24]),aC 26 (.app 22 25 39 Qe),ak 27 3 1,aV 27 26 1] [(0,3),(1,3),(0,4),(1,4)])])),(.ae [aw 28 .add 17 (ar 1),ab 17 28])])
def QwU:List (Nat × Md):=[(1,.b (dO 4)),(2,.b [.f,.f,.f,.f]),(3,.b [.f,.p 39,.p 161,.p 161]),(15,.one .d),(16,.one .d),(17,.one .d)]
def Qyy:af :=
 (ag [(.ae [aw 33 .lss 32 31]),(.cond 33 .skip (.exit 2)),(.block 3 (ag [(.ae [aZ 34 30 32 Qj,a9 35 34 2,aC 7 (.new 161 (bG Qj)),aV 7 35 2]),(.draw [ak 36 3 2,an 37 36 1,a9 38 7 2,aD 39 219 [38],aC 40 (.bW 161 Qj [39]),aC 41 (.app 37 40 161 Qj),ak 42 3 2,aV 42 41 1] [(0,3),(1,3),(0,4),(1,4)])])),(.ae [aw 43 .add 32 (ar 1),ab 32 43])])
def Qre:List (Nat × Md):=[(1,.b (dO 4)),(2,.b [.f,.f,.f,.f]),(3,.b [.f,.f,.f,.f]),(30,.one .d),(31,.one .d),(32,.one .d)]
def QCL:af :=
 (ag [(.ae [aw 48 .lss 47 46]),(.cond 48 .skip (.exit 4)),(.block 5 (ag [(.ae [aZ 49 45 47 Qj,a9 50 49 2,aC 9 (.new 161 (bG Qj)),aV 9 50 2]),(.draw [ak 51 3 3,an 52 51 1,a9 53 9 2,aD 54 219 [53],aC 55 (.bW 161 Qj [54]),aC 56 (.app 52 55 161 Qj),ak 57 3 3,aV 57 56 1] [(0,3),(1,3),(0,4),(1,4)])])),(.ae [aw 58 .add 47 (ar 1),ab 47 58])])
def Qse:List (Nat × Md):=[(2,.b [.f,.f,.f,.f]),(3,.b [.f,.f,.f,.f]),(45,.one .d),(46,.one .d),(47,.one .d)]
def Qzu:af :=
 (ag [(.ae [a9 59 3 4,aV 2 59 4]),.ret])
def Qvw:af :=
 (ag [(ag [(.ae [ak 44 1 3,an 45 44 1,ba 46 45,ab 47 (ar 0)]),(.block 4 (.loop Qse QCL))]),Qzu])
def Qtc:af :=
 (ag [(ag [(.ae [ak 29 1 2,an 30 29 1,ba 31 30,ab 32 (ar 0)]),(.block 2 (.loop Qre Qyy))]),Qvw])
def QFu:af :=
 (ag [(.ae [aC 1 (.box 56 0 4),aC 2 (.new 56 (bG QR))]),(.ae [ak 10 1 0,an 11 10 1,aD 12 126 [11],aC 13 (.build (bG QR) [(0,1,12)]),aC 3 (.new 56 (bG QR)),aV 3 13 4]),(ag [(.ae [ak 14 1 1,an 15 14 1,ba 16 15,ab 17 (ar 0)]),(.block 0 (.loop QwU Qud))]),Qtc])
def QCF:List (bn × Md):=[(.l 2 4 true,.b [.p 154,.p 39,.p 161,.p 161])]
def uJ:Qb:=TQ 0 0 QCF K
def QMc:Qb:=a0 (aN sy 0 Qzu (uJ K)) (uJ K)
def QOp:Qb:=a7 4 (QMc K)
def yQ(p:Qm)(x2:Int)(pk:List Qo)(po:List Qc)(pq:List Qd)(q3:List Qd):Prop:=Loop sy 0 Qse QCL (QOp K) ⟨[(2,(.p 0 0 0)),(3,(.p 5 0 0)),(45,(bf Qj p.2.2.2)),(46,(aL ((p.2.2.2).length:Int))),(47,(aL x2))],[(0,(.box [(.n QG),(.n Qe),(.n Qj),(.n Qj)])),(1,(.sl 154 QG (.dp 0 true []) pk)),(2,(.sl 39 Qe (.dp 0 true []) po)),(3,(.sl 161 Qj (.dp 0 true []) pq)),(4,(.sl 161 Qj (.dp 0 true []) q3)),(5,(.box [(.r QG 1 0 pk.length),(.r Qe 2 0 po.length),(.r Qj 3 0 pq.length),(.r Qj 4 0 q3.length)]))],6⟩
def QO1:Qb:=a0 (aN sy 0 Qvw (uJ K)) (uJ K)
def QHV:Qb:=a7 2 (QO1 K)
def yR(p:Qm)(x1:Int)(pw:List Qo)(px:List Qc)(q2:List Qd):Prop:=Loop sy 0 Qre Qyy (QHV K) ⟨[(1,(.p 0 0 0)),(2,(.p 1 0 0)),(3,(.p 6 0 0)),(30,(bf Qj p.2.2.1)),(31,(aL ((p.2.2.1).length:Int))),(32,(aL x1))],[(0,(.box (aT.cells QR p))),(1,(.box [(.n QG),(.n Qe),(.n Qj),(.n Qj)])),(2,(.sl 154 QG (.dp 0 true []) pw)),(3,(.sl 39 Qe (.dp 0 true []) px)),(4,(.sl 161 Qj (.dp 0 true []) q2)),(5,(.sl 161 Qj (.dp 0 true []) ([]:List Qd))),(6,(.box [(.r QG 2 0 pw.length),(.r Qe 3 0 px.length),(.r Qj 4 0 q2.length),(.r Qj 5 0 0)]))],7⟩
def QUD:Qb:=a0 (aN sy 0 Qtc (uJ K)) (uJ K)
def QHw:Qb:=a7 0 (QUD K)
def C1(p:Qm)(x:Int)(q0:List Qo)(q1:List Qc):Prop:=Loop sy 0 QwU Qud (QHw K) ⟨[(1,(.p 0 0 0)),(2,(.p 1 0 0)),(3,(.p 6 0 0)),(15,(bf Qe p.2.1)),(16,(aL ((p.2.1).length:Int))),(17,(aL x))],[(0,(.box (aT.cells QR p))),(1,(.box [(.n QG),(.n Qe),(.n Qj),(.n Qj)])),(2,(.sl 154 QG (.dp 0 true []) q0)),(3,(.sl 39 Qe (.dp 0 true []) q1)),(4,(.sl 161 Qj (.dp 0 true []) ([]:List Qd))),(5,(.sl 161 Qj (.dp 0 true []) ([]:List Qd))),(6,(.box [(.r QG 2 0 q0.length),(.r Qe 3 0 q1.length),(.r Qj 4 0 0),(.r Qj 5 0 0)]))],7⟩
theorem Qq2(p:Qm)(x2:Int)(pk:List Qo)(po:List Qc)(pq:List Qd)(q3:List Qd) (h :
 (aI (decide (x2<((p.2.2.2).length:Int))) ((0<=x2/\Int.toNat x2<(p.2.2.2).length)/\(((Qt (α:=Qd) (aq Qv p.2.2.2 (Int.toNat x2)))/\((q3.length=q3.length\/q3.length+1<=q3.length)/\q3.length+1<=ca))/\(yQ K p (aG (x2+1)) (List.take pk.length pk) (List.take po.length po) (List.take pq.length pq) (List.take (q3.length+1) ((List.take q3.length q3)++([((id (α:=Qd) (aq Qv p.2.2.2 (Int.toNat x2))).1,(List.take (((id (α:=Qd) (aq Qv p.2.2.2 (Int.toNat x2))).2).length) (List.drop 0 ((id (α:=Qd) (aq Qv p.2.2.2 (Int.toNat x2))).2))))])))))) (K (JN ((List.take pk.length pk),(List.take po.length po),(List.take pq.length pq),(List.take q3.length q3)))))):yQ K p x2 pk po pq q3 :=
 Loop.of h
theorem QuK(p:Qm)(x1:Int)(pw:List Qo)(px:List Qc)(q2:List Qd) (h :
 (aI (decide (x1<((p.2.2.1).length:Int))) ((0<=x1/\Int.toNat x1<(p.2.2.1).length)/\(((Qt (α:=Qd) (aq Qv p.2.2.1 (Int.toNat x1)))/\((q2.length=q2.length\/q2.length+1<=q2.length)/\q2.length+1<=ca))/\(yR K p (aG (x1+1)) (List.take pw.length pw) (List.take px.length px) (List.take (q2.length+1) ((List.take q2.length q2)++([((id (α:=Qd) (aq Qv p.2.2.1 (Int.toNat x1))).1,(List.take (((id (α:=Qd) (aq Qv p.2.2.1 (Int.toNat x1))).2).length) (List.drop 0 ((id (α:=Qd) (aq Qv p.2.2.1 (Int.toNat x1))).2))))])))))) (yQ K p 0 (List.take pw.length pw) (List.take px.length px) (List.take q2.length q2) ([]:List Qd)))):yR K p x1 pw px q2 :=
 Loop.of h
theorem Qs2(p:Qm)(x:Int)(q0:List Qo)(q1:List Qc) (h :
 let z1:=id (α:=Qc) (aq Qy p.2.1 (Int.toNat x))
 (aI (decide (x<((p.2.1).length:Int))) ((0<=x/\Int.toNat x<(p.2.1).length)/\(((Qt (α:=Qc) (aq Qy p.2.1 (Int.toNat x)))/\((q1.length=q1.length\/q1.length+1<=q1.length)/\q1.length+1<=ca))/\(C1 K p (aG (x+1)) (List.take q0.length q0) (List.take (q1.length+1) ((List.take q1.length q1)++([(z1.1,(List.take ((z1.2.1).length) (List.drop 0 (z1.2.1))),(List.take ((z1.2.2.1).length) (List.drop 0 (z1.2.2.1))),z1.2.2.2.1,z1.2.2.2.2.1,(List.take ((z1.2.2.2.2.2.1).length) (List.drop 0 (z1.2.2.2.2.2.1))),(List.take ((z1.2.2.2.2.2.2.1).length) (List.drop 0 (z1.2.2.2.2.2.2.1))),(List.take ((z1.2.2.2.2.2.2.2.1).length) (List.drop 0 (z1.2.2.2.2.2.2.2.1))),(List.take ((z1.2.2.2.2.2.2.2.2.1).length) (List.drop 0 (z1.2.2.2.2.2.2.2.2.1))),(List.take ((z1.2.2.2.2.2.2.2.2.2.1).length) (List.drop 0 (z1.2.2.2.2.2.2.2.2.2.1))),(List.take ((z1.2.2.2.2.2.2.2.2.2.2.1).length) (List.drop 0 (z1.2.2.2.2.2.2.2.2.2.2.1))),(List.take ((z1.2.2.2.2.2.2.2.2.2.2.2.1).length) (List.drop 0 (z1.2.2.2.2.2.2.2.2.2.2.2.1))),z1.2.2.2.2.2.2.2.2.2.2.2.2.1,z1.2.2.2.2.2.2.2.2.2.2.2.2.2)])))))) (yR K p 0 (List.take q0.length q0) (List.take q1.length q1) ([]:List Qd)))):C1 K p x q0 q1 :=
 Loop.of h
theorem QUe(p:Qm)(hp:Qt (α:=Qm) p):aK Tryz.prog 147 [(.a (aT.cells QR p))] (JN (id (α:=Qm) p)):=by
 refine bz sy QFu QCF 0 0 60 Na (kc QM2 (kc Cy (kc ML kn))) (λK =>
 ((Qt (α:=List Qo) p.1)/\(C1 K p 0 (List.take ((id (α:=List Qo) p.1).length) (id (α:=List Qo) p.1)) ([]:List Qc)))) (λhb=>?_)
 have iO:Sz.sz p<=2147483648:=hp;have hs:Sz.sz p=Sz.sz p.1+Sz.sz p.2.1+Sz.sz p.2.2.1+Sz.sz p.2.2.2:=uw p;have k6:yQ (λr'=>r'=JN (id (α:=Qm) p)) p 0 p.1 p.2.1 p.2.2.1 ([]):=by
  refine YC (l:=p.2.2.2) (A:=λi v=>yQ (λr'=>r'=JN (id (α:=Qm) p)) p i p.1 p.2.1 p.2.2.1 v) (Q:=λz=>JN (p.1,p.2.1,p.2.2.1,z)=JN (id (α:=Qm) p)) (by omega) (λk x v hk hl hg hv hx ih=>?_) (λhq=>?_) (au rfl)
  ·refine Qq2 _ _ _ _ _ _ _ ⟨λ_=>?_,λh=>by simp at h;omega⟩;rw[Int.toNat_natCast,hg,dP (by omega),Q8];simp only[id,List.drop_zero,List.take_length];exact⟨⟨by omega,hk⟩,⟨by unfold Qt;omega,(by first | exact room (by omega) | (simp[Zg];omega))⟩,ih⟩
  ·refine Qq2 _ _ _ _ _ _ _ ⟨λh=>by simp at h,λ_=>?_⟩;simp only[id,List.drop_zero,List.take_length]
   first | done | exact hq | trivial
 have k4:yR (λr'=>r'=JN (id (α:=Qm) p)) p 0 p.1 p.2.1 ([]):=by
  refine YC (l:=p.2.2.1) (A:=λi v=>yR (λr'=>r'=JN (id (α:=Qm) p)) p i p.1 p.2.1 v) (Q:=λz=>z=p.2.2.1) (by omega) (λk x v hk hl hg hv hx ih=>?_) (λhq=>?_) rfl
  ·refine QuK _ _ _ _ _ _ ⟨λ_=>?_,λh=>by simp at h;omega⟩;rw[Int.toNat_natCast,hg,dP (by omega),Q8];simp only[id,List.drop_zero,List.take_length];exact⟨⟨by omega,hk⟩,⟨by unfold Qt;omega,(by first | exact room (by omega) | (simp[Zg];omega))⟩,ih⟩
  ·refine QuK _ _ _ _ _ _ ⟨λh=>by simp at h,λ_=>?_⟩;simp only[id,List.drop_zero,List.take_length];exact k6
 refine⟨by unfold Qt;omega,?_⟩;simp only[id,List.take_length];refine YC (l:=p.2.1) (A:=λi v=>C1 (λr'=>r'=JN (id (α:=Qm) p)) p i p.1 v) (Q:=λz=>z=p.2.1) (by omega) (λk x v hk hl hg hv hx ih=>?_) (λhq=>?_) rfl
 ·refine Qs2 _ _ _ _ _ ⟨λ_=>?_,λh=>by simp at h;omega⟩;rw[Int.toNat_natCast,hg,dP (by omega),Q8];simp only[id,List.drop_zero,List.take_length];exact⟨⟨by omega,hk⟩,⟨by unfold Qt;omega,(by first | exact room (by omega) | (simp[Zg];omega))⟩,ih⟩
 ·refine Qs2 _ _ _ _ _ ⟨λh=>by simp at h,λ_=>?_⟩;simp only[id,List.drop_zero,List.take_length];exact k4
theorem QHZ:Qf Tryz.prog Na:=Qh λx h=>QUe x.1 h
def Js(t:Qm):aB:=⟨(.a [(bf QG t.1),(.r Qe 0 0 ((t.2.1).length)),(.r Qj 1 0 ((t.2.2.1).length)),(.r Qj 2 0 ((t.2.2.2).length))]),[(.sl 39 Qe .ow t.2.1),(.sl 161 Qj .ow t.2.2.1),(.sl 161 Qj .ow t.2.2.2)],[],true,[]⟩
def Nb:aJ:=Qg 143 [(.a QR)] λx=>(some (Qt (α:=Qm) x.1),Js (id (α:=Qm) x.1))
def nY:aF:=⟨[uC,yF],false⟩
def Qqt:af :=
 (ag [(ag [(.ae [ab 9 4,ak 10 1 0,an 11 10 1,ba 12 11,aw 13 .lss 9 12]),(.cond 13 .skip (.exit 0))]),(.block 1 (.draw [ak 16 3 0,an 17 16 1,aC 18 (.bW 3 [TI] []),ak 19 1 0,an 20 19 1,ab 21 4,aZ 22 20 21 QG,ak 23 22 0,an 24 23 1,aC 25 (.app 18 24 3 [TI]),aC 26 (.bW 3 [TI] []),ak 27 1 0,an 28 27 1,ab 29 4,aZ 30 28 29 QG,ak 31 30 1,an 32 31 1,aC 33 (.app 26 32 3 [TI]),aC 34 (.build (bG QG) [(0,1,25),(1,1,33)]),aC 35 (.bW 154 QG [34]),aC 36 (.app 17 35 154 QG),ak 37 3 0,aV 37 36 1] [(0,2),(1,2),(2,3),(2,4),(2,6),(2,7),(2,8),(0,9),(1,9),(0,10),(1,10),(2,10),(3,10),(4,10),(6,10),(7,10),(8,10),(9,10),(2,11),(9,11),(10,11),(2,12),(9,12),(10,12),(2,14),(9,14),(10,14),(2,15),(9,15),(10,15),(2,16),(9,16),(10,16),(0,17),(1,17),(0,19),(1,19)])),(.ae [ab 14 4,aw 15 .add 14 (ar 1),ab 4 15])])
def Qwa:List (Nat × Md):=[(1,.b (dO 4)),(2,.b (dO 4)),(3,.b [.o 154,.o 39,.o 161,.o 161]),(4,.one .d)]
def Qsy:af :=
 (ag [(ag [(.ae [ab 38 5,ak 39 1 1,an 40 39 1,ba 41 40,aw 42 .lss 38 41]),(.cond 42 .skip (.exit 2))]),(.block 3 (.draw [ak 45 3 1,an 46 45 1,ak 47 1 1,an 48 47 1,ab 49 5,aZ 50 48 49 Qe,a9 51 50 14,aD 52 61 [51],aC 53 (.bW 39 Qe [52]),aC 54 (.app 46 53 39 Qe),ak 55 3 1,aV 55 54 1] [(0,7),(1,7),(0,8),(1,8)])),(.ae [ab 43 5,aw 44 .add 43 (ar 1),ab 5 44])])
def QCV:List (Nat × Md):=[(1,.b (dO 4)),(2,.b (dO 4)),(3,.b [.f,.f,.f,.f]),(5,.one .d)]
def QsD:af :=
 (ag [(ag [(.ae [ab 56 6,ak 57 1 2,an 58 57 1,ba 59 58,aw 60 .lss 56 59]),(.cond 60 .skip (.exit 4))]),(.block 5 (.draw [ak 63 3 2,an 64 63 1,ak 65 1 2,an 66 65 1,ab 67 6,aZ 68 66 67 Qj,a9 69 68 2,aD 70 217 [69],aC 71 (.bW 161 Qj [70]),aC 72 (.app 64 71 161 Qj),ak 73 3 2,aV 73 72 1] [(0,7),(1,7),(0,8),(1,8)])),(.ae [ab 61 6,aw 62 .add 61 (ar 1),ab 6 62])])
def QCO:List (Nat × Md):=[(1,.b (dO 4)),(2,.b (dO 4)),(3,.b [.f,.f,.f,.f]),(6,.one .d)]
def QCK:af :=
 (ag [(ag [(.ae [ab 74 7,ak 75 1 3,an 76 75 1,ba 77 76,aw 78 .lss 74 77]),(.cond 78 .skip (.exit 6))]),(.block 7 (.draw [ak 81 3 3,an 82 81 1,ak 83 1 3,an 84 83 1,ab 85 7,aZ 86 84 85 Qj,a9 87 86 2,aD 88 217 [87],aC 89 (.bW 161 Qj [88]),aC 90 (.app 82 89 161 Qj),ak 91 3 3,aV 91 90 1] [(0,7),(1,7),(0,8),(1,8)])),(.ae [ab 79 7,aw 80 .add 79 (ar 1),ab 7 80])])
def QtY:List (Nat × Md):=[(1,.b (dO 4)),(2,.b (dO 4)),(3,.b [.f,.f,.f,.f]),(7,.one .d)]
def Qsa:af :=
 (ag [(.ae [a9 92 3 4,aV 2 92 4]),.ret])
def Quv:af :=
 (ag [(ag [(.ae [ab 7 (ar 0)]),(.block 6 (.loop QtY QCK))]),Qsa])
def QBA:af :=
 (ag [(ag [(.ae [ab 6 (ar 0)]),(.block 4 (.loop QCO QsD))]),Quv])
def QEo:af :=
 (ag [(ag [(.ae [ab 5 (ar 0)]),(.block 2 (.loop QCV Qsy))]),QBA])
def QRy:af :=
 (ag [(.ae [aC 1 (.box 56 0 4),aC 2 (.new 56 (bG QR))]),(.ae [aC 8 (.build (bG QR) []),aC 3 (.new 56 (bG QR)),aV 3 8 4]),(ag [(.ae [ab 4 (ar 0)]),(.block 0 (.loop Qwa Qqt))]),QEo])
def QDA:List (bn × Md):=[(.l 2 4 true,.b [.d,.o 39,.o 161,.o 161])]
def py:Qb:=TQ 0 0 QDA K
def QR5:Qb:=a0 (aN nY 0 Qsa (py K)) (py K)
def QXY:Qb:=a7 6 (QR5 K)
def yS(p:Qm)(i3:Int)(pz:List Qo)(pA:List Qc)(pB:List Qd)(x3:List Qd):Prop:=Loop nY 0 QtY QCK (QXY K) ⟨[(1,(.p 0 0 0)),(2,(.p 1 0 0)),(3,(.p 6 0 0)),(7,(aL i3))],[(0,(.box (aT.cells QR p))),(1,(.box (aT.cells QR ([],[],[],[])))),(2,(.sl 154 QG .ow pz)),(3,(.sl 39 Qe .ow pA)),(4,(.sl 161 Qj .ow pB)),(5,(.sl 161 Qj .ow x3)),(6,(.box [(.r QG 2 0 pz.length),(.r Qe 3 0 pA.length),(.r Qj 4 0 pB.length),(.r Qj 5 0 x3.length)]))],7⟩
def QGY:Qb:=a0 (aN nY 0 Quv (py K)) (py K)
def QUC:Qb:=a7 4 (QGY K)
def yT(p:Qm)(i2:Int)(pC:List Qo)(pD:List Qc)(x2:List Qd):Prop:=Loop nY 0 QCO QsD (QUC K) ⟨[(1,(.p 0 0 0)),(2,(.p 1 0 0)),(3,(.p 6 0 0)),(6,(aL i2))],[(0,(.box (aT.cells QR p))),(1,(.box (aT.cells QR ([],[],[],[])))),(2,(.sl 154 QG .ow pC)),(3,(.sl 39 Qe .ow pD)),(4,(.sl 161 Qj .ow x2)),(5,(.sl 161 Qj .ow ([]:List Qd))),(6,(.box [(.r QG 2 0 pC.length),(.r Qe 3 0 pD.length),(.r Qj 4 0 x2.length),(.r Qj 5 0 0)]))],7⟩
def QIw:Qb:=a0 (aN nY 0 QBA (py K)) (py K)
def QEK:Qb:=a7 2 (QIw K)
def yU(p:Qm)(i1:Int)(pE:List Qo)(x1:List Qc):Prop:=Loop nY 0 QCV Qsy (QEK K) ⟨[(1,(.p 0 0 0)),(2,(.p 1 0 0)),(3,(.p 6 0 0)),(5,(aL i1))],[(0,(.box (aT.cells QR p))),(1,(.box (aT.cells QR ([],[],[],[])))),(2,(.sl 154 QG .ow pE)),(3,(.sl 39 Qe .ow x1)),(4,(.sl 161 Qj .ow ([]:List Qd))),(5,(.sl 161 Qj .ow ([]:List Qd))),(6,(.box [(.r QG 2 0 pE.length),(.r Qe 3 0 x1.length),(.r Qj 4 0 0),(.r Qj 5 0 0)]))],7⟩
def QWT:Qb:=a0 (aN nY 0 QEo (py K)) (py K)
def QRG:Qb:=a7 0 (QWT K)
def C2(p:Qm)(i:Int)(x0:List Qo):Prop:=Loop nY 0 Qwa Qqt (QRG K) ⟨[(1,(.p 0 0 0)),(2,(.p 1 0 0)),(3,(.p 6 0 0)),(4,(aL i))],[(0,(.box (aT.cells QR p))),(1,(.box (aT.cells QR ([],[],[],[])))),(2,(.sl 154 QG .ow x0)),(3,(.sl 39 Qe .ow ([]:List Qc))),(4,(.sl 161 Qj .ow ([]:List Qd))),(5,(.sl 161 Qj .ow ([]:List Qd))),(6,(.box [(.r QG 2 0 x0.length),(.r Qe 3 0 0),(.r Qj 4 0 0),(.r Qj 5 0 0)]))],7⟩
theorem Qwb(p:Qm)(i3:Int)(pz:List Qo)(pA:List Qc)(pB:List Qd)(x3:List Qd) (h :
 (aI (decide (i3<((p.2.2.2).length:Int))) (((0<=i3/\Int.toNat i3<(p.2.2.2).length)/\((Qt (α:=Qd) (aq Qv p.2.2.2 (Int.toNat i3)))/\((x3.length=x3.length\/x3.length+1<=x3.length)/\x3.length+1<=ca)))/\(yS K p (aG (i3+1)) (List.take pz.length pz) (List.take pA.length pA) (List.take pB.length pB) (List.take (x3.length+1) ((List.take x3.length x3)++([((id (α:=Qd) (aq Qv p.2.2.2 (Int.toNat i3))).1,(List.take (((id (α:=Qd) (aq Qv p.2.2.2 (Int.toNat i3))).2).length) (List.drop 0 ((id (α:=Qd) (aq Qv p.2.2.2 (Int.toNat i3))).2))))]))))) (K (Js ((List.take pz.length (List.drop 0 pz)),(List.take pA.length pA),(List.take pB.length pB),(List.take x3.length x3)))))):yS K p i3 pz pA pB x3 :=
 Loop.of h
theorem Qsg(p:Qm)(i2:Int)(pC:List Qo)(pD:List Qc)(x2:List Qd) (h :
 (aI (decide (i2<((p.2.2.1).length:Int))) (((0<=i2/\Int.toNat i2<(p.2.2.1).length)/\((Qt (α:=Qd) (aq Qv p.2.2.1 (Int.toNat i2)))/\((x2.length=x2.length\/x2.length+1<=x2.length)/\x2.length+1<=ca)))/\(yT K p (aG (i2+1)) (List.take pC.length pC) (List.take pD.length pD) (List.take (x2.length+1) ((List.take x2.length x2)++([((id (α:=Qd) (aq Qv p.2.2.1 (Int.toNat i2))).1,(List.take (((id (α:=Qd) (aq Qv p.2.2.1 (Int.toNat i2))).2).length) (List.drop 0 ((id (α:=Qd) (aq Qv p.2.2.1 (Int.toNat i2))).2))))]))))) (yS K p 0 (List.take pC.length pC) (List.take pD.length pD) (List.take x2.length x2) ([]:List Qd)))):yT K p i2 pC pD x2 :=
 Loop.of h
theorem QAw(p:Qm)(i1:Int)(pE:List Qo)(x1:List Qc) (h :
 let z1:=id (α:=Qc) (aq Qy p.2.1 (Int.toNat i1))
 (aI (decide (i1<((p.2.1).length:Int))) (((0<=i1/\Int.toNat i1<(p.2.1).length)/\((Qt (α:=Qc) (aq Qy p.2.1 (Int.toNat i1)))/\((x1.length=x1.length\/x1.length+1<=x1.length)/\x1.length+1<=ca)))/\(yU K p (aG (i1+1)) (List.take pE.length pE) (List.take (x1.length+1) ((List.take x1.length x1)++([(z1.1,z1.2.1,z1.2.2.1,z1.2.2.2.1,z1.2.2.2.2.1,(List.take ((z1.2.2.2.2.2.1).length) (List.drop 0 (z1.2.2.2.2.2.1))),z1.2.2.2.2.2.2.1,z1.2.2.2.2.2.2.2.1,z1.2.2.2.2.2.2.2.2.1,z1.2.2.2.2.2.2.2.2.2.1,z1.2.2.2.2.2.2.2.2.2.2.1,z1.2.2.2.2.2.2.2.2.2.2.2.1,z1.2.2.2.2.2.2.2.2.2.2.2.2.1,z1.2.2.2.2.2.2.2.2.2.2.2.2.2)]))))) (yT K p 0 (List.take pE.length pE) (List.take x1.length x1) ([]:List Qd)))):yU K p i1 pE x1 :=
 Loop.of h
theorem QzC(p:Qm)(i:Int)(x0:List Qo) (h :
 (aI (decide (i<((p.1).length:Int))) (((0<=i/\Int.toNat i<(p.1).length)/\(((0=0\/0+((aq QW p.1 (Int.toNat i)).1).length<=0)/\0+((aq QW p.1 (Int.toNat i)).1).length<=ca)/\((0<=i/\Int.toNat i<(p.1).length)/\(((0=0\/0+((aq QW p.1 (Int.toNat i)).2).length<=0)/\0+((aq QW p.1 (Int.toNat i)).2).length<=ca)/\((x0.length=x0.length\/x0.length+1<=x0.length)/\x0.length+1<=ca)))))/\(C2 K p (aG (i+1)) (List.take (x0.length+1) ((List.take x0.length x0)++([((List.take (0+((aq QW p.1 (Int.toNat i)).1).length) (List.drop 0 ((aq QW p.1 (Int.toNat i)).1))),(List.take (0+((aq QW p.1 (Int.toNat i)).2).length) (List.drop 0 ((aq QW p.1 (Int.toNat i)).2))))]))))) (yU K p 0 (List.take x0.length x0) ([]:List Qc)))):C2 K p i x0 :=
 Loop.of h
theorem QJD(p:Qm)(hp:Qt (α:=Qm) p):aK Tryz.prog 143 [(.a (aT.cells QR p))] (Js (id (α:=Qm) p)):=by
 refine bz nY QRy QDA 0 0 93 Nb (kc CA (kc MO kn)) (λK =>
 (C2 K p 0 ([]:List Qo))) (λhb=>?_)
 have iO:Sz.sz p<=2147483648:=hp;have hs:Sz.sz p=Sz.sz p.1+Sz.sz p.2.1+Sz.sz p.2.2.1+Sz.sz p.2.2.2:=uw p;have k8:yS (λr'=>r'=Js (id (α:=Qm) p)) p 0 p.1 p.2.1 p.2.2.1 ([]):=by
  refine YC (l:=p.2.2.2) (A:=λi v=>yS (λr'=>r'=Js (id (α:=Qm) p)) p i p.1 p.2.1 p.2.2.1 v) (Q:=λz=>Js (p.1,p.2.1,p.2.2.1,z)=Js (id (α:=Qm) p)) (by omega) (λk x v hk hl hg hv hx ih=>?_) (λhq=>?_) (au rfl)
  ·refine Qwb _ _ _ _ _ _ _ ⟨λ_=>?_,λh=>by simp at h;omega⟩;rw[Int.toNat_natCast,hg,dP (by omega),Q8];simp only[id,List.drop_zero,List.take_length];exact⟨⟨⟨by omega,hk⟩,by unfold Qt;omega,(by first | exact room (by omega) | (simp[Zg];omega))⟩,ih⟩
  ·refine Qwb _ _ _ _ _ _ _ ⟨λh=>by simp at h,λ_=>?_⟩;simp only[id,List.drop_zero,List.take_length]
   first | done | exact hq | trivial
 have k6:yT (λr'=>r'=Js (id (α:=Qm) p)) p 0 p.1 p.2.1 ([]):=by
  refine YC (l:=p.2.2.1) (A:=λi v=>yT (λr'=>r'=Js (id (α:=Qm) p)) p i p.1 p.2.1 v) (Q:=λz=>z=p.2.2.1) (by omega) (λk x v hk hl hg hv hx ih=>?_) (λhq=>?_) rfl
  ·refine Qsg _ _ _ _ _ _ ⟨λ_=>?_,λh=>by simp at h;omega⟩;rw[Int.toNat_natCast,hg,dP (by omega),Q8];simp only[id,List.drop_zero,List.take_length];exact⟨⟨⟨by omega,hk⟩,by unfold Qt;omega,(by first | exact room (by omega) | (simp[Zg];omega))⟩,ih⟩
  ·refine Qsg _ _ _ _ _ _ ⟨λh=>by simp at h,λ_=>?_⟩;simp only[id,List.drop_zero,List.take_length];exact k8
 have k4:yU (λr'=>r'=Js (id (α:=Qm) p)) p 0 p.1 ([]):=by
  refine YC (l:=p.2.1) (A:=λi v=>yU (λr'=>r'=Js (id (α:=Qm) p)) p i p.1 v) (Q:=λz=>z=p.2.1) (by omega) (λk x v hk hl hg hv hx ih=>?_) (λhq=>?_) rfl
  ·refine QAw _ _ _ _ _ ⟨λ_=>?_,λh=>by simp at h;omega⟩;rw[Int.toNat_natCast,hg,dP (by omega),Q8];simp only[id,List.drop_zero,List.take_length];exact⟨⟨⟨by omega,hk⟩,by unfold Qt;omega,(by first | exact room (by omega) | (simp[Zg];omega))⟩,ih⟩
  ·refine QAw _ _ _ _ _ ⟨λh=>by simp at h,λ_=>?_⟩;simp only[id,List.drop_zero,List.take_length];exact k6
 refine YC (l:=p.1) (A:=λi v=>C2 (λr'=>r'=Js (id (α:=Qm) p)) p i v) (Q:=λz=>z=p.1) (by omega) (λk x v hk hl hg hv hx ih=>?_) (λhq=>?_) rfl
 ·refine QzC _ _ _ _ ⟨λ_=>?_,λh=>by simp at h;omega⟩;simp only[QP]at hx;have h1:=ZH x.1;have h2:=ZH x.2;rw[Int.toNat_natCast,hg,dP (by omega),Q8,tJ,tJ];exact⟨⟨⟨by omega,hk⟩,⟨.inl rfl,by rw[Zg];omega⟩,⟨by omega,hk⟩,⟨.inl rfl,by rw[Zg];omega⟩,(by first | exact room (by omega) | (simp[Zg];omega))⟩,ih⟩
 ·refine QzC _ _ _ _ ⟨λh=>by simp at h,λ_=>?_⟩;rw[List.take_length];exact k4
theorem QNw:Qf Tryz.prog Nb:=Qh λx h=>QJD x.1 h
def Jb(t:Qm):aB:=⟨(.a [(.r QG 0 0 ((t.1).length)),(.r Qe 1 0 ((t.2.1).length)),(.r Qj 2 0 ((t.2.2.1).length)),(.r Qj 3 0 ((t.2.2.2).length))]),[(.sl 154 QG (.dp 0 true []) t.1),(.sl 39 Qe (.dp 0 true []) t.2.1),(.sl 161 Qj (.dp 0 true []) t.2.2.1),(.sl 161 Qj (.dp 0 true []) t.2.2.2)],[],false,[]⟩
def Nc:aJ:=Qg 50 [(.a QR),(.c TI)] λx=>(some (sr x.1 x.2.1),Jb (ZA x.1 x.2.1))
def QXO:aF:=⟨[Na,M8,CZ,MR,Mr,MP,Mu,Mw],true⟩
def QTo:af :=
 (ag [(.ae [aC 2 (.box 56 0 4),aC 4 (.new 56 (bG QR))]),(.ae [a9 15 2 4,aD 16 147 [15],aC 5 (.new 56 (bG QR)),aV 5 16 4]),(ag [(.ae [a9 17 2 4,ab 18 1,aD 19 92 [17,18],bL 20 19]),(.cond 20 (ag [(.ae [a9 21 5 4,aV 4 21 4]),.ret]) .skip)]),(.ae [ak 22 5 1,an 23 22 1,ab 24 1,aZ 25 23 24 Qe,a9 26 25 14,aC 6 (.new 39 (bG Qe)),aV 6 26 14]),(.ae [a9 27 2 4,ab 28 1,aD 29 148 [27,28],aC 7 (.new 175 (bG QO)),aV 7 29 2]),(ag [(.ae [ak 30 7 0,an 31 30 1]),(.block 0 (ag [(.ae [aw 33 .eql 31 (ar 1),ab 32 33]),(.cond 32 (ag [(.ae [ak 35 5 2,an 36 35 1,ab 37 1,aw 38 .sub 37 (ar 1),aZ 39 36 38 Qj,a9 40 39 2,aD 41 149 [40],ab 34 41,bF 42 34 0,bF 43 34 1,bF 44 34 2,aC 8 (.new 161 (bG Qj)),aC 9 (.new 178 (bG Qs)),aV 8 42 2,aV 9 43 2,ab 10 44]),(.ae [ak 45 5 2,an 46 45 1,ab 47 1,aw 48 .sub 47 (ar 1),a9 49 8 2,aZ 50 46 48 Qj,aV 50 49 2]),(.ae [ak 51 9 1,an 52 51 1,ak 53 6 7,aV 53 52 1])]) (ag [(.ae [aw 55 .eql 31 (ar 2),ab 54 55]),(.cond 54 (ag [(.ae [ak 56 6 7,an 57 56 1,ab 11 57]),(ag [(.ae [ab 58 1,aw 59 .eql 58 (ar 0)]),(.cond 59 (.ae [ak 60 5 0,an 61 60 1,ak 62 7 1,an 63 62 1,aZ 64 61 63 QG,ak 65 64 0,an 66 65 1,ab 11 66]) .skip)]),(.draw [a9 67 6 14,ak 68 7 1,an 69 68 1,ab 70 11,ak 71 5 0,an 72 71 1,ak 73 7 1,an 74 73 1,aZ 75 72 74 QG,ak 76 75 1,an 77 76 1,aD 78 30 [67,69,70,77],aV 6 78 14] [])]) (ag [(.ae [aw 80 .eql 31 (ar 3),ab 79 80]),(.cond 79 (ag [(.draw [ak 82 5 2,an 83 82 1,ab 84 1,ak 85 5 2,an 86 85 1,ab 87 1,aZ 88 86 87 Qj,a9 89 88 2,ak 90 7 1,an 91 90 1,ak 92 6 8,an 93 92 1,aC 94 (.build (bG Qs) [(0,1,91),(1,1,93)]),aD 95 150 [89,94],ab 81 95,bF 96 81 0,bF 97 81 1,aZ 98 83 84 Qj,aV 98 96 2] [(0,13),(1,13)]),(.ae [ak 99 6 8,aV 99 (.k (.n [TI])) 1])]) (ag [(.ae [aw 101 .eql 31 (ar 4),ab 100 101]),(.cond 100 (ag [(.ae [ak 103 5 3,an 104 103 1,ab 105 1,aZ 106 104 105 Qj,a9 107 106 2,aD 108 149 [107],ab 102 108,bF 109 102 0,bF 110 102 1,bF 111 102 2,aC 12 (.new 161 (bG Qj)),aC 13 (.new 178 (bG Qs)),aV 12 109 2,aV 13 110 2,ab 14 111]),(.ae [ak 112 5 3,an 113 112 1,ab 114 1,a9 115 12 2,aZ 116 113 114 Qj,aV 116 115 2]),(.ae [ak 117 13 1,an 118 117 1,ak 119 6 9,aV 119 118 1])]) (ag [(.ae [aw 121 .eql 31 (ar 5),ab 120 121]),(.cond 120 (.ae [a9 122 6 14,ak 123 7 1,an 124 123 1,aD 125 15 [122,124],aV 6 125 14]) (ag [(.ae [aw 127 .eql 31 (ar 6),ab 126 127]),(.cond 126 (ag [(.draw [a9 128 6 14,ak 129 7 1,an 130 129 1,ak 131 5 0,an 132 131 1,ak 133 7 1,an 134 133 1,aZ 135 132 134 QG,ak 136 135 1,an 137 136 1,aD 138 32 [128,130,137],aV 6 138 14] []),(.ae [ab 139 1,aw 140 .eql 139 (ar 0)]),(.cond 140 (.ae [ak 141 6 10,aV 141 (.k (.n [TI])) 1]) .skip)]) (ag [(.ae [aw 143 .eql 31 (ar 7),ab 142 143]),(.cond 142 (ag [(.draw [ak 145 5 3,an 146 145 1,ab 147 1,aw 148 .sub 147 (ar 1),ak 149 5 3,an 150 149 1,ab 151 1,aw 152 .sub 151 (ar 1),aZ 153 150 152 Qj,a9 154 153 2,ak 155 7 1,an 156 155 1,ak 157 6 10,an 158 157 1,aC 159 (.build (bG Qs) [(0,1,156),(1,1,158)]),aD 160 150 [154,159],ab 144 160,bF 161 144 0,bF 162 144 1,aZ 163 146 148 Qj,aV 163 161 2] [(0,15),(1,15)]),(.ae [ak 164 6 10,aV 164 (.k (.n [TI])) 1])]) .skip)]))]))]))]))]))]))]))]),(.ae [ak 165 6 0,an 166 165 1,aw 167 .add 166 (ar 1),ak 168 6 0,aV 168 167 1]),(.ae [ak 169 5 1,an 170 169 1,ab 171 1,a9 172 6 14,aZ 173 170 171 Qe,aV 173 172 14]),(.ae [a9 174 5 4,aV 4 174 4]),.ret])
def QMa:List (bn × Md):=[(.l 4 4 true,.b [.p 154,.p 39,.p 161,.p 161])]
theorem QH0(p:Qm)(s:Int)(hp:sr p s):aK Tryz.prog 50 [(.a (aT.cells QR p)),(.c TI s)] (Jb (ZA p s)):=by
 refine bz QXO QTo QMa 0 0 175 Nc (kc QHZ (kc QX3 (kc QuF (kc QQS (kc QNG (kc QXg (kc QFo (kc QU0 kn)))))))) (λK =>
 let z3:=id (α:=Qm) p
 let z1:=aq Qy (z3.2.1) (0+(Int.toNat s))
 let z7:=Yn z1 ((Qk p s).2)
 let z9:=List.take ((z3.2.2.1).length) (z3.2.2.1)
 let eX:=List.take ((z3.2.2.2).length) (z3.2.2.2)
 let eW:=List.take ((z3.1).length) (z3.1)
 let dQ:=aq Qv (z3.2.2.2) (0+(Int.toNat s))
 let gW:=Int.toNat ((Qk p s).2)
 let z2:=aq QW (z3.1) (0+gW)
 let z4:=ZD z1 ((Qk p s).2) (z2.2)
 let z5:=ZV z1 ((Qk p s).2) (z1.2.2.2.2.2.2.2.1) (z2.2)
 let z6:=ZV z1 ((Qk p s).2) (z2.1) (z2.2)
 let kS:=List.take ((z4.2.2.2.2.2.2.2.2.2.2.2.1).length) (List.drop 0 (z4.2.2.2.2.2.2.2.2.2.2.2.1))
 let kT:=List.take ((z4.2.2.2.2.2.2.2.2.2.1).length) (List.drop 0 (z4.2.2.2.2.2.2.2.2.2.1))
 let mA:=List.take ((z4.2.2.2.2.2.2.2.2.1).length) (List.drop 0 (z4.2.2.2.2.2.2.2.2.1))
 let mB:=List.take ((z4.2.2.2.2.2.2.2.1).length) (List.drop 0 (z4.2.2.2.2.2.2.2.1))
 let kU:=aG (s-1)
 let z8:=Int.toNat kU
 let gy:=Z4 (aq Qv (z3.2.2.2) (0+z8)) ((Qk p s).2,z1.2.2.2.2.2.2.2.2.2.2.1)
 let gV:=Ze (aq Qv (z3.2.2.1) (0+z8))
 let kb:=List.take ((z4.2.2.2.2.2.2.1).length) (List.drop 0 (z4.2.2.2.2.2.2.1))
 let ke:=List.take ((z4.2.2.2.2.2.1).length) (List.drop 0 (z4.2.2.2.2.2.1))
 let mC:=List.take ((z4.2.2.1).length) (List.drop 0 (z4.2.2.1))
 let mD:=List.take ((z4.2.1).length) (List.drop 0 (z4.2.1))
 let su:=aq Qv (z3.2.2.1) (0+(Int.toNat s))
 let gx:=Z4 su ((Qk p s).2,z1.2.2.2.2.2.2.2.2.1)
 ((Qt (α:=Qm) p)/\(aI (!(ZG p s)) (K (Jb (eW,(List.take ((z3.2.1).length) (z3.2.1)),z9,eX))) (((0<=s/\Int.toNat s<(z3.2.1).length)/\((0+(Int.toNat s))<(z3.2.1).length))/\(aI (((Qk p s).1)==1) (((0<=aG (s-1)/\Int.toNat kU<(z3.2.2.1).length)/\(((0+z8)<(z3.2.2.1).length)/\(Qt (α:=Qd) (aq Qv (z3.2.2.1) (0+z8)))))/\(((0<=aG (s-1)/\Int.toNat kU<(z3.2.2.1).length)/\((0+z8)<(z3.2.2.1).length))/\(((0<=s/\Int.toNat s<(z3.2.1).length)/\(((0+(Int.toNat s))<(z3.2.1).length)/\(((0+(Int.toNat s))=(0+(Int.toNat s)))/\(((0+(Int.toNat s))=(0+(Int.toNat s)))/\(((0+(Int.toNat s))=(0+(Int.toNat s)))/\(((0+(Int.toNat s))=(0+(Int.toNat s)))/\(((0+(Int.toNat s))=(0+(Int.toNat s)))/\(((0+(Int.toNat s))=(0+(Int.toNat s)))/\(((0+(Int.toNat s))=(0+(Int.toNat s)))/\((0+(Int.toNat s))=(0+(Int.toNat s))))))))))))/\K (Jb (eW,(List.take ((z3.2.1).length) ((z3.2.1).set (0+(Int.toNat s)) (aG ((z1.1)+1),z1.2.1,z1.2.2.1,z1.2.2.2.1,z1.2.2.2.2.1,z1.2.2.2.2.2.1,z1.2.2.2.2.2.2.1,(List.take (((gV.2.1).2).length) (List.drop 0 ((gV.2.1).2))),z1.2.2.2.2.2.2.2.2.1,z1.2.2.2.2.2.2.2.2.2.1,z1.2.2.2.2.2.2.2.2.2.2.1,z1.2.2.2.2.2.2.2.2.2.2.2.1,z1.2.2.2.2.2.2.2.2.2.2.2.2.1,z1.2.2.2.2.2.2.2.2.2.2.2.2.2))),(List.take ((z3.2.2.1).length) ((z3.2.2.1).set (0+z8) ((gV.1).1,(List.take (((gV.1).2).length) (List.drop 0 ((gV.1).2)))))),eX))))) (aI (((Qk p s).1)==2) (aI (s==0) ((((0:Int)<=(Qk p s).2/\Int.toNat ((Qk p s).2)<(z3.1).length)/\((0+gW)<(z3.1).length))/\((((0:Int)<=(Qk p s).2/\Int.toNat ((Qk p s).2)<(z3.1).length)/\(((0+gW)<(z3.1).length)/\(JJ z1 ((Qk p s).2) (z2.1) (z2.2))))/\(((0<=s/\Int.toNat s<(z3.2.1).length)/\((0+(Int.toNat s))<(z3.2.1).length))/\K (Jb (eW,(List.take ((z3.2.1).length) ((z3.2.1).set (0+(Int.toNat s)) (aG ((z6.1)+1),(List.take ((z6.2.1).length) (List.drop 0 (z6.2.1))),(List.take ((z6.2.2.1).length) (List.drop 0 (z6.2.2.1))),z6.2.2.2.1,z6.2.2.2.2.1,(List.take ((z6.2.2.2.2.2.1).length) (List.drop 0 (z6.2.2.2.2.2.1))),(List.take ((z6.2.2.2.2.2.2.1).length) (List.drop 0 (z6.2.2.2.2.2.2.1))),(List.take ((z6.2.2.2.2.2.2.2.1).length) (List.drop 0 (z6.2.2.2.2.2.2.2.1))),(List.take ((z6.2.2.2.2.2.2.2.2.1).length) (List.drop 0 (z6.2.2.2.2.2.2.2.2.1))),(List.take ((z6.2.2.2.2.2.2.2.2.2.1).length) (List.drop 0 (z6.2.2.2.2.2.2.2.2.2.1))),(List.take ((z6.2.2.2.2.2.2.2.2.2.2.1).length) (List.drop 0 (z6.2.2.2.2.2.2.2.2.2.2.1))),(List.take ((z6.2.2.2.2.2.2.2.2.2.2.2.1).length) (List.drop 0 (z6.2.2.2.2.2.2.2.2.2.2.2.1))),z6.2.2.2.2.2.2.2.2.2.2.2.2.1,z6.2.2.2.2.2.2.2.2.2.2.2.2.2))),z9,eX))))) ((((0:Int)<=(Qk p s).2/\Int.toNat ((Qk p s).2)<(z3.1).length)/\(((0+gW)<(z3.1).length)/\(JJ z1 ((Qk p s).2) (z1.2.2.2.2.2.2.2.1) (z2.2))))/\(((0<=s/\Int.toNat s<(z3.2.1).length)/\((0+(Int.toNat s))<(z3.2.1).length))/\K (Jb (eW,(List.take ((z3.2.1).length) ((z3.2.1).set (0+(Int.toNat s)) (aG ((z5.1)+1),(List.take ((z5.2.1).length) (List.drop 0 (z5.2.1))),(List.take ((z5.2.2.1).length) (List.drop 0 (z5.2.2.1))),z5.2.2.2.1,z5.2.2.2.2.1,(List.take ((z5.2.2.2.2.2.1).length) (List.drop 0 (z5.2.2.2.2.2.1))),(List.take ((z5.2.2.2.2.2.2.1).length) (List.drop 0 (z5.2.2.2.2.2.2.1))),(List.take ((z5.2.2.2.2.2.2.2.1).length) (List.drop 0 (z5.2.2.2.2.2.2.2.1))),(List.take ((z5.2.2.2.2.2.2.2.2.1).length) (List.drop 0 (z5.2.2.2.2.2.2.2.2.1))),(List.take ((z5.2.2.2.2.2.2.2.2.2.1).length) (List.drop 0 (z5.2.2.2.2.2.2.2.2.2.1))),(List.take ((z5.2.2.2.2.2.2.2.2.2.2.1).length) (List.drop 0 (z5.2.2.2.2.2.2.2.2.2.2.1))),(List.take ((z5.2.2.2.2.2.2.2.2.2.2.2.1).length) (List.drop 0 (z5.2.2.2.2.2.2.2.2.2.2.2.1))),z5.2.2.2.2.2.2.2.2.2.2.2.2.1,z5.2.2.2.2.2.2.2.2.2.2.2.2.2))),z9,eX))))) (aI (((Qk p s).1)==3) (((0<=s/\Int.toNat s<(z3.2.2.1).length)/\(((0+(Int.toNat s))<(z3.2.2.1).length)/\((Zp (α:=Qd) (β:=Ql) su ((Qk p s).2,z1.2.2.2.2.2.2.2.2.1))/\((0<=s/\Int.toNat s<(z3.2.2.1).length)/\((0+(Int.toNat s))<(z3.2.2.1).length)))))/\(((0<=s/\Int.toNat s<(z3.2.1).length)/\(((0+(Int.toNat s))<(z3.2.1).length)/\(((0+(Int.toNat s))=(0+(Int.toNat s)))/\(((0+(Int.toNat s))=(0+(Int.toNat s)))/\(((0+(Int.toNat s))=(0+(Int.toNat s)))/\(((0+(Int.toNat s))=(0+(Int.toNat s)))/\(((0+(Int.toNat s))=(0+(Int.toNat s)))/\(((0+(Int.toNat s))=(0+(Int.toNat s)))/\(((0+(Int.toNat s))=(0+(Int.toNat s)))/\((0+(Int.toNat s))=(0+(Int.toNat s))))))))))))/\K (Jb (eW,(List.take ((z3.2.1).length) ((z3.2.1).set (0+(Int.toNat s)) (aG ((z1.1)+1),z1.2.1,z1.2.2.1,z1.2.2.2.1,z1.2.2.2.2.1,z1.2.2.2.2.2.1,z1.2.2.2.2.2.2.1,z1.2.2.2.2.2.2.2.1,[],z1.2.2.2.2.2.2.2.2.2.1,z1.2.2.2.2.2.2.2.2.2.2.1,z1.2.2.2.2.2.2.2.2.2.2.2.1,z1.2.2.2.2.2.2.2.2.2.2.2.2.1,z1.2.2.2.2.2.2.2.2.2.2.2.2.2))),(List.take ((z3.2.2.1).length) ((z3.2.2.1).set (0+(Int.toNat s)) ((gx.1).1,(List.take (((gx.1).2).length) (List.drop 0 ((gx.1).2)))))),eX)))) (aI (((Qk p s).1)==4) (((0<=s/\Int.toNat s<(z3.2.2.2).length)/\(((0+(Int.toNat s))<(z3.2.2.2).length)/\(Qt (α:=Qd) dQ)))/\(((0<=s/\Int.toNat s<(z3.2.2.2).length)/\((0+(Int.toNat s))<(z3.2.2.2).length))/\(((0<=s/\Int.toNat s<(z3.2.1).length)/\(((0+(Int.toNat s))<(z3.2.1).length)/\(((0+(Int.toNat s))=(0+(Int.toNat s)))/\(((0+(Int.toNat s))=(0+(Int.toNat s)))/\(((0+(Int.toNat s))=(0+(Int.toNat s)))/\(((0+(Int.toNat s))=(0+(Int.toNat s)))/\(((0+(Int.toNat s))=(0+(Int.toNat s)))/\(((0+(Int.toNat s))=(0+(Int.toNat s)))/\(((0+(Int.toNat s))=(0+(Int.toNat s)))/\((0+(Int.toNat s))=(0+(Int.toNat s))))))))))))/\K (Jb (eW,(List.take ((z3.2.1).length) ((z3.2.1).set (0+(Int.toNat s)) (aG ((z1.1)+1),z1.2.1,z1.2.2.1,z1.2.2.2.1,z1.2.2.2.2.1,z1.2.2.2.2.2.1,z1.2.2.2.2.2.2.1,z1.2.2.2.2.2.2.2.1,z1.2.2.2.2.2.2.2.2.1,(List.take ((((Ze dQ).2.1).2).length) (List.drop 0 (((Ze dQ).2.1).2))),z1.2.2.2.2.2.2.2.2.2.2.1,z1.2.2.2.2.2.2.2.2.2.2.2.1,z1.2.2.2.2.2.2.2.2.2.2.2.2.1,z1.2.2.2.2.2.2.2.2.2.2.2.2.2))),z9,(List.take ((z3.2.2.2).length) ((z3.2.2.2).set (0+(Int.toNat s)) (((Ze dQ).1).1,(List.take ((((Ze dQ).1).2).length) (List.drop 0 (((Ze dQ).1).2))))))))))) (aI (((Qk p s).1)==5) ((pf z1 ((Qk p s).2))/\(((0<=s/\Int.toNat s<(z3.2.1).length)/\((0+(Int.toNat s))<(z3.2.1).length))/\K (Jb (eW,(List.take ((z3.2.1).length) ((z3.2.1).set (0+(Int.toNat s)) (aG ((z7.1)+1),(List.take ((z7.2.1).length) (List.drop 0 (z7.2.1))),(List.take ((z7.2.2.1).length) (List.drop 0 (z7.2.2.1))),z7.2.2.2.1,z7.2.2.2.2.1,(List.take ((z7.2.2.2.2.2.1).length) (List.drop 0 (z7.2.2.2.2.2.1))),(List.take ((z7.2.2.2.2.2.2.1).length) (List.drop 0 (z7.2.2.2.2.2.2.1))),(List.take ((z7.2.2.2.2.2.2.2.1).length) (List.drop 0 (z7.2.2.2.2.2.2.2.1))),(List.take ((z7.2.2.2.2.2.2.2.2.1).length) (List.drop 0 (z7.2.2.2.2.2.2.2.2.1))),(List.take ((z7.2.2.2.2.2.2.2.2.2.1).length) (List.drop 0 (z7.2.2.2.2.2.2.2.2.2.1))),(List.take ((z7.2.2.2.2.2.2.2.2.2.2.1).length) (List.drop 0 (z7.2.2.2.2.2.2.2.2.2.2.1))),(List.take ((z7.2.2.2.2.2.2.2.2.2.2.2.1).length) (List.drop 0 (z7.2.2.2.2.2.2.2.2.2.2.2.1))),z7.2.2.2.2.2.2.2.2.2.2.2.2.1,z7.2.2.2.2.2.2.2.2.2.2.2.2.2))),z9,eX)))) (aI (((Qk p s).1)==6) ((((0:Int)<=(Qk p s).2/\Int.toNat ((Qk p s).2)<(z3.1).length)/\(((0+gW)<(z3.1).length)/\(pg z1 ((Qk p s).2) (z2.2))))/\(aI (s==0) (((0<=s/\Int.toNat s<(z3.2.1).length)/\((0+(Int.toNat s))<(z3.2.1).length))/\K (Jb (eW,(List.take ((z3.2.1).length) ((z3.2.1).set (0+(Int.toNat s)) (aG ((z4.1)+1),mD,mC,z4.2.2.2.1,z4.2.2.2.2.1,ke,kb,mB,mA,kT,[],kS,z4.2.2.2.2.2.2.2.2.2.2.2.2.1,z4.2.2.2.2.2.2.2.2.2.2.2.2.2))),z9,eX))) (((0<=s/\Int.toNat s<(z3.2.1).length)/\((0+(Int.toNat s))<(z3.2.1).length))/\K (Jb (eW,(List.take ((z3.2.1).length) ((z3.2.1).set (0+(Int.toNat s)) (aG ((z4.1)+1),mD,mC,z4.2.2.2.1,z4.2.2.2.2.1,ke,kb,mB,mA,kT,(List.take ((z4.2.2.2.2.2.2.2.2.2.2.1).length) (List.drop 0 (z4.2.2.2.2.2.2.2.2.2.2.1))),kS,z4.2.2.2.2.2.2.2.2.2.2.2.2.1,z4.2.2.2.2.2.2.2.2.2.2.2.2.2))),z9,eX))))) (aI (((Qk p s).1)==7) (((0<=aG (s-1)/\Int.toNat kU<(z3.2.2.2).length)/\(((0+z8)<(z3.2.2.2).length)/\((Zp (α:=Qd) (β:=Ql) (aq Qv (z3.2.2.2) (0+z8)) ((Qk p s).2,z1.2.2.2.2.2.2.2.2.2.2.1))/\((0<=aG (s-1)/\Int.toNat kU<(z3.2.2.2).length)/\((0+z8)<(z3.2.2.2).length)))))/\(((0<=s/\Int.toNat s<(z3.2.1).length)/\(((0+(Int.toNat s))<(z3.2.1).length)/\(((0+(Int.toNat s))=(0+(Int.toNat s)))/\(((0+(Int.toNat s))=(0+(Int.toNat s)))/\(((0+(Int.toNat s))=(0+(Int.toNat s)))/\(((0+(Int.toNat s))=(0+(Int.toNat s)))/\(((0+(Int.toNat s))=(0+(Int.toNat s)))/\(((0+(Int.toNat s))=(0+(Int.toNat s)))/\(((0+(Int.toNat s))=(0+(Int.toNat s)))/\((0+(Int.toNat s))=(0+(Int.toNat s))))))))))))/\K (Jb (eW,(List.take ((z3.2.1).length) ((z3.2.1).set (0+(Int.toNat s)) (aG ((z1.1)+1),z1.2.1,z1.2.2.1,z1.2.2.2.1,z1.2.2.2.2.1,z1.2.2.2.2.2.1,z1.2.2.2.2.2.2.1,z1.2.2.2.2.2.2.2.1,z1.2.2.2.2.2.2.2.2.1,z1.2.2.2.2.2.2.2.2.2.1,[],z1.2.2.2.2.2.2.2.2.2.2.2.1,z1.2.2.2.2.2.2.2.2.2.2.2.2.1,z1.2.2.2.2.2.2.2.2.2.2.2.2.2))),z9,(List.take ((z3.2.2.2).length) ((z3.2.2.2).set (0+z8) ((gy.1).1,(List.take (((gy.1).2).length) (List.drop 0 ((gy.1).2)))))))))) (((0<=s/\Int.toNat s<(z3.2.1).length)/\(((0+(Int.toNat s))<(z3.2.1).length)/\(((0+(Int.toNat s))=(0+(Int.toNat s)))/\(((0+(Int.toNat s))=(0+(Int.toNat s)))/\(((0+(Int.toNat s))=(0+(Int.toNat s)))/\(((0+(Int.toNat s))=(0+(Int.toNat s)))/\(((0+(Int.toNat s))=(0+(Int.toNat s)))/\(((0+(Int.toNat s))=(0+(Int.toNat s)))/\(((0+(Int.toNat s))=(0+(Int.toNat s)))/\(((0+(Int.toNat s))=(0+(Int.toNat s)))/\((0+(Int.toNat s))=(0+(Int.toNat s)))))))))))))/\K (Jb (eW,(List.take ((z3.2.1).length) ((z3.2.1).set (0+(Int.toNat s)) (aG ((z1.1)+1),z1.2.1,z1.2.2.1,z1.2.2.2.1,z1.2.2.2.2.1,z1.2.2.2.2.2.1,z1.2.2.2.2.2.2.1,z1.2.2.2.2.2.2.2.1,z1.2.2.2.2.2.2.2.2.1,z1.2.2.2.2.2.2.2.2.2.1,z1.2.2.2.2.2.2.2.2.2.2.1,z1.2.2.2.2.2.2.2.2.2.2.2.1,z1.2.2.2.2.2.2.2.2.2.2.2.2.1,z1.2.2.2.2.2.2.2.2.2.2.2.2.2))),z9,eX)))))))))))))) (λhb=>?_)
 conv=>zeta
 have iO:Sz.sz p<=1073741824:=hp;have hs:Sz.sz p=Sz.sz p.1+Sz.sz p.2.1+Sz.sz p.2.2.1+Sz.sz p.2.2.2:=uw p;simp only[id,List.drop_zero,List.take_length,Nat.zero_add,and_true,true_and,and_self];refine⟨by unfold Qt;omega,λh=>au ?_,λh=>?_⟩
 ·rw[QDK (by simpa using h)]
 have he:ZG p s=true:=by simpa using h
 obtain⟨k,rfl,hk,h4,ha,hb,iN,pF,vB,c1,c3,c4,c7,gU⟩:=QA7 he;have ph:=Qyg iN;have pY:=nX Qy p.2.1 k;have hx:=ZL (aq Qy p.2.1 k);have gA:=Ym (Qw (aq Qy p.2.1 k));have iK:=λj=>nX Qv p.2.2.1 j;have gh:=λj=>nX Qv p.2.2.2 j;have d0:Sz.sz Qy=0:=rfl;have d1:Sz.sz Qv=0:=rfl;have ts:∀(l:List Qd)(i:Nat)(v:Qd),List.take l.length (l.set i v)=l.set i v:=λl i v=>List.take_of_length_le (by simp);simp only[Int.toNat_natCast];have key:∀(y:Qc)(a b:List Qd),ZM p k (aq Qy p.2.1 k) (Qk p (k:Int))=(y,a,b)->y.1=(aq Qy p.2.1 k).1->((p.1,List.take p.2.1.length (p.2.1.set k (aG (y.1+1),y.2.1,y.2.2.1,y.2.2.2.1,y.2.2.2.2.1,y.2.2.2.2.2.1,y.2.2.2.2.2.2.1,y.2.2.2.2.2.2.2.1,y.2.2.2.2.2.2.2.2.1,y.2.2.2.2.2.2.2.2.2.1,y.2.2.2.2.2.2.2.2.2.2.1,y.2.2.2.2.2.2.2.2.2.2.2.1,y.2.2.2.2.2.2.2.2.2.2.2.2.1,y.2.2.2.2.2.2.2.2.2.2.2.2.2)),a,b):Qm)=ZA p (k:Int):=by
  intro y a b hy yV;have hw:aG (y.1+1)=y.1+1:=by rw[yV];exact QF (by((try simp only[bU,Qw,aE,Qn,Qp,Qi,QB,sX,sY,sG,sD,Qz,Qx,bh,QA,QE,Qr,Qq]at *);omega)) (by((try simp only[bU,Qw,aE,Qn,Qp,Qi,QB,sX,sY,sG,sD,Qz,Qx,bh,QA,QE,Qr,Qq]at *);omega))
  rw[QCj he rfl hy yV,hw,List.take_of_length_le (by simp)]
 refine⟨⟨⟨by omega,hk⟩,hk⟩,?_⟩;refine⟨λg=>?_,λn1=>?_⟩
 ·have g:(Qk p (k:Int)).1=1:=by simpa using g
  have g1:=c1 g;have e:aG ((k:Int)-1)=((k-1:Nat):Int):=by rw[QF (by omega) (by omega)];omega
  rw[e];simp only[Int.toNat_natCast];rw[ts];exact⟨⟨⟨by omega,by omega⟩,by omega,by unfold Qt;have:=iK (k-1);omega⟩,⟨⟨by omega,by omega⟩,by omega⟩,⟨⟨by omega,hk⟩,hk⟩,au (key (kM (aq Qy p.2.1 k) (Ze (aq Qv p.2.2.1 (k-1))).2.1.2) _ _ (pi1 g) rfl)⟩
 refine⟨λg=>?_,λn2=>?_⟩
 ·have g:(Qk p (k:Int)).1=2:=by simpa using g
  refine⟨λhz=>⟨⟨⟨pF,by omega⟩,by omega⟩,⟨⟨pF,by omega⟩,by omega,by unfold JJ;omega⟩,⟨⟨by omega,hk⟩,hk⟩,au (key (ZV (aq Qy p.2.1 k) (Qk p (k:Int)).2 (aq QW p.1 (Qk p (k:Int)).2.toNat).1 (aq QW p.1 (Qk p (k:Int)).2.toNat).2) _ _ ?_ (Mm _ _ _ _))⟩,λhz=>⟨⟨⟨pF,by omega⟩,by omega,by unfold JJ;omega⟩,⟨⟨by omega,hk⟩,hk⟩,au (key (ZV (aq Qy p.2.1 k) (Qk p (k:Int)).2 (sX (aq Qy p.2.1 k)) (aq QW p.1 (Qk p (k:Int)).2.toNat).2) _ _ ?_ (Mm _ _ _ _))⟩⟩
  ·rw[Mn g,if_pos (by simp at hz;omega)];try rfl
  ·rw[Mn g,if_neg (by simp at hz;omega)];try rfl
 refine⟨λg=>?_,λn3=>?_⟩
 ·have g:(Qk p (k:Int)).1=3:=by simpa using g
  have g1:=c3 g;rw[ts];refine⟨⟨⟨by omega,by omega⟩,by omega,?_,⟨by omega,by omega⟩,by omega⟩,⟨⟨by omega,hk⟩,hk⟩,au (key (kN (aq Qy p.2.1 k) []) _ _ (pi3 g) rfl)⟩;unfold Zp;simp only[YJ,QL];have:=iK (k);((try simp only[bU,Qw,aE,Qn,Qp,Qi,QB,sX,sY,sG,sD,Qz,Qx,bh,QA,QE,Qr,Qq]at *);omega)
 refine⟨λg=>?_,λn4=>?_⟩
 ·have g:(Qk p (k:Int)).1=4:=by simpa using g
  have g1:=c4 g;rw[ts];exact⟨⟨⟨by omega,by omega⟩,by omega,by unfold Qt;have:=gh (k);omega⟩,⟨⟨by omega,by omega⟩,by omega⟩,⟨⟨by omega,hk⟩,hk⟩,au (key (kO (aq Qy p.2.1 k) (Ze (aq Qv p.2.2.2 k)).2.1.2) _ _ (pi4 g) rfl)⟩
 refine⟨λg=>?_,λn5=>?_⟩
 ·have g:(Qk p (k:Int)).1=5:=by simpa using g
  exact⟨by unfold pf;omega,⟨⟨by omega,hk⟩,hk⟩,au (key (Yn (aq Qy p.2.1 k) (Qk p (k:Int)).2) _ _ (pi5 g) (QwX _ _))⟩
 refine⟨λg=>?_,λn6=>?_⟩
 ·have g:(Qk p (k:Int)).1=6:=by simpa using g
  refine⟨⟨⟨pF,by omega⟩,by omega,by unfold pg;omega⟩,λhz=>⟨⟨⟨by omega,hk⟩,hk⟩,au ?_⟩,λhz=>⟨⟨⟨by omega,hk⟩,hk⟩,au ?_⟩⟩
  ·exact key (gr (ZD (aq Qy p.2.1 k) (Qk p (k:Int)).2 (aq QW p.1 (Qk p (k:Int)).2.toNat).2) []) _ _ (by rw[Cw g,if_pos (by simp at hz;omega)]) (Cv _ _ _)
  ·exact key (ZD (aq Qy p.2.1 k) (Qk p (k:Int)).2 (aq QW p.1 (Qk p (k:Int)).2.toNat).2) _ _ (by rw[Cw g,if_neg (by simp at hz;omega)]) (Cv _ _ _)
 refine⟨λg=>?_,λn7=>?_⟩
 ·have g:(Qk p (k:Int)).1=7:=by simpa using g
  have g1:=c7 g;have e:aG ((k:Int)-1)=((k-1:Nat):Int):=by rw[QF (by omega) (by omega)];omega
  rw[e];simp only[Int.toNat_natCast];rw[ts];refine⟨⟨⟨by omega,by omega⟩,by omega,?_,⟨by omega,by omega⟩,by omega⟩,⟨⟨by omega,hk⟩,hk⟩,au (key (gr (aq Qy p.2.1 k) []) _ _ (pi7 g) rfl)⟩;unfold Zp;simp only[YJ,QL];have:=gh (k-1);((try simp only[bU,Qw,aE,Qn,Qp,Qi,QB,sX,sY,sG,sD,Qz,Qx,bh,QA,QE,Qr,Qq]at *);omega)
 ·simp at n1 n2 n3 n4 n5 n6 n7;exact⟨⟨⟨by omega,hk⟩,hk⟩,au (key (aq Qy p.2.1 k) _ _ (pi8 (by omega)) rfl)⟩
theorem QXS:Qf Tryz.prog Nc:=Qh λx h=>QH0 x.1 x.2.1 h
def uK(t:Qm):aB:=⟨(.a [(bf QG t.1),(.r Qe 0 0 ((t.2.1).length)),(.r Qj 1 0 ((t.2.2.1).length)),(bf Qj t.2.2.2)]),[(.sl 39 Qe .ow t.2.1),(.sl 161 Qj .ow t.2.2.1)],[],true,[]⟩
def Nd:aJ:=Qg 49 [(.a QR),(.c TI)] λx=>(some (sr x.1 x.2.1),uK (ZA x.1 x.2.1))
def C3:aF:=⟨[Nb,M6,CY,MS,Ms,MQ,Mv,MA],false⟩
def QB0:af :=
 (.draw [a9 71 7 14,ak 72 6 1,an 73 72 1,ab 74 11,ak 75 2 0,an 76 75 1,ak 77 6 1,an 78 77 1,aZ 79 76 78 QG,ak 80 79 1,an 81 80 1,aD 82 28 [71,73,74,81],aV 7 82 14] [])
def QWb:List (Nat × Md):=[(1,.one .d),(2,.b (dO 4)),(4,.b (dO 4)),(5,.b [.d,.f,.f,.f]),(6,.b [.d,.d]),(7,.b (dO 14)),(11,.one .d)]
def QTr:af:=.wk QWb QB0
def Qrj:af :=
 (ag [(.ae [ak 174 7 0,an 175 174 1,aw 176 .add 175 (ar 1),ak 177 7 0,aV 177 176 1]),(.ae [ak 178 5 1,an 179 178 1,ab 180 1,a9 181 7 14,aZ 182 179 180 Qe,aV 182 181 14]),(.ae [a9 183 5 4,aV 4 183 4]),.ret])
def QGk:List (Nat × Md):=[(1,.one .d),(4,.b (dO 4)),(5,.b [.d,.f,.f,.f]),(7,.b (dO 14))]
def Qyl:af:=.wk QGk Qrj
def QVv:af :=
 (ag [(.ae [aC 2 (.box 56 0 4),aC 4 (.new 56 (bG QR))]),(.ae [a9 19 2 4,aD 20 143 [19],aC 5 (.new 56 (bG QR)),aV 5 20 4]),(ag [(.ae [a9 21 2 4,ab 22 1,aD 23 89 [21,22],bL 24 23]),(.cond 24 (ag [(.ae [a9 25 5 4,aV 4 25 4]),.ret]) .skip)]),(.ae [a9 26 2 4,ab 27 1,aD 28 144 [26,27],aC 6 (.new 175 (bG QO)),aV 6 28 2]),(.ae [ak 29 5 1,an 30 29 1,ab 31 1,aZ 32 30 31 Qe,a9 33 32 14,aC 7 (.new 39 (bG Qe)),aV 7 33 14]),(ag [(.ae [ak 34 6 0,an 35 34 1]),(.block 0 (ag [(.ae [aw 37 .eql 35 (ar 1),ab 36 37]),(.cond 36 (ag [(.ae [ak 39 2 2,an 40 39 1,ab 41 1,aw 42 .sub 41 (ar 1),aZ 43 40 42 Qj,a9 44 43 2,aD 45 145 [44],ab 38 45,bF 46 38 0,bF 47 38 1,bF 48 38 2,aC 8 (.new 161 (bG Qj)),aC 9 (.new 178 (bG Qs)),aV 8 46 2,aV 9 47 2,ab 10 48]),(.ae [ak 49 5 2,an 50 49 1,ab 51 1,aw 52 .sub 51 (ar 1),a9 53 8 2,aZ 54 50 52 Qj,aV 54 53 2]),(.ae [ak 55 9 1,an 56 55 1,ak 57 7 7,aV 57 56 1])]) (ag [(.ae [aw 59 .eql 35 (ar 2),ab 58 59]),(.cond 58 (ag [(.ae [ak 60 7 7,an 61 60 1,ab 11 61]),(ag [(.ae [ab 62 1,aw 63 .eql 62 (ar 0)]),(.cond 63 (.ae [ak 64 2 0,an 65 64 1,ak 66 6 1,an 67 66 1,aZ 68 65 67 QG,ak 69 68 0,an 70 69 1,ab 11 70]) .skip)]),QTr]) (ag [(.ae [aw 84 .eql 35 (ar 3),ab 83 84]),(.cond 83 (ag [(.draw [ak 86 2 2,an 87 86 1,ab 88 1,aZ 89 87 88 Qj,a9 90 89 2,ak 91 6 1,an 92 91 1,ak 93 7 8,an 94 93 1,aC 95 (.build (bG Qs) [(0,1,92),(1,1,94)]),aD 96 146 [90,95],ab 85 96,bF 97 85 0,bF 98 85 1,aC 12 (.new 161 (bG Qj)),aV 12 97 2,ab 13 98] [(0,14),(1,14),(3,14),(4,14),(5,14),(6,14),(7,14),(8,14),(10,14)]),(.ae [ak 99 5 2,an 100 99 1,ab 101 1,a9 102 12 2,aZ 103 100 101 Qj,aV 103 102 2]),(.ae [aC 104 (.bW 3 [TI] []),ak 105 7 8,aV 105 104 1])]) (ag [(.ae [aw 107 .eql 35 (ar 4),ab 106 107]),(.cond 106 (ag [(.ae [ak 109 2 3,an 110 109 1,ab 111 1,aZ 112 110 111 Qj,a9 113 112 2,aD 114 145 [113],ab 108 114,bF 115 108 0,bF 116 108 1,bF 117 108 2,aC 14 (.new 161 (bG Qj)),aC 15 (.new 178 (bG Qs)),aV 14 115 2,aV 15 116 2,ab 16 117]),(.ae [ak 118 5 3,an 119 118 1,ab 120 1,a9 121 14 2,aZ 122 119 120 Qj,aV 122 121 2]),(.ae [ak 123 15 1,an 124 123 1,ak 125 7 9,aV 125 124 1])]) (ag [(.ae [aw 127 .eql 35 (ar 5),ab 126 127]),(.cond 126 (.ae [a9 128 7 14,ak 129 6 1,an 130 129 1,aD 131 13 [128,130],aV 7 131 14]) (ag [(.ae [aw 133 .eql 35 (ar 6),ab 132 133]),(.cond 132 (ag [(.draw [a9 134 7 14,ak 135 6 1,an 136 135 1,ak 137 2 0,an 138 137 1,ak 139 6 1,an 140 139 1,aZ 141 138 140 QG,ak 142 141 1,an 143 142 1,aD 144 31 [134,136,143],aV 7 144 14] []),(.ae [ab 145 1,aw 146 .eql 145 (ar 0)]),(.cond 146 (.ae [aC 147 (.bW 3 [TI] []),ak 148 7 10,aV 148 147 1]) .skip)]) (ag [(.ae [aw 150 .eql 35 (ar 7),ab 149 150]),(.cond 149 (ag [(.draw [ak 152 2 3,an 153 152 1,ab 154 1,aw 155 .sub 154 (ar 1),aZ 156 153 155 Qj,a9 157 156 2,ak 158 6 1,an 159 158 1,ak 160 7 10,an 161 160 1,aC 162 (.build (bG Qs) [(0,1,159),(1,1,161)]),aD 163 146 [157,162],ab 151 163,bF 164 151 0,bF 165 151 1,aC 17 (.new 161 (bG Qj)),aV 17 164 2,ab 18 165] [(0,15),(1,15),(4,15),(5,15),(6,15),(7,15),(8,15),(9,15),(11,15)]),(.ae [ak 166 5 3,an 167 166 1,ab 168 1,aw 169 .sub 168 (ar 1),a9 170 17 2,aZ 171 167 169 Qj,aV 171 170 2]),(.ae [aC 172 (.bW 3 [TI] []),ak 173 7 10,aV 173 172 1])]) .skip)]))]))]))]))]))]))]))]),Qyl])
def Qsp:List (bn × Md):=[(.l 4 4 true,.b [.d,.o 39,.o 161,.d])]
def Nf:Qb:=TQ 0 0 Qsp K
@[irreducible] def JH(p:Qm)(s:Int)(x1:List Qc)(x2:List Qd)(x3:List Qd)(C4:Int)(C5:List bt)(C6:List aH)(C7:Bool)(C8:Bool)(C9:List QC)(Da:List (List Int))(Db:List Int)(Dc:List Int)(Dd:List Int)(nZ:List Int)(n0:List (List Int))(n8:Int)(n9:Bool):Prop:=aN C3 0 Qrj (Nf K) ⟨[(1,(aL s)),(4,(.p 0 0 0)),(5,(.p 4 0 0)),(7,(.p 5 0 0))],[(0,(.box (aT.cells QR ([],[],[],[])))),(1,(.sl 39 Qe .ow x1)),(2,(.sl 161 Qj .ow x2)),(3,(.sl 161 Qj .ow x3)),(4,(.box [(bf QG ((id (α:=Qm) p).1)),(.r Qe 1 0 x1.length),(.r Qj 2 0 x2.length),(.r Qj 3 0 x3.length)])),(5,(.box (aT.cells Qe (C4,C5,C6,C7,C8,C9,Da,Db,Dc,Dd,nZ,n0,n8,n9))))],6⟩
def QGF:Qb:=a0 (aN C3 0 Qyl (Nf K)) (Nf K)
def QOq:Qb:=a7 0 (QGF K)
@[irreducible] def De(p:Qm)(s:Int)(dm:List Int):Prop:=let z1:=id (α:=Qm) p
 aN C3 0 QB0 (QOq K) ⟨[(1,(aL s)),(2,(.p 0 0 0)),(4,(.p 1 0 0)),(5,(.p 5 0 0)),(6,(.p 6 0 0)),(7,(.p 7 0 0)),(11,(bf [TI] dm))],[(0,(.box (aT.cells QR p))),(1,(.box (aT.cells QR ([],[],[],[])))),(2,(.sl 39 Qe .ow (List.take ((z1.2.1).length) (z1.2.1)))),(3,(.sl 161 Qj .ow (List.take ((z1.2.2.1).length) (z1.2.2.1)))),(4,(.sl 161 Qj .ow (List.take ((z1.2.2.2).length) (z1.2.2.2)))),(5,(.box [(bf QG (z1.1)),(.r Qe 2 0 ((List.take ((z1.2.1).length) (z1.2.1)).length)),(.r Qj 3 0 ((List.take ((z1.2.2.1).length) (z1.2.2.1)).length)),(.r Qj 4 0 ((List.take ((z1.2.2.2).length) (z1.2.2.2)).length))])),(6,(.box [(aL ((Qk p s).1)),(aL ((Qk p s).2))])),(7,(.box (aT.cells Qe (aq Qy (z1.2.1) (0+(Int.toNat s))))))],8⟩
theorem QX2(p:Qm)(s:Int)(x1:List Qc)(x2:List Qd)(x3:List Qd)(C4:Int)(C5:List bt)(C6:List aH)(C7:Bool)(C8:Bool)(C9:List QC)(Da:List (List Int))(Db:List Int)(Dc:List Int)(Dd:List Int)(nZ:List Int)(n0:List (List Int))(n8:Int)(n9:Bool) (h :
 (((0<=s/\Int.toNat s<x1.length)/\((0+(Int.toNat s))<x1.length))/\K (uK ((id (α:=Qm) p).1,(List.take x1.length ((x1).set (0+(Int.toNat s)) (aG (C4+1),C5,C6,C7,C8,C9,Da,Db,Dc,Dd,nZ,n0,n8,n9))),(List.take x2.length x2),(List.take x3.length (List.drop 0 x3)))))):dt (JH K p s x1 x2 x3 C4 C5 C6 C7 C8 C9 Da Db Dc Dd nZ n0 n8 n9) :=
 dt.of h
theorem QXt(p:Qm)(s:Int)(dm:List Int) (h :
 let z2:=id (α:=Qm) p
 let z3:=aq QW p.1 (Int.toNat ((Qk p s).2))
 let z1:=ZV (aq Qy (z2.2.1) (0+(Int.toNat s))) ((Qk p s).2) dm (z3.2)
 ((((0:Int)<=(Qk p s).2/\Int.toNat ((Qk p s).2)<(p.1).length)/\(JJ (aq Qy (z2.2.1) (0+(Int.toNat s))) ((Qk p s).2) dm (z3.2)))/\(JH K p s (List.take ((List.take ((z2.2.1).length) (z2.2.1)).length) (List.take ((z2.2.1).length) (z2.2.1))) (List.take ((List.take ((z2.2.2.1).length) (z2.2.2.1)).length) (List.take ((z2.2.2.1).length) (z2.2.2.1))) (List.take ((List.take ((z2.2.2.2).length) (z2.2.2.2)).length) (List.take ((z2.2.2.2).length) (z2.2.2.2))) (z1.1) (z1.2.1) (z1.2.2.1) (z1.2.2.2.1) (z1.2.2.2.2.1) (z1.2.2.2.2.2.1) (z1.2.2.2.2.2.2.1) (z1.2.2.2.2.2.2.2.1) (z1.2.2.2.2.2.2.2.2.1) (z1.2.2.2.2.2.2.2.2.2.1) (z1.2.2.2.2.2.2.2.2.2.2.1) (z1.2.2.2.2.2.2.2.2.2.2.2.1) (z1.2.2.2.2.2.2.2.2.2.2.2.2.1) (z1.2.2.2.2.2.2.2.2.2.2.2.2.2)))):dt (De K p s dm) :=
 dt.of h
theorem QWt(p:Qm)(s:Int)(hp:sr p s):aK Tryz.prog 49 [(.a (aT.cells QR p)),(.c TI s)] (uK (ZA p s)):=by
 refine bz C3 QVv Qsp 0 0 184 Nd (kc QNw (kc QTA (kc Qx3 (kc QXp (kc QIK (kc QHK (kc QOO (kc QPX kn)))))))) (λK =>
 let z3:=id (α:=Qm) p
 let z1:=aq Qy (z3.2.1) (0+(Int.toNat s))
 let z4:=Yn z1 ((Qk p s).2)
 let z6:=List.take ((z3.2.1).length) (z3.2.1)
 let z7:=List.take ((z3.2.2.1).length) (z3.2.2.1)
 let z8:=List.take ((z3.2.2.2).length) (z3.2.2.2)
 let z9:=Z4 (aq Qv p.2.2.1 (Int.toNat s)) ((Qk p s).2,z1.2.2.2.2.2.2.2.2.1)
 let eW:=aq QW p.1 (Int.toNat ((Qk p s).2))
 let z2:=ZD z1 ((Qk p s).2) (eW.2)
 let dQ:=aG (s-1)
 let z5:=Int.toNat dQ
 let eX:=Z4 (aq Qv p.2.2.2 z5) ((Qk p s).2,z1.2.2.2.2.2.2.2.2.2.2.1)
 let gx:=aq Qv p.2.2.2 (Int.toNat s)
 let gy:=aq Qv p.2.2.1 z5
 ((Qt (α:=Qm) p)/\(aI (!(ZG p s)) (K (uK (z3.1,z6,z7,(List.take ((z3.2.2.2).length) (List.drop 0 (z3.2.2.2)))))) (((0<=s/\Int.toNat s<(z3.2.1).length)/\((0+(Int.toNat s))<(z3.2.1).length))/\(aI (((Qk p s).1)==1) (((0<=aG (s-1)/\Int.toNat dQ<(p.2.2.1).length)/\(Qt (α:=Qd) gy))/\(((0<=aG (s-1)/\Int.toNat dQ<(z3.2.2.1).length)/\((0+z5)<(z3.2.2.1).length))/\(JH K p s z6 (List.take ((z3.2.2.1).length) ((z3.2.2.1).set (0+z5) ((Ze gy).1))) z8 (z1.1) (z1.2.1) (z1.2.2.1) (z1.2.2.2.1) (z1.2.2.2.2.1) (z1.2.2.2.2.2.1) (z1.2.2.2.2.2.2.1) (((Ze gy).2.1).2) (z1.2.2.2.2.2.2.2.2.1) (z1.2.2.2.2.2.2.2.2.2.1) (z1.2.2.2.2.2.2.2.2.2.2.1) (z1.2.2.2.2.2.2.2.2.2.2.2.1) (z1.2.2.2.2.2.2.2.2.2.2.2.2.1) (z1.2.2.2.2.2.2.2.2.2.2.2.2.2)))) (aI (((Qk p s).1)==2) (aI (s==0) (((0:Int)<=(Qk p s).2/\Int.toNat ((Qk p s).2)<(p.1).length)/\(De K p s (eW.1))) (De K p s (z1.2.2.2.2.2.2.2.1))) (aI (((Qk p s).1)==3) (((0<=s/\Int.toNat s<(p.2.2.1).length)/\(Zp (α:=Qd) (β:=Ql) (aq Qv p.2.2.1 (Int.toNat s)) ((Qk p s).2,z1.2.2.2.2.2.2.2.2.1)))/\(((0<=s/\Int.toNat s<(z3.2.2.1).length)/\((0+(Int.toNat s))<(z3.2.2.1).length))/\(JH K p s z6 (List.take ((z3.2.2.1).length) ((z3.2.2.1).set (0+(Int.toNat s)) ((z9.1).1,(List.take (((z9.1).2).length) (List.drop 0 ((z9.1).2)))))) z8 (z1.1) (z1.2.1) (z1.2.2.1) (z1.2.2.2.1) (z1.2.2.2.2.1) (z1.2.2.2.2.2.1) (z1.2.2.2.2.2.2.1) (z1.2.2.2.2.2.2.2.1) ([]:List Int) (z1.2.2.2.2.2.2.2.2.2.1) (z1.2.2.2.2.2.2.2.2.2.2.1) (z1.2.2.2.2.2.2.2.2.2.2.2.1) (z1.2.2.2.2.2.2.2.2.2.2.2.2.1) (z1.2.2.2.2.2.2.2.2.2.2.2.2.2)))) (aI (((Qk p s).1)==4) (((0<=s/\Int.toNat s<(p.2.2.2).length)/\(Qt (α:=Qd) gx))/\(((0<=s/\Int.toNat s<(z3.2.2.2).length)/\((0+(Int.toNat s))<(z3.2.2.2).length))/\(JH K p s z6 z7 (List.take ((z3.2.2.2).length) ((z3.2.2.2).set (0+(Int.toNat s)) ((Ze gx).1))) (z1.1) (z1.2.1) (z1.2.2.1) (z1.2.2.2.1) (z1.2.2.2.2.1) (z1.2.2.2.2.2.1) (z1.2.2.2.2.2.2.1) (z1.2.2.2.2.2.2.2.1) (z1.2.2.2.2.2.2.2.2.1) (((Ze gx).2.1).2) (z1.2.2.2.2.2.2.2.2.2.2.1) (z1.2.2.2.2.2.2.2.2.2.2.2.1) (z1.2.2.2.2.2.2.2.2.2.2.2.2.1) (z1.2.2.2.2.2.2.2.2.2.2.2.2.2)))) (aI (((Qk p s).1)==5) ((pf z1 ((Qk p s).2))/\(JH K p s z6 z7 z8 (z4.1) (z4.2.1) (z4.2.2.1) (z4.2.2.2.1) (z4.2.2.2.2.1) (z4.2.2.2.2.2.1) (z4.2.2.2.2.2.2.1) (z4.2.2.2.2.2.2.2.1) (z4.2.2.2.2.2.2.2.2.1) (z4.2.2.2.2.2.2.2.2.2.1) (z4.2.2.2.2.2.2.2.2.2.2.1) (z4.2.2.2.2.2.2.2.2.2.2.2.1) (z4.2.2.2.2.2.2.2.2.2.2.2.2.1) (z4.2.2.2.2.2.2.2.2.2.2.2.2.2))) (aI (((Qk p s).1)==6) ((((0:Int)<=(Qk p s).2/\Int.toNat ((Qk p s).2)<(p.1).length)/\(pg z1 ((Qk p s).2) (eW.2)))/\(aI (s==0) (JH K p s z6 z7 z8 (z2.1) (z2.2.1) (z2.2.2.1) (z2.2.2.2.1) (z2.2.2.2.2.1) (z2.2.2.2.2.2.1) (z2.2.2.2.2.2.2.1) (z2.2.2.2.2.2.2.2.1) (z2.2.2.2.2.2.2.2.2.1) (z2.2.2.2.2.2.2.2.2.2.1) ([]:List Int) (z2.2.2.2.2.2.2.2.2.2.2.2.1) (z2.2.2.2.2.2.2.2.2.2.2.2.2.1) (z2.2.2.2.2.2.2.2.2.2.2.2.2.2)) (JH K p s z6 z7 z8 (z2.1) (z2.2.1) (z2.2.2.1) (z2.2.2.2.1) (z2.2.2.2.2.1) (z2.2.2.2.2.2.1) (z2.2.2.2.2.2.2.1) (z2.2.2.2.2.2.2.2.1) (z2.2.2.2.2.2.2.2.2.1) (z2.2.2.2.2.2.2.2.2.2.1) (z2.2.2.2.2.2.2.2.2.2.2.1) (z2.2.2.2.2.2.2.2.2.2.2.2.1) (z2.2.2.2.2.2.2.2.2.2.2.2.2.1) (z2.2.2.2.2.2.2.2.2.2.2.2.2.2)))) (aI (((Qk p s).1)==7) (((0<=aG (s-1)/\Int.toNat dQ<(p.2.2.2).length)/\(Zp (α:=Qd) (β:=Ql) (aq Qv p.2.2.2 z5) ((Qk p s).2,z1.2.2.2.2.2.2.2.2.2.2.1)))/\(((0<=aG (s-1)/\Int.toNat dQ<(z3.2.2.2).length)/\((0+z5)<(z3.2.2.2).length))/\(JH K p s z6 z7 (List.take ((z3.2.2.2).length) ((z3.2.2.2).set (0+z5) ((eX.1).1,(List.take (((eX.1).2).length) (List.drop 0 ((eX.1).2)))))) (z1.1) (z1.2.1) (z1.2.2.1) (z1.2.2.2.1) (z1.2.2.2.2.1) (z1.2.2.2.2.2.1) (z1.2.2.2.2.2.2.1) (z1.2.2.2.2.2.2.2.1) (z1.2.2.2.2.2.2.2.2.1) (z1.2.2.2.2.2.2.2.2.2.1) ([]:List Int) (z1.2.2.2.2.2.2.2.2.2.2.2.1) (z1.2.2.2.2.2.2.2.2.2.2.2.2.1) (z1.2.2.2.2.2.2.2.2.2.2.2.2.2)))) (JH K p s z6 z7 z8 (z1.1) (z1.2.1) (z1.2.2.1) (z1.2.2.2.1) (z1.2.2.2.2.1) (z1.2.2.2.2.2.1) (z1.2.2.2.2.2.2.1) (z1.2.2.2.2.2.2.2.1) (z1.2.2.2.2.2.2.2.2.1) (z1.2.2.2.2.2.2.2.2.2.1) (z1.2.2.2.2.2.2.2.2.2.2.1) (z1.2.2.2.2.2.2.2.2.2.2.2.1) (z1.2.2.2.2.2.2.2.2.2.2.2.2.1) (z1.2.2.2.2.2.2.2.2.2.2.2.2.2))))))))))))) (λhb=>?_)
 conv=>zeta
 have iO:Sz.sz p<=1073741824:=hp;have hs:Sz.sz p=Sz.sz p.1+Sz.sz p.2.1+Sz.sz p.2.2.1+Sz.sz p.2.2.2:=uw p;simp only[id,List.drop_zero,List.take_length,Nat.zero_add];refine⟨by unfold Qt;omega,λh=>au ?_,λh=>?_⟩
 ·rw[QDK (by simpa using h)]
 have he:ZG p s=true:=by simpa using h
 obtain⟨k,rfl,hk,h4,ha,hb,iN,pF,vB,c1,c3,c4,c7,gU⟩:=QA7 he;have ph:=Qyg iN;have pY:=nX Qy p.2.1 k;have hx:=ZL (aq Qy p.2.1 k);have gA:=Ym (Qw (aq Qy p.2.1 k));have iK:=λj=>nX Qv p.2.2.1 j;have gh:=λj=>nX Qv p.2.2.2 j;have d0:Sz.sz Qy=0:=rfl;have d1:Sz.sz Qv=0:=rfl;have ts:∀(l:List Qd)(i:Nat)(v:Qd),List.take l.length (l.set i v)=l.set i v:=λl i v=>List.take_of_length_le (by simp);simp only[Int.toNat_natCast];have key:∀(y:Qc)(a b:List Qd),ZM p k (aq Qy p.2.1 k) (Qk p (k:Int))=(y,a,b)->y.1=(aq Qy p.2.1 k).1->JH (λr'=>r'=uK (ZA p (k:Int))) p (k:Int) p.2.1 a b y.1 y.2.1 y.2.2.1 y.2.2.2.1 y.2.2.2.2.1 y.2.2.2.2.2.1 y.2.2.2.2.2.2.1 y.2.2.2.2.2.2.2.1 y.2.2.2.2.2.2.2.2.1 y.2.2.2.2.2.2.2.2.2.1 y.2.2.2.2.2.2.2.2.2.2.1 y.2.2.2.2.2.2.2.2.2.2.2.1 y.2.2.2.2.2.2.2.2.2.2.2.2.1 y.2.2.2.2.2.2.2.2.2.2.2.2.2:=by
  intro y a b hy yV;have hw:aG (y.1+1)=y.1+1:=by rw[yV];exact QF (by((try simp only[bU,Qw,aE,Qn,Qp,Qi,QB,sX,sY,sG,sD,Qz,Qx,bh,QA,QE,Qr,Qq]at *);omega)) (by((try simp only[bU,Qw,aE,Qn,Qp,Qi,QB,sX,sY,sG,sD,Qz,Qx,bh,QA,QE,Qr,Qq]at *);omega))
  refine(QX2 _ _ _ _ _ _ _ _ _ _ _ _ _ _ _ _ _ _ _ _ ?_).h;simp only[id,List.drop_zero,List.take_length,Nat.zero_add,Int.toNat_natCast];refine⟨⟨⟨by omega,hk⟩,hk⟩,au ?_⟩;rw[QCj he rfl hy yV,hw,List.take_of_length_le (by simp)]
 have k2:(Qk p (k:Int)).1=2->∀ dm,dm=(if k=0 then(aq QW p.1 (Qk p (k:Int)).2.toNat).1 else sX (aq Qy p.2.1 k))->De (λr'=>r'=uK (ZA p (k:Int))) p (k:Int) dm:=by
  intro g dm hi;refine(QXt _ _ _ _ ?_).h
  conv=>zeta
  simp only[id,List.drop_zero,List.take_length,Nat.zero_add,Int.toNat_natCast];refine⟨⟨⟨pF,by omega⟩,by unfold JJ;omega⟩,?_⟩;exact key (ZV (aq Qy p.2.1 k) (Qk p (k:Int)).2 dm (aq QW p.1 (Qk p (k:Int)).2.toNat).2) _ _ (by rw[Mn g,hi]) (Mm _ _ _ _)
 refine⟨⟨⟨by omega,hk⟩,hk⟩,?_⟩;refine⟨λg=>?_,λn1=>?_⟩
 ·have g:(Qk p (k:Int)).1=1:=by simpa using g
  have g1:=c1 g;have e:aG ((k:Int)-1)=((k-1:Nat):Int):=by rw[QF (by omega) (by omega)];omega
  rw[e];simp only[Int.toNat_natCast];rw[ts];exact⟨⟨⟨by omega,by omega⟩,by unfold Qt;have:=iK (k-1);omega⟩,⟨⟨by omega,by omega⟩,by omega⟩,key (kM (aq Qy p.2.1 k) (Ze (aq Qv p.2.2.1 (k-1))).2.1.2) _ _ (pi1 g) rfl⟩
 refine⟨λg=>?_,λn2=>?_⟩
 ·have g:(Qk p (k:Int)).1=2:=by simpa using g
  refine⟨λhz=>⟨⟨pF,by omega⟩,k2 g _ ?_⟩,λhz=>k2 g _ ?_⟩
  ·rw[if_pos (by simp at hz;omega)]
  ·rw[if_neg (by simp at hz;omega)]
 refine⟨λg=>?_,λn3=>?_⟩
 ·have g:(Qk p (k:Int)).1=3:=by simpa using g
  have g1:=c3 g;rw[ts];refine⟨⟨⟨by omega,by omega⟩,?_⟩,⟨⟨by omega,by omega⟩,by omega⟩,key (kN (aq Qy p.2.1 k) []) _ _ (pi3 g) rfl⟩;unfold Zp;simp only[YJ,QL];have:=iK (k);((try simp only[bU,Qw,aE,Qn,Qp,Qi,QB,sX,sY,sG,sD,Qz,Qx,bh,QA,QE,Qr,Qq]at *);omega)
 refine⟨λg=>?_,λn4=>?_⟩
 ·have g:(Qk p (k:Int)).1=4:=by simpa using g
  have g1:=c4 g;rw[ts];exact⟨⟨⟨by omega,by omega⟩,by unfold Qt;have:=gh (k);omega⟩,⟨⟨by omega,by omega⟩,by omega⟩,key (kO (aq Qy p.2.1 k) (Ze (aq Qv p.2.2.2 k)).2.1.2) _ _ (pi4 g) rfl⟩
 refine⟨λg=>?_,λn5=>?_⟩
 ·have g:(Qk p (k:Int)).1=5:=by simpa using g
  exact⟨by unfold pf;omega,key (Yn (aq Qy p.2.1 k) (Qk p (k:Int)).2) _ _ (pi5 g) (QwX _ _)⟩
 refine⟨λg=>?_,λn6=>?_⟩
 ·have g:(Qk p (k:Int)).1=6:=by simpa using g
  refine⟨⟨⟨pF,by omega⟩,by unfold pg;omega⟩,λhz=>?_,λhz=>?_⟩
  ·exact key (gr (ZD (aq Qy p.2.1 k) (Qk p (k:Int)).2 (aq QW p.1 (Qk p (k:Int)).2.toNat).2) []) _ _ (by rw[Cw g,if_pos (by simp at hz;omega)]) (Cv _ _ _)
  ·exact key (ZD (aq Qy p.2.1 k) (Qk p (k:Int)).2 (aq QW p.1 (Qk p (k:Int)).2.toNat).2) _ _ (by rw[Cw g,if_neg (by simp at hz;omega)]) (Cv _ _ _)
 refine⟨λg=>?_,λn7=>?_⟩
 ·have g:(Qk p (k:Int)).1=7:=by simpa using g
  have g1:=c7 g;have e:aG ((k:Int)-1)=((k-1:Nat):Int):=by rw[QF (by omega) (by omega)];omega
  rw[e];simp only[Int.toNat_natCast];rw[ts];refine⟨⟨⟨by omega,by omega⟩,?_⟩,⟨⟨by omega,by omega⟩,by omega⟩,key (gr (aq Qy p.2.1 k) []) _ _ (pi7 g) rfl⟩;unfold Zp;simp only[YJ,QL];have:=gh (k-1);((try simp only[bU,Qw,aE,Qn,Qp,Qi,QB,sX,sY,sG,sD,Qz,Qx,bh,QA,QE,Qr,Qq]at *);omega)
 ·simp at n1 n2 n3 n4 n5 n6 n7;exact key (aq Qy p.2.1 k) _ _ (pi8 (by omega)) rfl
theorem QP2:Qf Tryz.prog Nd:=Qh λx h=>QWt x.1 x.2.1 h
end
end Go.Proofs.YtdplaepmjogjjaaGreat.Am

namespace Go.Proofs.YtdplaepmjogjjaaGreat.Am
open Go Go.RowKit Go.Proofs.YtdplaepmjogjjaaGreat
set_option linter.all false
noncomputable section
variable (K:aB->Prop)
def uL(t:Int × (List Int)):aB:=⟨(aL t.1),[],[],true,[(.sl 0 [TI] (.dp 0 false []) t.2)]⟩
def sA:aJ:=Qg 26 [(.d [TI]),(.c TI)] λx=>(none,uL (QT (α:=List Int) x.1 x.2.1))
def Ng:aF:=⟨[],true⟩
def Qwg:af :=
 (ag [(ag [(.ae [ab 6 5,ab 7 0,ba 8 7,aw 9 .lss 6 8]),(.cond 9 .skip (.exit 0))]),(.block 1 (ag [(.ae [ab 12 0,ab 13 5,ab 14 1,aZ 15 12 13 [TI],aV 15 14 1]),(.ae [ab 16 1,aw 17 .add 16 (ar 1),ab 1 17])])),(.ae [ab 10 5,aw 11 .add 10 (ar 1),ab 5 11])])
def QsM:List (Nat × Md):=[(0,.one .f),(1,.one .d),(5,.one .d)]
def Qsm:af :=
 (ag [(.ae [ab 18 1,ab 4 18]),.ret])
def QQ9:af :=
 (ag [(.ae [ab 4 (ar 0)]),(ag [(.ae [ab 5 (ar 0)]),(.block 0 (.loop QsM Qwg))]),Qsm])
def QAV:List (bn × Md):=[(.t 4,.one .d)]
def QtV:Qb:=TQ 0 1 QAV K
def QMr:Qb:=a0 (aN Ng 1 Qsm (QtV K)) (QtV K)
def QVO:Qb:=a7 0 (QMr K)
def Df(a:List Int)(k1:Int)(i:Int)(a1:List Int):Prop:=Loop Ng 1 QsM Qwg (QVO K) ⟨[(0,(.r [TI] 0 0 a.length)),(1,(aL k1)),(5,(aL i))],[(0,(.sl 0 [TI] (.dp 0 false []) a1))],1⟩
theorem QyP(a:List Int)(k1:Int)(i:Int)(a1:List Int) (h :
 (aI (decide (i<((a.length:Nat):Int))) (((0<=i/\Int.toNat i<a.length)/\((0+(Int.toNat i))<a1.length))/\(Df K a (aG (k1+1)) (aG (i+1)) ((a1).set (0+(Int.toNat i)) k1))) (K (uL (k1,a1))))):Df K a k1 i a1 :=
 Loop.of h
theorem QVg(a:List Int)(k:Int):aK Tryz.prog 26 [(.ow 0 [TI] dw a),(.c TI k)] (uL (QT (α:=List Int) a k)):=by
 refine bz Ng QQ9 QAV 0 1 19 sA kn (λK =>
 (Df K a k 0 a)) (λhb=>?_)
 have ff:a.length<=9223372036854775807:=hb.1.1;refine J3 (A:=λkk ii ll=>Df (λr'=>r'=uL (QT (α:=List Int) a k)) a kk ii ll) (Q:=λz=>uL z=uL (QT (α:=List Int) a k)) a k ?_ ?_ rfl
 ·intro kk pre post x hl hA;have aW:pre.length<a.length:=by omega
  have hw:aG (((pre.length:Nat):Int)+1)=((pre.length+1:Nat):Int):=by rw[QF (by omega) (by omega)];omega
  refine QyP _ _ _ _ _ ?_;refine⟨λ_=>?_,λh=>absurd h (by simp;omega)⟩;simp only[Int.toNat_natCast,Nat.zero_add,nI,nJ,Z5,nH,hw,iJ,aW,Yk,and_true,true_and,Int.natCast_nonneg];exact hA
 ·intro kk l hl hq;refine QyP _ _ _ _ _ ?_;exact⟨λh=>absurd h (by simp),λ_=>hq⟩
theorem yW:Qf Tryz.prog sA:=Qh λx _=>QVg x.1 x.2.1
def sB(t:Int):aB:=b6 (aL t)
def sC:aJ:=Qg 27 [(.c (.sl [TI])),(.c TI)] λx=>(some (Q5 (α:=List Int) x.1 x.2.1),sB (aR (α:=List Int) x.1 x.2.1))
def Nh:aF:=⟨[],false⟩
def Qte:af :=
 (ag [(ag [(.ae [ab 6 5,ab 7 0,ba 8 7,aw 9 .lss 6 8]),(.cond 9 .skip (.exit 0))]),(.block 1 (ag [(ag [(.ae [ab 12 0,ab 13 5,aZ 14 12 13 [TI],an 15 14 1,ab 16 1,aw 17 .neq 15 16]),(.cond 17 (ag [(.ae [ab 4 (ar (-1))]),.ret]) .skip)]),(.ae [ab 18 1,aw 19 .add 18 (ar 1),ab 1 19])])),(.ae [ab 10 5,aw 11 .add 10 (ar 1),ab 5 11])])
def QqZ:List (Nat × Md):=eV [0,1,5]
def QtS:af :=
 (ag [(.ae [ab 20 1,ab 4 20]),.ret])
def QSZ:af :=
 (ag [(.ae [ab 4 (ar 0)]),(ag [(.ae [ab 5 (ar 0)]),(.block 0 (.loop QqZ Qte))]),QtS])
def Qum:List (bn × Md):=[(.t 4,.one .d)]
def QvH:Qb:=TQ 0 0 Qum K
def QTy:Qb:=a0 (aN Nh 0 QtS (QvH K)) (QvH K)
def QI8:Qb:=a7 0 (QTy K)
def Dg(a:List Int)(k1:Int)(i:Int):Prop:=Loop Nh 0 QqZ Qte (QI8 K) ⟨[(0,(bf [TI] a)),(1,(aL k1)),(5,(aL i))],[],0⟩
theorem QrX(a:List Int)(k1:Int)(i:Int) (h :
 (aI (decide (i<(a.length:Int))) ((0<=i/\Int.toNat i<a.length)/\(aI ((aq (0:Int) a (Int.toNat i)) != k1) (K (sB (-1:Int))) (Dg K a (aG (k1+1)) (aG (i+1))))) (K (sB k1)))):Dg K a k1 i :=
 Loop.of h
theorem QJf(a:List Int)(k:Int)(hp:Q5 (α:=List Int) a k):aK Tryz.prog 27 [(.c (.sl [TI]) a),(.c TI k)] (sB (aR (α:=List Int) a k)):=by
 refine bz Nh QSZ Qum 0 0 21 sC kn (λK =>
 (Dg K a k 0)) (λhb=>?_)
 have ff:a.length<=9223372036854775807:=hb.1.1;refine JY (A:=λkk ii=>Dg (λr'=>r'=sB (aR (α:=List Int) a k)) a kk ii) (Q:=λz=>sB z=sB (aR (α:=List Int) a k)) a k hp ?_ ?_ rfl
 ·intro kk pre post x ha fP cm dj;have aW:pre.length<a.length:=by rw[ha];simp
  have hg:∀ d,aq d a pre.length=x:=λd=>by rw[ha];exact Z5 d pre post x
  have hw:aG (((pre.length:Nat):Int)+1)=((pre.length+1:Nat):Int):=by rw[QF (by omega) (by omega)];omega
  refine QrX _ _ _ _ ?_;refine⟨λ_=>?_,λh=>absurd h (by simp;omega)⟩;simp only[Int.toNat_natCast,hg,hw,aW,Yk,and_true,true_and,Int.natCast_nonneg];simp only[oZ,o3,o4,Prod.ext_iff]at cm dj;refine⟨λh=>cm (λe=>YO h (e).symm),λh0=>?_⟩;have e0:=(YZ h0).symm;exact dj e0
 ·intro kk hq;refine QrX _ _ _ _ ?_;exact⟨λh=>absurd h (by simp),λ_=>hq⟩
theorem yX:Qf Tryz.prog sC:=Qh λx h=>QJf x.1 x.2.1 h
def uM(t:Int × (List (List Int))):aB:=⟨(aL t.1),[],[],true,[(.sl 0 [(.sl [TI])] (.dp 0 false []) t.2)]⟩
def Dh:aJ:=Qg 82 [(.d [(.sl [TI])]),(.c TI)] λx=>(none,uM (QT (α:=List (List Int)) x.1 x.2.1))
def Ni:aF:=⟨[sA],true⟩
def Qym:af :=
 (ag [(ag [(.ae [ab 6 5,ab 7 0,ba 8 7,aw 9 .lss 6 8]),(.cond 9 .skip (.exit 0))]),(.block 1 (.ae [ab 12 0,ab 13 5,aZ 14 12 13 [(.sl [TI])],ak 15 14 0,an 16 15 1,ab 17 1,aD 18 26 [16,17],ab 1 18])),(.ae [ab 10 5,aw 11 .add 10 (ar 1),ab 5 11])])
def Qrc:List (Nat × Md):=[(0,.one .f),(1,.one .d),(5,.one .d)]
def Qsb:af :=
 (ag [(.ae [ab 19 1,ab 4 19]),.ret])
def QNB:af :=
 (ag [(.ae [ab 4 (ar 0)]),(ag [(.ae [ab 5 (ar 0)]),(.block 0 (.loop Qrc Qym))]),Qsb])
def QBY:List (bn × Md):=[(.t 4,.one .d)]
def QBG:Qb:=TQ 0 1 QBY K
def QLr:Qb:=a0 (aN Ni 1 Qsb (QBG K)) (QBG K)
def QVK:Qb:=a7 0 (QLr K)
def Di(a:List (List Int))(k1:Int)(i:Int)(a1:List (List Int)):Prop:=Loop Ni 1 Qrc Qym (QVK K) ⟨[(0,(.r [(.sl [TI])] 0 0 a.length)),(1,(aL k1)),(5,(aL i))],[(0,(.sl 0 [(.sl [TI])] (.dp 0 false []) a1))],1⟩
theorem QB4(a:List (List Int))(k1:Int)(i:Int)(a1:List (List Int)) (h :
 (aI (decide (i<((a.length:Nat):Int))) (((0<=i/\Int.toNat i<a.length)/\(((0+(Int.toNat i))<a1.length)/\((0+(Int.toNat i))<a1.length)))/\(Di K a ((f7 ([]:List Int) (0+(Int.toNat i)) (λe_=>e_) (λe_ y_=>y_) (QT (α:=List Int)) (k1,a1)).1) (aG (i+1)) ((f7 ([]:List Int) (0+(Int.toNat i)) (λe_=>e_) (λe_ y_=>y_) (QT (α:=List Int)) (k1,a1)).2))) (K (uM (k1,a1))))):Di K a k1 i a1 :=
 Loop.of h
theorem QHY(a:List (List Int))(k:Int):aK Tryz.prog 82 [(.ow 0 [(.sl [TI])] dw a),(.c TI k)] (uM (QT (α:=List (List Int)) a k)):=by
 refine bz Ni QNB QBY 0 1 20 Dh (kc yW kn) (λK =>
 (Di K a k 0 a)) (λhb=>?_)
 have ff:a.length<=9223372036854775807:=hb.1.1;refine J3 (A:=λkk ii ll=>Di (λr'=>r'=uM (QT (α:=List (List Int)) a k)) a kk ii ll) (Q:=λz=>uM z=uM (QT (α:=List (List Int)) a k)) a k ?_ ?_ rfl
 ·intro kk pre post x hl hA;have aW:pre.length<a.length:=by omega
  have hw:aG (((pre.length:Nat):Int)+1)=((pre.length+1:Nat):Int):=by rw[QF (by omega) (by omega)];omega
  refine QB4 _ _ _ _ _ ?_;refine⟨λ_=>?_,λh=>absurd h (by simp;omega)⟩;simp only[Int.toNat_natCast,Nat.zero_add,nI,nJ,Z5,nH,hw,iJ,aW,Yk,and_true,true_and,Int.natCast_nonneg];exact hA
 ·intro kk l hl hq;refine QB4 _ _ _ _ _ ?_;exact⟨λh=>absurd h (by simp),λ_=>hq⟩
theorem QzV:Qf Tryz.prog Dh:=Qh λx _=>QHY x.1 x.2.1
def sE(t:Int):aB:=b6 (aL t)
def Dj:aJ:=Qg 86 [(.c (.sl [(.sl [TI])])),(.c TI)] λx=>(some (Q5 (α:=List (List Int)) x.1 x.2.1),sE (aR (α:=List (List Int)) x.1 x.2.1))
def Nj:aF:=⟨[sC],false⟩
def Qx9:af :=
 (ag [(ag [(.ae [ab 6 5,ab 7 0,ba 8 7,aw 9 .lss 6 8]),(.cond 9 .skip (.exit 0))]),(.block 1 (ag [(.ae [ab 12 0,ab 13 5,aZ 14 12 13 [(.sl [TI])],ak 15 14 0,an 16 15 1,ab 17 1,aD 18 27 [16,17],ab 1 18]),(.ae [ab 19 1,aw 20 .lss 19 (ar 0)]),(.cond 20 (ag [(.ae [ab 4 (ar (-1))]),.ret]) .skip)])),(.ae [ab 10 5,aw 11 .add 10 (ar 1),ab 5 11])])
def QuT:List (Nat × Md):=eV [0,1,5]
def QtD:af :=
 (ag [(.ae [ab 21 1,ab 4 21]),.ret])
def QRv:af :=
 (ag [(.ae [ab 4 (ar 0)]),(ag [(.ae [ab 5 (ar 0)]),(.block 0 (.loop QuT Qx9))]),QtD])
def QAQ:List (bn × Md):=[(.t 4,.one .d)]
def QA5:Qb:=TQ 0 0 QAQ K
def QRD:Qb:=a0 (aN Nj 0 QtD (QA5 K)) (QA5 K)
def QLM:Qb:=a7 0 (QRD K)
def Dk(a:List (List Int))(k1:Int)(i:Int):Prop:=Loop Nj 0 QuT Qx9 (QLM K) ⟨[(0,(bf [(.sl [TI])] a)),(1,(aL k1)),(5,(aL i))],[],0⟩
theorem QAy(a:List (List Int))(k1:Int)(i:Int) (h :
 (aI (decide (i<(a.length:Int))) (((0<=i/\Int.toNat i<a.length)/\(Q5 (α:=List Int) (aq ([]:List Int) a (Int.toNat i)) k1))/\(aI (decide ((aR (α:=List Int) (aq ([]:List Int) a (Int.toNat i)) k1)<0)) (K (sE (-1:Int))) (Dk K a (aR (α:=List Int) (aq ([]:List Int) a (Int.toNat i)) k1) (aG (i+1))))) (K (sE k1)))):Dk K a k1 i :=
 Loop.of h
theorem QNd(a:List (List Int))(k:Int)(hp:Q5 (α:=List (List Int)) a k):aK Tryz.prog 86 [(.c (.sl [(.sl [TI])]) a),(.c TI k)] (sE (aR (α:=List (List Int)) a k)):=by
 refine bz Nj QRv QAQ 0 0 22 Dj (kc yX kn) (λK =>
 (Dk K a k 0)) (λhb=>?_)
 have ff:a.length<=9223372036854775807:=hb.1.1;refine JY (A:=λkk ii=>Dk (λr'=>r'=sE (aR (α:=List (List Int)) a k)) a kk ii) (Q:=λz=>sE z=sE (aR (α:=List (List Int)) a k)) a k hp ?_ ?_ rfl
 ·intro kk pre post x ha fP cm dj;have aW:pre.length<a.length:=by rw[ha];simp
  have hg:∀ d,aq d a pre.length=x:=λd=>by rw[ha];exact Z5 d pre post x
  have hw:aG (((pre.length:Nat):Int)+1)=((pre.length+1:Nat):Int):=by rw[QF (by omega) (by omega)];omega
  refine QAy _ _ _ _ ?_;refine⟨λ_=>?_,λh=>absurd h (by simp;omega)⟩;simp only[Int.toNat_natCast,hg,hw,aW,Yk,and_true,true_and,Int.natCast_nonneg];refine⟨fP,λh=>cm (λe=>Z7 fP (of_decide_eq_true h) (e)),λh0=>?_⟩;obtain⟨e0,h0⟩:=Z2 (of_decide_eq_false h0);rw[h0];exact dj e0
 ·intro kk hq;refine QAy _ _ _ _ ?_;exact⟨λh=>absurd h (by simp),λ_=>hq⟩
theorem QxZ:Qf Tryz.prog Dj:=Qh λx h=>QNd x.1 x.2.1 h
def uN(t:Int × (List bt)):aB:=⟨(aL t.1),[],[],true,[(.sl 0 QO (.dp 0 false []) t.2)]⟩
def Nk:aJ:=Qg 79 [(.d QO),(.c TI)] λx=>(none,uN (QT (α:=List bt) x.1 x.2.1))
def Nl:aF:=⟨[],true⟩
def QuM:af :=
 (ag [(ag [(.ae [ab 6 5,ab 7 0,ba 8 7,aw 9 .lss 6 8]),(.cond 9 .skip (.exit 0))]),(.block 1 (ag [(.ae [ab 12 0,ab 13 5,ab 14 1,aZ 15 12 13 QO,ak 16 15 0,aV 16 14 1]),(.ae [ab 17 1,aw 18 .add 17 (ar 1),ab 1 18]),(.ae [ab 19 0,ab 20 5,ab 21 1,aZ 22 19 20 QO,ak 23 22 1,aV 23 21 1]),(.ae [ab 24 1,aw 25 .add 24 (ar 1),ab 1 25])])),(.ae [ab 10 5,aw 11 .add 10 (ar 1),ab 5 11])])
def QuN:List (Nat × Md):=[(0,.one .f),(1,.one .d),(5,.one .d)]
def QAM:af :=
 (ag [(.ae [ab 26 1,ab 4 26]),.ret])
def QQc:af :=
 (ag [(.ae [ab 4 (ar 0)]),(ag [(.ae [ab 5 (ar 0)]),(.block 0 (.loop QuN QuM))]),QAM])
def Qtd:List (bn × Md):=[(.t 4,.one .d)]
def QBk:Qb:=TQ 0 1 Qtd K
def QJl:Qb:=a0 (aN Nl 1 QAM (QBk K)) (QBk K)
def QSH:Qb:=a7 0 (QJl K)
def Dl(a:List bt)(k1:Int)(i:Int)(a1:List bt):Prop:=Loop Nl 1 QuN QuM (QSH K) ⟨[(0,(.r QO 0 0 a.length)),(1,(aL k1)),(5,(aL i))],[(0,(.sl 0 QO (.dp 0 false []) a1))],1⟩
theorem QrM(a:List bt)(k1:Int)(i:Int)(a1:List bt) (h :
 (aI (decide (i<((a.length:Nat):Int))) (((0<=i/\Int.toNat i<a.length)/\((0+(Int.toNat i))<a1.length))/\(((0<=i/\Int.toNat i<a.length)/\((0+(Int.toNat i))<((gu eF (0+(Int.toNat i)) (λe_ k_=>(k_,e_.2)) (k1,a1)).2).length))/\(Dl K a (aG ((aG (k1+1))+1)) (aG (i+1)) ((gu eF (0+(Int.toNat i)) (λe_ k_=>(e_.1,k_)) (gu eF (0+(Int.toNat i)) (λe_ k_=>(k_,e_.2)) (k1,a1))).2)))) (K (uN (k1,a1))))):Dl K a k1 i a1 :=
 Loop.of h
theorem QJm(a:List bt)(k:Int):aK Tryz.prog 79 [(.ow 0 QO dw a),(.c TI k)] (uN (QT (α:=List bt) a k)):=by
 refine bz Nl QQc Qtd 0 1 27 Nk kn (λK =>
 (Dl K a k 0 a)) (λhb=>?_)
 have ff:a.length<=9223372036854775807:=hb.1.1;refine J3 (A:=λkk ii ll=>Dl (λr'=>r'=uN (QT (α:=List bt) a k)) a kk ii ll) (Q:=λz=>uN z=uN (QT (α:=List bt) a k)) a k ?_ ?_ rfl
 ·intro kk pre post x hl hA;have aW:pre.length<a.length:=by omega
  have hw:aG (((pre.length:Nat):Int)+1)=((pre.length+1:Nat):Int):=by rw[QF (by omega) (by omega)];omega
  refine QrM _ _ _ _ _ ?_;refine⟨λ_=>?_,λh=>absurd h (by simp;omega)⟩;simp only[Int.toNat_natCast,Nat.zero_add,nI,nJ,Z5,nH,hw,iJ,aW,Yk,and_true,true_and,Int.natCast_nonneg];exact hA
 ·intro kk l hl hq;refine QrM _ _ _ _ _ ?_;exact⟨λh=>absurd h (by simp),λ_=>hq⟩
theorem QUz:Qf Tryz.prog Nk:=Qh λx _=>QJm x.1 x.2.1
def pG(t:Int):aB:=b6 (aL t)
def Nm:aJ:=Qg 83 [(.c (.sl QO)),(.c TI)] λx=>(some (Q5 (α:=List bt) x.1 x.2.1),pG (aR (α:=List bt) x.1 x.2.1))
def Nn:aF:=⟨[],false⟩
def Qws:af :=
 (ag [(ag [(.ae [ab 6 5,ab 7 0,ba 8 7,aw 9 .lss 6 8]),(.cond 9 .skip (.exit 0))]),(.block 1 (ag [(ag [(.ae [ab 12 0,ab 13 5,aZ 14 12 13 QO,ak 15 14 0,an 16 15 1,ab 17 1,aw 18 .neq 16 17]),(.cond 18 (ag [(.ae [ab 4 (ar (-1))]),.ret]) .skip)]),(.ae [ab 19 1,aw 20 .add 19 (ar 1),ab 1 20]),(ag [(.ae [ab 21 0,ab 22 5,aZ 23 21 22 QO,ak 24 23 1,an 25 24 1,ab 26 1,aw 27 .neq 25 26]),(.cond 27 (ag [(.ae [ab 4 (ar (-1))]),.ret]) .skip)]),(.ae [ab 28 1,aw 29 .add 28 (ar 1),ab 1 29])])),(.ae [ab 10 5,aw 11 .add 10 (ar 1),ab 5 11])])
def QzQ:List (Nat × Md):=eV [0,1,5]
def Qz9:af :=
 (ag [(.ae [ab 30 1,ab 4 30]),.ret])
def QUb:af :=
 (ag [(.ae [ab 4 (ar 0)]),(ag [(.ae [ab 5 (ar 0)]),(.block 0 (.loop QzQ Qws))]),Qz9])
def Qvj:List (bn × Md):=[(.t 4,.one .d)]
def QAi:Qb:=TQ 0 0 Qvj K
def QPs:Qb:=a0 (aN Nn 0 Qz9 (QAi K)) (QAi K)
def QSC:Qb:=a7 0 (QPs K)
def Dm(a:List bt)(k1:Int)(i:Int):Prop:=Loop Nn 0 QzQ Qws (QSC K) ⟨[(0,(bf QO a)),(1,(aL k1)),(5,(aL i))],[],0⟩
theorem QBw(a:List bt)(k1:Int)(i:Int) (h :
 (aI (decide (i<(a.length:Int))) ((0<=i/\Int.toNat i<a.length)/\(aI (((aq eF a (Int.toNat i)).1) != k1) (K (pG (-1:Int))) ((0<=i/\Int.toNat i<a.length)/\(aI (((aq eF a (Int.toNat i)).2) != (aG (k1+1))) (K (pG (-1:Int))) (Dm K a (aG ((aG (k1+1))+1)) (aG (i+1))))))) (K (pG k1)))):Dm K a k1 i :=
 Loop.of h
theorem QG3(a:List bt)(k:Int)(hp:Q5 (α:=List bt) a k):aK Tryz.prog 83 [(.c (.sl QO) a),(.c TI k)] (pG (aR (α:=List bt) a k)):=by
 refine bz Nn QUb Qvj 0 0 31 Nm kn (λK =>
 (Dm K a k 0)) (λhb=>?_)
 have ff:a.length<=9223372036854775807:=hb.1.1;refine JY (A:=λkk ii=>Dm (λr'=>r'=pG (aR (α:=List bt) a k)) a kk ii) (Q:=λz=>pG z=pG (aR (α:=List bt) a k)) a k hp ?_ ?_ rfl
 ·intro kk pre post x ha fP cm dj;have aW:pre.length<a.length:=by rw[ha];simp
  have hg:∀ d,aq d a pre.length=x:=λd=>by rw[ha];exact Z5 d pre post x
  have hw:aG (((pre.length:Nat):Int)+1)=((pre.length+1:Nat):Int):=by rw[QF (by omega) (by omega)];omega
  refine QBw _ _ _ _ ?_;refine⟨λ_=>?_,λh=>absurd h (by simp;omega)⟩;simp only[Int.toNat_natCast,hg,hw,aW,Yk,and_true,true_and,Int.natCast_nonneg];have gI:=(Zd fP).1;have fL:=(Zd fP).2;simp only[oZ,o3,o4,Prod.ext_iff]at cm dj gI fL;refine⟨λh=>cm (λe=>YO h (e.1).symm),λh0=>?_⟩;have e0:=(YZ h0).symm;refine⟨λh=>cm (λe=>YO h (e.2).symm),λh1=>?_⟩;have e1:=(YZ h1).symm;exact dj ⟨e0,e1⟩
 ·intro kk hq;refine QBw _ _ _ _ ?_;exact⟨λh=>absurd h (by simp),λ_=>hq⟩
theorem QQA:Qf Tryz.prog Nm:=Qh λx h=>QG3 x.1 x.2.1 h
def uO(t:Int × (List Ql)):aB:=⟨(aL t.1),[],[],true,[(.sl 0 Qs (.dp 0 false []) t.2)]⟩
def Np:aJ:=Qg 182 [(.d Qs),(.c TI)] λx=>(none,uO (QT (α:=List Ql) x.1 x.2.1))
def Nq:aF:=⟨[sA],true⟩
def Quw:af :=
 (ag [(ag [(.ae [ab 6 5,ab 7 0,ba 8 7,aw 9 .lss 6 8]),(.cond 9 .skip (.exit 0))]),(.block 1 (ag [(.ae [ab 12 0,ab 13 5,ab 14 1,aZ 15 12 13 Qs,ak 16 15 0,aV 16 14 1]),(.ae [ab 17 1,aw 18 .add 17 (ar 1),ab 1 18]),(.ae [ab 19 0,ab 20 5,aZ 21 19 20 Qs,ak 22 21 1,an 23 22 1,ab 24 1,aD 25 26 [23,24],ab 1 25])])),(.ae [ab 10 5,aw 11 .add 10 (ar 1),ab 5 11])])
def QvK:List (Nat × Md):=[(0,.one .f),(1,.one .d),(5,.one .d)]
def Qs4:af :=
 (ag [(.ae [ab 26 1,ab 4 26]),.ret])
def QVH:af :=
 (ag [(.ae [ab 4 (ar 0)]),(ag [(.ae [ab 5 (ar 0)]),(.block 0 (.loop QvK Quw))]),Qs4])
def Qx0:List (bn × Md):=[(.t 4,.one .d)]
def QwG:Qb:=TQ 0 1 Qx0 K
def QV5:Qb:=a0 (aN Nq 1 Qs4 (QwG K)) (QwG K)
def QIB:Qb:=a7 0 (QV5 K)
def Dn(a:List Ql)(k1:Int)(i:Int)(a1:List Ql):Prop:=Loop Nq 1 QvK Quw (QIB K) ⟨[(0,(.r Qs 0 0 a.length)),(1,(aL k1)),(5,(aL i))],[(0,(.sl 0 Qs (.dp 0 false []) a1))],1⟩
theorem QvS(a:List Ql)(k1:Int)(i:Int)(a1:List Ql) (h :
 (aI (decide (i<((a.length:Nat):Int))) (((0<=i/\Int.toNat i<a.length)/\((0+(Int.toNat i))<a1.length))/\(((0<=i/\Int.toNat i<a.length)/\(((0+(Int.toNat i))<((gu ((0,[]):Ql) (0+(Int.toNat i)) (λe_ k_=>(k_,e_.2)) (k1,a1)).2).length)/\((0+(Int.toNat i))<((gu ((0,[]):Ql) (0+(Int.toNat i)) (λe_ k_=>(k_,e_.2)) (k1,a1)).2).length)))/\(Dn K a ((f7 ((0,[]):Ql) (0+(Int.toNat i)) (λe_=>e_.2) (λe_ y_=>(e_.1,y_)) (QT (α:=List Int)) (gu ((0,[]):Ql) (0+(Int.toNat i)) (λe_ k_=>(k_,e_.2)) (k1,a1))).1) (aG (i+1)) ((f7 ((0,[]):Ql) (0+(Int.toNat i)) (λe_=>e_.2) (λe_ y_=>(e_.1,y_)) (QT (α:=List Int)) (gu ((0,[]):Ql) (0+(Int.toNat i)) (λe_ k_=>(k_,e_.2)) (k1,a1))).2)))) (K (uO (k1,a1))))):Dn K a k1 i a1 :=
 Loop.of h
theorem QKY(a:List Ql)(k:Int):aK Tryz.prog 182 [(.ow 0 Qs dw a),(.c TI k)] (uO (QT (α:=List Ql) a k)):=by
 refine bz Nq QVH Qx0 0 1 27 Np (kc yW kn) (λK =>
 (Dn K a k 0 a)) (λhb=>?_)
 have ff:a.length<=9223372036854775807:=hb.1.1;refine J3 (A:=λkk ii ll=>Dn (λr'=>r'=uO (QT (α:=List Ql) a k)) a kk ii ll) (Q:=λz=>uO z=uO (QT (α:=List Ql) a k)) a k ?_ ?_ rfl
 ·intro kk pre post x hl hA;have aW:pre.length<a.length:=by omega
  have hw:aG (((pre.length:Nat):Int)+1)=((pre.length+1:Nat):Int):=by rw[QF (by omega) (by omega)];omega
  refine QvS _ _ _ _ _ ?_;refine⟨λ_=>?_,λh=>absurd h (by simp;omega)⟩;simp only[Int.toNat_natCast,Nat.zero_add,nI,nJ,Z5,nH,hw,iJ,aW,Yk,and_true,true_and,Int.natCast_nonneg];exact hA
 ·intro kk l hl hq;refine QvS _ _ _ _ _ ?_;exact⟨λh=>absurd h (by simp),λ_=>hq⟩
theorem QQe:Qf Tryz.prog Np:=Qh λx _=>QKY x.1 x.2.1
def pH(t:Int):aB:=b6 (aL t)
def Nr:aJ:=Qg 214 [(.c (.sl Qs)),(.c TI)] λx=>(some (Q5 (α:=List Ql) x.1 x.2.1),pH (aR (α:=List Ql) x.1 x.2.1))
def Ns:aF:=⟨[sC],false⟩
def QAP:af :=
 (ag [(ag [(.ae [ab 6 5,ab 7 0,ba 8 7,aw 9 .lss 6 8]),(.cond 9 .skip (.exit 0))]),(.block 1 (ag [(ag [(.ae [ab 12 0,ab 13 5,aZ 14 12 13 Qs,ak 15 14 0,an 16 15 1,ab 17 1,aw 18 .neq 16 17]),(.cond 18 (ag [(.ae [ab 4 (ar (-1))]),.ret]) .skip)]),(.ae [ab 19 1,aw 20 .add 19 (ar 1),ab 1 20]),(.ae [ab 21 0,ab 22 5,aZ 23 21 22 Qs,ak 24 23 1,an 25 24 1,ab 26 1,aD 27 27 [25,26],ab 1 27]),(.ae [ab 28 1,aw 29 .lss 28 (ar 0)]),(.cond 29 (ag [(.ae [ab 4 (ar (-1))]),.ret]) .skip)])),(.ae [ab 10 5,aw 11 .add 10 (ar 1),ab 5 11])])
def QC5:List (Nat × Md):=eV [0,1,5]
def QAG:af :=
 (ag [(.ae [ab 30 1,ab 4 30]),.ret])
def QUZ:af :=
 (ag [(.ae [ab 4 (ar 0)]),(ag [(.ae [ab 5 (ar 0)]),(.block 0 (.loop QC5 QAP))]),QAG])
def Qq5:List (bn × Md):=[(.t 4,.one .d)]
def QDC:Qb:=TQ 0 0 Qq5 K
def QEQ:Qb:=a0 (aN Ns 0 QAG (QDC K)) (QDC K)
def QKm:Qb:=a7 0 (QEQ K)
def Dp(a:List Ql)(k1:Int)(i:Int):Prop:=Loop Ns 0 QC5 QAP (QKm K) ⟨[(0,(bf Qs a)),(1,(aL k1)),(5,(aL i))],[],0⟩
theorem QqD(a:List Ql)(k1:Int)(i:Int) (h :
 (aI (decide (i<(a.length:Int))) ((0<=i/\Int.toNat i<a.length)/\(aI (((aq ((0,[]):Ql) a (Int.toNat i)).1) != k1) (K (pH (-1:Int))) (((0<=i/\Int.toNat i<a.length)/\(Q5 (α:=List Int) ((aq ((0,[]):Ql) a (Int.toNat i)).2) (aG (k1+1))))/\(aI (decide ((aR (α:=List Int) ((aq ((0,[]):Ql) a (Int.toNat i)).2) (aG (k1+1)))<0)) (K (pH (-1:Int))) (Dp K a (aR (α:=List Int) ((aq ((0,[]):Ql) a (Int.toNat i)).2) (aG (k1+1))) (aG (i+1))))))) (K (pH k1)))):Dp K a k1 i :=
 Loop.of h
theorem QRV(a:List Ql)(k:Int)(hp:Q5 (α:=List Ql) a k):aK Tryz.prog 214 [(.c (.sl Qs) a),(.c TI k)] (pH (aR (α:=List Ql) a k)):=by
 refine bz Ns QUZ Qq5 0 0 31 Nr (kc yX kn) (λK =>
 (Dp K a k 0)) (λhb=>?_)
 have ff:a.length<=9223372036854775807:=hb.1.1;refine JY (A:=λkk ii=>Dp (λr'=>r'=pH (aR (α:=List Ql) a k)) a kk ii) (Q:=λz=>pH z=pH (aR (α:=List Ql) a k)) a k hp ?_ ?_ rfl
 ·intro kk pre post x ha fP cm dj;have aW:pre.length<a.length:=by rw[ha];simp
  have hg:∀ d,aq d a pre.length=x:=λd=>by rw[ha];exact Z5 d pre post x
  have hw:aG (((pre.length:Nat):Int)+1)=((pre.length+1:Nat):Int):=by rw[QF (by omega) (by omega)];omega
  refine QqD _ _ _ _ ?_;refine⟨λ_=>?_,λh=>absurd h (by simp;omega)⟩;simp only[Int.toNat_natCast,hg,hw,aW,Yk,and_true,true_and,Int.natCast_nonneg];have gI:=(Zd fP).1;have fL:=(Zd fP).2;simp only[oZ,o3,o4,Prod.ext_iff]at cm dj gI fL;refine⟨λh=>cm (λe=>YO h (e.1).symm),λh0=>?_⟩;have e0:=(YZ h0).symm;refine⟨fL,λh=>cm (λe=>Z7 fL (of_decide_eq_true h) (e.2)),λh1=>?_⟩;obtain⟨e1,h1⟩:=Z2 (of_decide_eq_false h1);rw[h1];exact dj ⟨e0,e1⟩
 ·intro kk hq;refine QqD _ _ _ _ ?_;exact⟨λh=>absurd h (by simp),λ_=>hq⟩
theorem QLY:Qf Tryz.prog Nr:=Qh λx h=>QRV x.1 x.2.1 h
def uP(t:Int × (List aH)):aB:=⟨(aL t.1),[],[],true,[(.sl 0 aM (.dp 0 false []) t.2)]⟩
def Nt:aJ:=Qg 80 [(.d aM),(.c TI)] λx=>(none,uP (QT (α:=List aH) x.1 x.2.1))
def Nu:aF:=⟨[sA],true⟩
def QxB:af :=
 (ag [(ag [(.ae [ab 6 5,ab 7 0,ba 8 7,aw 9 .lss 6 8]),(.cond 9 .skip (.exit 0))]),(.block 1 (ag [(.ae [ab 12 0,ab 13 5,ab 14 1,aZ 15 12 13 aM,ak 16 15 0,aV 16 14 1]),(.ae [ab 17 1,aw 18 .add 17 (ar 1),ab 1 18]),(.ae [ab 19 0,ab 20 5,ab 21 1,aZ 22 19 20 aM,ak 23 22 1,aV 23 21 1]),(.ae [ab 24 1,aw 25 .add 24 (ar 1),ab 1 25]),(.ae [ab 26 0,ab 27 5,ab 28 1,aZ 29 26 27 aM,ak 30 29 2,aV 30 28 1]),(.ae [ab 31 1,aw 32 .add 31 (ar 1),ab 1 32]),(.ae [ab 33 0,ab 34 5,aZ 35 33 34 aM,ak 36 35 3,an 37 36 1,ab 38 1,aD 39 26 [37,38],ab 1 39])])),(.ae [ab 10 5,aw 11 .add 10 (ar 1),ab 5 11])])
def QBE:List (Nat × Md):=[(0,.one .f),(1,.one .d),(5,.one .d)]
def QCh:af :=
 (ag [(.ae [ab 40 1,ab 4 40]),.ret])
def QS1:af :=
 (ag [(.ae [ab 4 (ar 0)]),(ag [(.ae [ab 5 (ar 0)]),(.block 0 (.loop QBE QxB))]),QCh])
def Qrd:List (bn × Md):=[(.t 4,.one .d)]
def Qwl:Qb:=TQ 0 1 Qrd K
def QHj:Qb:=a0 (aN Nu 1 QCh (Qwl K)) (Qwl K)
def QLx:Qb:=a7 0 (QHj K)
def Dq(a:List aH)(k1:Int)(i:Int)(a1:List aH):Prop:=Loop Nu 1 QBE QxB (QLx K) ⟨[(0,(.r aM 0 0 a.length)),(1,(aL k1)),(5,(aL i))],[(0,(.sl 0 aM (.dp 0 false []) a1))],1⟩
theorem Qzr(a:List aH)(k1:Int)(i:Int)(a1:List aH) (h :
 let z2:=gu b5 (0+(Int.toNat i)) (λe_ k_=>(k_,e_.2.1,e_.2.2.1,e_.2.2.2)) (k1,a1)
 let z4:=gu b5 (0+(Int.toNat i)) (λe_ k_=>(e_.1,k_,e_.2.2.1,e_.2.2.2)) z2
 let z1:=gu b5 (0+(Int.toNat i)) (λe_ k_=>(e_.1,e_.2.1,k_,e_.2.2.2)) z4
 let z3:=f7 b5 (0+(Int.toNat i)) (λe_=>e_.2.2.2) (λe_ y_=>(e_.1,e_.2.1,e_.2.2.1,y_)) (QT (α:=List Int)) z1
 (aI (decide (i<((a.length:Nat):Int))) (((0<=i/\Int.toNat i<a.length)/\((0+(Int.toNat i))<a1.length))/\(((0<=i/\Int.toNat i<a.length)/\((0+(Int.toNat i))<(z2.2).length))/\(((0<=i/\Int.toNat i<a.length)/\((0+(Int.toNat i))<(z4.2).length))/\(((0<=i/\Int.toNat i<a.length)/\(((0+(Int.toNat i))<(z1.2).length)/\((0+(Int.toNat i))<(z1.2).length)))/\(Dq K a (z3.1) (aG (i+1)) (z3.2)))))) (K (uP (k1,a1))))):Dq K a k1 i a1 :=
 Loop.of h
theorem QME(a:List aH)(k:Int):aK Tryz.prog 80 [(.ow 0 aM dw a),(.c TI k)] (uP (QT (α:=List aH) a k)):=by
 refine bz Nu QS1 Qrd 0 1 41 Nt (kc yW kn) (λK =>
 (Dq K a k 0 a)) (λhb=>?_)
 have ff:a.length<=9223372036854775807:=hb.1.1;refine J3 (A:=λkk ii ll=>Dq (λr'=>r'=uP (QT (α:=List aH) a k)) a kk ii ll) (Q:=λz=>uP z=uP (QT (α:=List aH) a k)) a k ?_ ?_ rfl
 ·intro kk pre post x hl hA;have aW:pre.length<a.length:=by omega
  have hw:aG (((pre.length:Nat):Int)+1)=((pre.length+1:Nat):Int):=by rw[QF (by omega) (by omega)];omega
  refine Qzr _ _ _ _ _ ?_
  conv=>zeta
  refine⟨λ_=>?_,λh=>absurd h (by simp;omega)⟩;simp only[Int.toNat_natCast,Nat.zero_add,nI,nJ,Z5,nH,hw,iJ,aW,Yk,and_true,true_and,Int.natCast_nonneg];exact hA
 ·intro kk l hl hq;refine Qzr _ _ _ _ _ ?_
  conv=>zeta
  exact⟨λh=>absurd h (by simp),λ_=>hq⟩
theorem QHI:Qf Tryz.prog Nt:=Qh λx _=>QME x.1 x.2.1
def JV(t:Int):aB:=b6 (aL t)
def Nv:aJ:=Qg 84 [(.c (.sl aM)),(.c TI)] λx=>(some (Q5 (α:=List aH) x.1 x.2.1),JV (aR (α:=List aH) x.1 x.2.1))
def Nw:aF:=⟨[sC],false⟩
def Qs3:af :=
 (ag [(ag [(.ae [ab 6 5,ab 7 0,ba 8 7,aw 9 .lss 6 8]),(.cond 9 .skip (.exit 0))]),(.block 1 (ag [(ag [(.ae [ab 12 0,ab 13 5,aZ 14 12 13 aM,ak 15 14 0,an 16 15 1,ab 17 1,aw 18 .neq 16 17]),(.cond 18 (ag [(.ae [ab 4 (ar (-1))]),.ret]) .skip)]),(.ae [ab 19 1,aw 20 .add 19 (ar 1),ab 1 20]),(ag [(.ae [ab 21 0,ab 22 5,aZ 23 21 22 aM,ak 24 23 1,an 25 24 1,ab 26 1,aw 27 .neq 25 26]),(.cond 27 (ag [(.ae [ab 4 (ar (-1))]),.ret]) .skip)]),(.ae [ab 28 1,aw 29 .add 28 (ar 1),ab 1 29]),(ag [(.ae [ab 30 0,ab 31 5,aZ 32 30 31 aM,ak 33 32 2,an 34 33 1,ab 35 1,aw 36 .neq 34 35]),(.cond 36 (ag [(.ae [ab 4 (ar (-1))]),.ret]) .skip)]),(.ae [ab 37 1,aw 38 .add 37 (ar 1),ab 1 38]),(.ae [ab 39 0,ab 40 5,aZ 41 39 40 aM,ak 42 41 3,an 43 42 1,ab 44 1,aD 45 27 [43,44],ab 1 45]),(.ae [ab 46 1,aw 47 .lss 46 (ar 0)]),(.cond 47 (ag [(.ae [ab 4 (ar (-1))]),.ret]) .skip)])),(.ae [ab 10 5,aw 11 .add 10 (ar 1),ab 5 11])])
def QsK:List (Nat × Md):=eV [0,1,5]
def Qt4:af :=
 (ag [(.ae [ab 48 1,ab 4 48]),.ret])
def QP4:af :=
 (ag [(.ae [ab 4 (ar 0)]),(ag [(.ae [ab 5 (ar 0)]),(.block 0 (.loop QsK Qs3))]),Qt4])
def Qvs:List (bn × Md):=[(.t 4,.one .d)]
def Qrs:Qb:=TQ 0 0 Qvs K
def QNu:Qb:=a0 (aN Nw 0 Qt4 (Qrs K)) (Qrs K)
def QJV:Qb:=a7 0 (QNu K)
def Dr(a:List aH)(k1:Int)(i:Int):Prop:=Loop Nw 0 QsK Qs3 (QJV K) ⟨[(0,(bf aM a)),(1,(aL k1)),(5,(aL i))],[],0⟩
theorem Qyf(a:List aH)(k1:Int)(i:Int) (h :
 (aI (decide (i<(a.length:Int))) ((0<=i/\Int.toNat i<a.length)/\(aI (((aq b5 a (Int.toNat i)).1) != k1) (K (JV (-1:Int))) ((0<=i/\Int.toNat i<a.length)/\(aI (((aq b5 a (Int.toNat i)).2.1) != (aG (k1+1))) (K (JV (-1:Int))) ((0<=i/\Int.toNat i<a.length)/\(aI (((aq b5 a (Int.toNat i)).2.2.1) != (aG ((aG (k1+1))+1))) (K (JV (-1:Int))) (((0<=i/\Int.toNat i<a.length)/\(Q5 (α:=List Int) ((aq b5 a (Int.toNat i)).2.2.2) (aG ((aG ((aG (k1+1))+1))+1))))/\(aI (decide ((aR (α:=List Int) ((aq b5 a (Int.toNat i)).2.2.2) (aG ((aG ((aG (k1+1))+1))+1)))<0)) (K (JV (-1:Int))) (Dr K a (aR (α:=List Int) ((aq b5 a (Int.toNat i)).2.2.2) (aG ((aG ((aG (k1+1))+1))+1))) (aG (i+1))))))))))) (K (JV k1)))):Dr K a k1 i :=
 Loop.of h
theorem QSq(a:List aH)(k:Int)(hp:Q5 (α:=List aH) a k):aK Tryz.prog 84 [(.c (.sl aM) a),(.c TI k)] (JV (aR (α:=List aH) a k)):=by
 refine bz Nw QP4 Qvs 0 0 49 Nv (kc yX kn) (λK =>
 (Dr K a k 0)) (λhb=>?_)
 have ff:a.length<=9223372036854775807:=hb.1.1;refine JY (A:=λkk ii=>Dr (λr'=>r'=JV (aR (α:=List aH) a k)) a kk ii) (Q:=λz=>JV z=JV (aR (α:=List aH) a k)) a k hp ?_ ?_ rfl
 ·intro kk pre post x ha fP cm dj;have aW:pre.length<a.length:=by rw[ha];simp
  have hg:∀ d,aq d a pre.length=x:=λd=>by rw[ha];exact Z5 d pre post x
  have hw:aG (((pre.length:Nat):Int)+1)=((pre.length+1:Nat):Int):=by rw[QF (by omega) (by omega)];omega
  refine Qyf _ _ _ _ ?_;refine⟨λ_=>?_,λh=>absurd h (by simp;omega)⟩;simp only[Int.toNat_natCast,hg,hw,aW,Yk,and_true,true_and,Int.natCast_nonneg];have gI:=(Zd fP).1;have fL:=(Zd fP).2;have eS:=(Zd fL).1;have iK:=(Zd fL).2;have fg:=(Zd iK).1;have gh:=(Zd iK).2;simp only[oZ,o3,o4,Prod.ext_iff]at cm dj gI fL eS iK fg gh;refine⟨λh=>cm (λe=>YO h (e.1).symm),λh0=>?_⟩;have e0:=(YZ h0).symm;refine⟨λh=>cm (λe=>YO h (e.2.1).symm),λh1=>?_⟩;have e1:=(YZ h1).symm;refine⟨λh=>cm (λe=>YO h (e.2.2.1).symm),λh2=>?_⟩;have e2:=(YZ h2).symm;refine⟨gh,λh=>cm (λe=>Z7 gh (of_decide_eq_true h) (e.2.2.2)),λh3=>?_⟩;obtain⟨e3,h3⟩:=Z2 (of_decide_eq_false h3);rw[h3];exact dj ⟨e0,e1,e2,e3⟩
 ·intro kk hq;refine Qyf _ _ _ _ ?_;exact⟨λh=>absurd h (by simp),λ_=>hq⟩
theorem QLD:Qf Tryz.prog Nv:=Qh λx h=>QSq x.1 x.2.1 h
def uQ(t:Int × (List Qo)):aB:=⟨(aL t.1),[],[],true,[(.sl 0 QG (.dp 0 false []) t.2)]⟩
def Nx:aJ:=Qg 42 [(.d QG),(.c TI)] λx=>(none,uQ (QT (α:=List Qo) x.1 x.2.1))
def Ny:aF:=⟨[sA],true⟩
def QBT:af :=
 (ag [(ag [(.ae [ab 6 5,ab 7 0,ba 8 7,aw 9 .lss 6 8]),(.cond 9 .skip (.exit 0))]),(.block 1 (ag [(.ae [ab 12 0,ab 13 5,aZ 14 12 13 QG,ak 15 14 0,an 16 15 1,ab 17 1,aD 18 26 [16,17],ab 1 18]),(.ae [ab 19 0,ab 20 5,aZ 21 19 20 QG,ak 22 21 1,an 23 22 1,ab 24 1,aD 25 26 [23,24],ab 1 25])])),(.ae [ab 10 5,aw 11 .add 10 (ar 1),ab 5 11])])
def QwD:List (Nat × Md):=[(0,.one .f),(1,.one .d),(5,.one .d)]
def Que:af :=
 (ag [(.ae [ab 26 1,ab 4 26]),.ret])
def QRq:af :=
 (ag [(.ae [ab 4 (ar 0)]),(ag [(.ae [ab 5 (ar 0)]),(.block 0 (.loop QwD QBT))]),Que])
def Qr1:List (bn × Md):=[(.t 4,.one .d)]
def QtZ:Qb:=TQ 0 1 Qr1 K
def QSW:Qb:=a0 (aN Ny 1 Que (QtZ K)) (QtZ K)
def QWN:Qb:=a7 0 (QSW K)
def Ds(a:List Qo)(k1:Int)(i:Int)(a1:List Qo):Prop:=Loop Ny 1 QwD QBT (QWN K) ⟨[(0,(.r QG 0 0 a.length)),(1,(aL k1)),(5,(aL i))],[(0,(.sl 0 QG (.dp 0 false []) a1))],1⟩
theorem Qya(a:List Qo)(k1:Int)(i:Int)(a1:List Qo) (h :
 (aI (decide (i<((a.length:Nat):Int))) (((0<=i/\Int.toNat i<a.length)/\(((0+(Int.toNat i))<a1.length)/\((0+(Int.toNat i))<a1.length)))/\(((0<=i/\Int.toNat i<a.length)/\(((0+(Int.toNat i))<((f7 QW (0+(Int.toNat i)) (λe_=>e_.1) (λe_ y_=>(y_,e_.2)) (QT (α:=List Int)) (k1,a1)).2).length)/\((0+(Int.toNat i))<((f7 QW (0+(Int.toNat i)) (λe_=>e_.1) (λe_ y_=>(y_,e_.2)) (QT (α:=List Int)) (k1,a1)).2).length)))/\(Ds K a ((f7 QW (0+(Int.toNat i)) (λe_=>e_.2) (λe_ y_=>(e_.1,y_)) (QT (α:=List Int)) (f7 QW (0+(Int.toNat i)) (λe_=>e_.1) (λe_ y_=>(y_,e_.2)) (QT (α:=List Int)) (k1,a1))).1) (aG (i+1)) ((f7 QW (0+(Int.toNat i)) (λe_=>e_.2) (λe_ y_=>(e_.1,y_)) (QT (α:=List Int)) (f7 QW (0+(Int.toNat i)) (λe_=>e_.1) (λe_ y_=>(y_,e_.2)) (QT (α:=List Int)) (k1,a1))).2)))) (K (uQ (k1,a1))))):Ds K a k1 i a1 :=
 Loop.of h
theorem QHu(a:List Qo)(k:Int):aK Tryz.prog 42 [(.ow 0 QG dw a),(.c TI k)] (uQ (QT (α:=List Qo) a k)):=by
 refine bz Ny QRq Qr1 0 1 27 Nx (kc yW kn) (λK =>
 (Ds K a k 0 a)) (λhb=>?_)
 have ff:a.length<=9223372036854775807:=hb.1.1;refine J3 (A:=λkk ii ll=>Ds (λr'=>r'=uQ (QT (α:=List Qo) a k)) a kk ii ll) (Q:=λz=>uQ z=uQ (QT (α:=List Qo) a k)) a k ?_ ?_ rfl
 ·intro kk pre post x hl hA;have aW:pre.length<a.length:=by omega
  have hw:aG (((pre.length:Nat):Int)+1)=((pre.length+1:Nat):Int):=by rw[QF (by omega) (by omega)];omega
  refine Qya _ _ _ _ _ ?_;refine⟨λ_=>?_,λh=>absurd h (by simp;omega)⟩;simp only[Int.toNat_natCast,Nat.zero_add,nI,nJ,Z5,nH,hw,iJ,aW,Yk,and_true,true_and,Int.natCast_nonneg];exact hA
 ·intro kk l hl hq;refine Qya _ _ _ _ _ ?_;exact⟨λh=>absurd h (by simp),λ_=>hq⟩
theorem QGz:Qf Tryz.prog Nx:=Qh λx _=>QHu x.1 x.2.1
def pI(t:Int):aB:=b6 (aL t)
def Nz:aJ:=Qg 136 [(.c (.sl QG)),(.c TI)] λx=>(some (Q5 (α:=List Qo) x.1 x.2.1),pI (aR (α:=List Qo) x.1 x.2.1))
def NA:aF:=⟨[sC],false⟩
def Qwn:af :=
 (ag [(ag [(.ae [ab 6 5,ab 7 0,ba 8 7,aw 9 .lss 6 8]),(.cond 9 .skip (.exit 0))]),(.block 1 (ag [(.ae [ab 12 0,ab 13 5,aZ 14 12 13 QG,ak 15 14 0,an 16 15 1,ab 17 1,aD 18 27 [16,17],ab 1 18]),(ag [(.ae [ab 19 1,aw 20 .lss 19 (ar 0)]),(.cond 20 (ag [(.ae [ab 4 (ar (-1))]),.ret]) .skip)]),(.ae [ab 21 0,ab 22 5,aZ 23 21 22 QG,ak 24 23 1,an 25 24 1,ab 26 1,aD 27 27 [25,26],ab 1 27]),(.ae [ab 28 1,aw 29 .lss 28 (ar 0)]),(.cond 29 (ag [(.ae [ab 4 (ar (-1))]),.ret]) .skip)])),(.ae [ab 10 5,aw 11 .add 10 (ar 1),ab 5 11])])
def QBl:List (Nat × Md):=eV [0,1,5]
def Qv3:af :=
 (ag [(.ae [ab 30 1,ab 4 30]),.ret])
def QO4:af :=
 (ag [(.ae [ab 4 (ar 0)]),(ag [(.ae [ab 5 (ar 0)]),(.block 0 (.loop QBl Qwn))]),Qv3])
def Qtg:List (bn × Md):=[(.t 4,.one .d)]
def QBR:Qb:=TQ 0 0 Qtg K
def QOK:Qb:=a0 (aN NA 0 Qv3 (QBR K)) (QBR K)
def QLs:Qb:=a7 0 (QOK K)
def Dt(a:List Qo)(k1:Int)(i:Int):Prop:=Loop NA 0 QBl Qwn (QLs K) ⟨[(0,(bf QG a)),(1,(aL k1)),(5,(aL i))],[],0⟩
theorem QuI(a:List Qo)(k1:Int)(i:Int) (h :
 (aI (decide (i<(a.length:Int))) (((0<=i/\Int.toNat i<a.length)/\(Q5 (α:=List Int) ((aq QW a (Int.toNat i)).1) k1))/\(aI (decide ((aR (α:=List Int) ((aq QW a (Int.toNat i)).1) k1)<0)) (K (pI (-1:Int))) (((0<=i/\Int.toNat i<a.length)/\(Q5 (α:=List Int) ((aq QW a (Int.toNat i)).2) (aR (α:=List Int) ((aq QW a (Int.toNat i)).1) k1)))/\(aI (decide ((aR (α:=List Int) ((aq QW a (Int.toNat i)).2) (aR (α:=List Int) ((aq QW a (Int.toNat i)).1) k1))<0)) (K (pI (-1:Int))) (Dt K a (aR (α:=List Int) ((aq QW a (Int.toNat i)).2) (aR (α:=List Int) ((aq QW a (Int.toNat i)).1) k1)) (aG (i+1))))))) (K (pI k1)))):Dt K a k1 i :=
 Loop.of h
theorem QMS(a:List Qo)(k:Int)(hp:Q5 (α:=List Qo) a k):aK Tryz.prog 136 [(.c (.sl QG) a),(.c TI k)] (pI (aR (α:=List Qo) a k)):=by
 refine bz NA QO4 Qtg 0 0 31 Nz (kc yX kn) (λK =>
 (Dt K a k 0)) (λhb=>?_)
 have ff:a.length<=9223372036854775807:=hb.1.1;refine JY (A:=λkk ii=>Dt (λr'=>r'=pI (aR (α:=List Qo) a k)) a kk ii) (Q:=λz=>pI z=pI (aR (α:=List Qo) a k)) a k hp ?_ ?_ rfl
 ·intro kk pre post x ha fP cm dj;have aW:pre.length<a.length:=by rw[ha];simp
  have hg:∀ d,aq d a pre.length=x:=λd=>by rw[ha];exact Z5 d pre post x
  have hw:aG (((pre.length:Nat):Int)+1)=((pre.length+1:Nat):Int):=by rw[QF (by omega) (by omega)];omega
  refine QuI _ _ _ _ ?_;refine⟨λ_=>?_,λh=>absurd h (by simp;omega)⟩;simp only[Int.toNat_natCast,hg,hw,aW,Yk,and_true,true_and,Int.natCast_nonneg];have gI:=(Zd fP).1;have fL:=(Zd fP).2;simp only[oZ,o3,o4,Prod.ext_iff]at cm dj gI fL;refine⟨gI,λh=>cm (λe=>Z7 gI (of_decide_eq_true h) (e.1)),λh0=>?_⟩;obtain⟨e0,h0⟩:=Z2 (of_decide_eq_false h0);rw[h0];refine⟨fL,λh=>cm (λe=>Z7 fL (of_decide_eq_true h) (e.2)),λh1=>?_⟩;obtain⟨e1,h1⟩:=Z2 (of_decide_eq_false h1);rw[h1];exact dj ⟨e0,e1⟩
 ·intro kk hq;refine QuI _ _ _ _ ?_;exact⟨λh=>absurd h (by simp),λ_=>hq⟩
theorem QIx:Qf Tryz.prog Nz:=Qh λx h=>QMS x.1 x.2.1 h
def uR(t:Int × (List QC)):aB:=⟨(aL t.1),[],[],true,[(.sl 0 QD (.dp 0 false []) t.2)]⟩
def NB:aJ:=Qg 81 [(.d QD),(.c TI)] λx=>(none,uR (QT (α:=List QC) x.1 x.2.1))
def NC:aF:=⟨[Dh],true⟩
def QzJ:af :=
 (ag [(ag [(.ae [ab 6 5,ab 7 0,ba 8 7,aw 9 .lss 6 8]),(.cond 9 .skip (.exit 0))]),(.block 1 (ag [(.ae [ab 12 0,ab 13 5,ab 14 1,aZ 15 12 13 QD,ak 16 15 0,aV 16 14 1]),(.ae [ab 17 1,aw 18 .add 17 (ar 1),ab 1 18]),(.ae [ab 19 0,ab 20 5,aZ 21 19 20 QD,ak 22 21 1,an 23 22 1,ab 24 1,aD 25 82 [23,24],ab 1 25])])),(.ae [ab 10 5,aw 11 .add 10 (ar 1),ab 5 11])])
def Qu9:List (Nat × Md):=[(0,.one .f),(1,.one .d),(5,.one .d)]
def QCq:af :=
 (ag [(.ae [ab 26 1,ab 4 26]),.ret])
def QHf:af :=
 (ag [(.ae [ab 4 (ar 0)]),(ag [(.ae [ab 5 (ar 0)]),(.block 0 (.loop Qu9 QzJ))]),QCq])
def Qxo:List (bn × Md):=[(.t 4,.one .d)]
def Qv6:Qb:=TQ 0 1 Qxo K
def QJ3:Qb:=a0 (aN NC 1 QCq (Qv6 K)) (Qv6 K)
def QEX:Qb:=a7 0 (QJ3 K)
def Du(a:List QC)(k1:Int)(i:Int)(a1:List QC):Prop:=Loop NC 1 Qu9 QzJ (QEX K) ⟨[(0,(.r QD 0 0 a.length)),(1,(aL k1)),(5,(aL i))],[(0,(.sl 0 QD (.dp 0 false []) a1))],1⟩
theorem Qxp(a:List QC)(k1:Int)(i:Int)(a1:List QC) (h :
 (aI (decide (i<((a.length:Nat):Int))) (((0<=i/\Int.toNat i<a.length)/\((0+(Int.toNat i))<a1.length))/\(((0<=i/\Int.toNat i<a.length)/\(((0+(Int.toNat i))<((gu QS (0+(Int.toNat i)) (λe_ k_=>(k_,e_.2)) (k1,a1)).2).length)/\((0+(Int.toNat i))<((gu QS (0+(Int.toNat i)) (λe_ k_=>(k_,e_.2)) (k1,a1)).2).length)))/\(Du K a ((f7 QS (0+(Int.toNat i)) (λe_=>e_.2) (λe_ y_=>(e_.1,y_)) (QT (α:=List (List Int))) (gu QS (0+(Int.toNat i)) (λe_ k_=>(k_,e_.2)) (k1,a1))).1) (aG (i+1)) ((f7 QS (0+(Int.toNat i)) (λe_=>e_.2) (λe_ y_=>(e_.1,y_)) (QT (α:=List (List Int))) (gu QS (0+(Int.toNat i)) (λe_ k_=>(k_,e_.2)) (k1,a1))).2)))) (K (uR (k1,a1))))):Du K a k1 i a1 :=
 Loop.of h
theorem QVm(a:List QC)(k:Int):aK Tryz.prog 81 [(.ow 0 QD dw a),(.c TI k)] (uR (QT (α:=List QC) a k)):=by
 refine bz NC QHf Qxo 0 1 27 NB (kc QzV kn) (λK =>
 (Du K a k 0 a)) (λhb=>?_)
 have ff:a.length<=9223372036854775807:=hb.1.1;refine J3 (A:=λkk ii ll=>Du (λr'=>r'=uR (QT (α:=List QC) a k)) a kk ii ll) (Q:=λz=>uR z=uR (QT (α:=List QC) a k)) a k ?_ ?_ rfl
 ·intro kk pre post x hl hA;have aW:pre.length<a.length:=by omega
  have hw:aG (((pre.length:Nat):Int)+1)=((pre.length+1:Nat):Int):=by rw[QF (by omega) (by omega)];omega
  refine Qxp _ _ _ _ _ ?_;refine⟨λ_=>?_,λh=>absurd h (by simp;omega)⟩;simp only[Int.toNat_natCast,Nat.zero_add,nI,nJ,Z5,nH,hw,iJ,aW,Yk,and_true,true_and,Int.natCast_nonneg];exact hA
 ·intro kk l hl hq;refine Qxp _ _ _ _ _ ?_;exact⟨λh=>absurd h (by simp),λ_=>hq⟩
theorem QLf:Qf Tryz.prog NB:=Qh λx _=>QVm x.1 x.2.1
def pJ(t:Int):aB:=b6 (aL t)
def ND:aJ:=Qg 85 [(.c (.sl QD)),(.c TI)] λx=>(some (Q5 (α:=List QC) x.1 x.2.1),pJ (aR (α:=List QC) x.1 x.2.1))
def NF:aF:=⟨[Dj],false⟩
def Qww:af :=
 (ag [(ag [(.ae [ab 6 5,ab 7 0,ba 8 7,aw 9 .lss 6 8]),(.cond 9 .skip (.exit 0))]),(.block 1 (ag [(ag [(.ae [ab 12 0,ab 13 5,aZ 14 12 13 QD,ak 15 14 0,an 16 15 1,ab 17 1,aw 18 .neq 16 17]),(.cond 18 (ag [(.ae [ab 4 (ar (-1))]),.ret]) .skip)]),(.ae [ab 19 1,aw 20 .add 19 (ar 1),ab 1 20]),(.ae [ab 21 0,ab 22 5,aZ 23 21 22 QD,ak 24 23 1,an 25 24 1,ab 26 1,aD 27 86 [25,26],ab 1 27]),(.ae [ab 28 1,aw 29 .lss 28 (ar 0)]),(.cond 29 (ag [(.ae [ab 4 (ar (-1))]),.ret]) .skip)])),(.ae [ab 10 5,aw 11 .add 10 (ar 1),ab 5 11])])
def QDb:List (Nat × Md):=eV [0,1,5]
def QDq:af :=
 (ag [(.ae [ab 30 1,ab 4 30]),.ret])
def QHG:af :=
 (ag [(.ae [ab 4 (ar 0)]),(ag [(.ae [ab 5 (ar 0)]),(.block 0 (.loop QDb Qww))]),QDq])
def Qwv:List (bn × Md):=[(.t 4,.one .d)]
def Qxl:Qb:=TQ 0 0 Qwv K
def QMt:Qb:=a0 (aN NF 0 QDq (Qxl K)) (Qxl K)
def QJB:Qb:=a7 0 (QMt K)
def Dv(a:List QC)(k1:Int)(i:Int):Prop:=Loop NF 0 QDb Qww (QJB K) ⟨[(0,(bf QD a)),(1,(aL k1)),(5,(aL i))],[],0⟩
theorem Qvr(a:List QC)(k1:Int)(i:Int) (h :
 (aI (decide (i<(a.length:Int))) ((0<=i/\Int.toNat i<a.length)/\(aI (((aq QS a (Int.toNat i)).1) != k1) (K (pJ (-1:Int))) (((0<=i/\Int.toNat i<a.length)/\(Q5 (α:=List (List Int)) ((aq QS a (Int.toNat i)).2) (aG (k1+1))))/\(aI (decide ((aR (α:=List (List Int)) ((aq QS a (Int.toNat i)).2) (aG (k1+1)))<0)) (K (pJ (-1:Int))) (Dv K a (aR (α:=List (List Int)) ((aq QS a (Int.toNat i)).2) (aG (k1+1))) (aG (i+1))))))) (K (pJ k1)))):Dv K a k1 i :=
 Loop.of h
theorem QGu(a:List QC)(k:Int)(hp:Q5 (α:=List QC) a k):aK Tryz.prog 85 [(.c (.sl QD) a),(.c TI k)] (pJ (aR (α:=List QC) a k)):=by
 refine bz NF QHG Qwv 0 0 31 ND (kc QxZ kn) (λK =>
 (Dv K a k 0)) (λhb=>?_)
 have ff:a.length<=9223372036854775807:=hb.1.1;refine JY (A:=λkk ii=>Dv (λr'=>r'=pJ (aR (α:=List QC) a k)) a kk ii) (Q:=λz=>pJ z=pJ (aR (α:=List QC) a k)) a k hp ?_ ?_ rfl
 ·intro kk pre post x ha fP cm dj;have aW:pre.length<a.length:=by rw[ha];simp
  have hg:∀ d,aq d a pre.length=x:=λd=>by rw[ha];exact Z5 d pre post x
  have hw:aG (((pre.length:Nat):Int)+1)=((pre.length+1:Nat):Int):=by rw[QF (by omega) (by omega)];omega
  refine Qvr _ _ _ _ ?_;refine⟨λ_=>?_,λh=>absurd h (by simp;omega)⟩;simp only[Int.toNat_natCast,hg,hw,aW,Yk,and_true,true_and,Int.natCast_nonneg];have gI:=(Zd fP).1;have fL:=(Zd fP).2;simp only[oZ,o3,o4,Prod.ext_iff]at cm dj gI fL;refine⟨λh=>cm (λe=>YO h (e.1).symm),λh0=>?_⟩;have e0:=(YZ h0).symm;refine⟨fL,λh=>cm (λe=>Z7 fL (of_decide_eq_true h) (e.2)),λh1=>?_⟩;obtain⟨e1,h1⟩:=Z2 (of_decide_eq_false h1);rw[h1];exact dj ⟨e0,e1⟩
 ·intro kk hq;refine Qvr _ _ _ _ ?_;exact⟨λh=>absurd h (by simp),λ_=>hq⟩
theorem QJR:Qf Tryz.prog ND:=Qh λx h=>QGu x.1 x.2.1 h
def uS(t:Int × (List Qd)):aB:=⟨(aL t.1),[],[],true,[(.sl 0 Qj (.dp 0 false []) t.2)]⟩
def NG:aJ:=Qg 96 [(.d Qj),(.c TI)] λx=>(none,uS (QT (α:=List Qd) x.1 x.2.1))
def NH:aF:=⟨[Np],true⟩
def QCX:af :=
 (ag [(ag [(.ae [ab 6 5,ab 7 0,ba 8 7,aw 9 .lss 6 8]),(.cond 9 .skip (.exit 0))]),(.block 1 (ag [(.ae [ab 12 0,ab 13 5,ab 14 1,aZ 15 12 13 Qj,ak 16 15 0,aV 16 14 1]),(.ae [ab 17 1,aw 18 .add 17 (ar 1),ab 1 18]),(.ae [ab 19 0,ab 20 5,aZ 21 19 20 Qj,ak 22 21 1,an 23 22 1,ab 24 1,aD 25 182 [23,24],ab 1 25])])),(.ae [ab 10 5,aw 11 .add 10 (ar 1),ab 5 11])])
def QwJ:List (Nat × Md):=[(0,.one .f),(1,.one .d),(5,.one .d)]
def Qw8:af :=
 (ag [(.ae [ab 26 1,ab 4 26]),.ret])
def QXx:af :=
 (ag [(.ae [ab 4 (ar 0)]),(ag [(.ae [ab 5 (ar 0)]),(.block 0 (.loop QwJ QCX))]),Qw8])
def QAa:List (bn × Md):=[(.t 4,.one .d)]
def Qrn:Qb:=TQ 0 1 QAa K
def QKU:Qb:=a0 (aN NH 1 Qw8 (Qrn K)) (Qrn K)
def QQG:Qb:=a7 0 (QKU K)
def Dw(a:List Qd)(k1:Int)(i:Int)(a1:List Qd):Prop:=Loop NH 1 QwJ QCX (QQG K) ⟨[(0,(.r Qj 0 0 a.length)),(1,(aL k1)),(5,(aL i))],[(0,(.sl 0 Qj (.dp 0 false []) a1))],1⟩
theorem Quo(a:List Qd)(k1:Int)(i:Int)(a1:List Qd) (h :
 (aI (decide (i<((a.length:Nat):Int))) (((0<=i/\Int.toNat i<a.length)/\((0+(Int.toNat i))<a1.length))/\(((0<=i/\Int.toNat i<a.length)/\(((0+(Int.toNat i))<((gu Qv (0+(Int.toNat i)) (λe_ k_=>(k_,e_.2)) (k1,a1)).2).length)/\((0+(Int.toNat i))<((gu Qv (0+(Int.toNat i)) (λe_ k_=>(k_,e_.2)) (k1,a1)).2).length)))/\(Dw K a ((f7 Qv (0+(Int.toNat i)) (λe_=>e_.2) (λe_ y_=>(e_.1,y_)) (QT (α:=List Ql)) (gu Qv (0+(Int.toNat i)) (λe_ k_=>(k_,e_.2)) (k1,a1))).1) (aG (i+1)) ((f7 Qv (0+(Int.toNat i)) (λe_=>e_.2) (λe_ y_=>(e_.1,y_)) (QT (α:=List Ql)) (gu Qv (0+(Int.toNat i)) (λe_ k_=>(k_,e_.2)) (k1,a1))).2)))) (K (uS (k1,a1))))):Dw K a k1 i a1 :=
 Loop.of h
theorem QKB(a:List Qd)(k:Int):aK Tryz.prog 96 [(.ow 0 Qj dw a),(.c TI k)] (uS (QT (α:=List Qd) a k)):=by
 refine bz NH QXx QAa 0 1 27 NG (kc QQe kn) (λK =>
 (Dw K a k 0 a)) (λhb=>?_)
 have ff:a.length<=9223372036854775807:=hb.1.1;refine J3 (A:=λkk ii ll=>Dw (λr'=>r'=uS (QT (α:=List Qd) a k)) a kk ii ll) (Q:=λz=>uS z=uS (QT (α:=List Qd) a k)) a k ?_ ?_ rfl
 ·intro kk pre post x hl hA;have aW:pre.length<a.length:=by omega
  have hw:aG (((pre.length:Nat):Int)+1)=((pre.length+1:Nat):Int):=by rw[QF (by omega) (by omega)];omega
  refine Quo _ _ _ _ _ ?_;refine⟨λ_=>?_,λh=>absurd h (by simp;omega)⟩;simp only[Int.toNat_natCast,Nat.zero_add,nI,nJ,Z5,nH,hw,iJ,aW,Yk,and_true,true_and,Int.natCast_nonneg];exact hA
 ·intro kk l hl hq;refine Quo _ _ _ _ _ ?_;exact⟨λh=>absurd h (by simp),λ_=>hq⟩
theorem QRC:Qf Tryz.prog NG:=Qh λx _=>QKB x.1 x.2.1
def pK(t:Int):aB:=b6 (aL t)
def NI:aJ:=Qg 138 [(.c (.sl Qj)),(.c TI)] λx=>(some (Q5 (α:=List Qd) x.1 x.2.1),pK (aR (α:=List Qd) x.1 x.2.1))
def NJ:aF:=⟨[Nr],false⟩
def QCZ:af :=
 (ag [(ag [(.ae [ab 6 5,ab 7 0,ba 8 7,aw 9 .lss 6 8]),(.cond 9 .skip (.exit 0))]),(.block 1 (ag [(ag [(.ae [ab 12 0,ab 13 5,aZ 14 12 13 Qj,ak 15 14 0,an 16 15 1,ab 17 1,aw 18 .neq 16 17]),(.cond 18 (ag [(.ae [ab 4 (ar (-1))]),.ret]) .skip)]),(.ae [ab 19 1,aw 20 .add 19 (ar 1),ab 1 20]),(.ae [ab 21 0,ab 22 5,aZ 23 21 22 Qj,ak 24 23 1,an 25 24 1,ab 26 1,aD 27 214 [25,26],ab 1 27]),(.ae [ab 28 1,aw 29 .lss 28 (ar 0)]),(.cond 29 (ag [(.ae [ab 4 (ar (-1))]),.ret]) .skip)])),(.ae [ab 10 5,aw 11 .add 10 (ar 1),ab 5 11])])
def Quu:List (Nat × Md):=eV [0,1,5]
def QxP:af :=
 (ag [(.ae [ab 30 1,ab 4 30]),.ret])
def QOT:af :=
 (ag [(.ae [ab 4 (ar 0)]),(ag [(.ae [ab 5 (ar 0)]),(.block 0 (.loop Quu QCZ))]),QxP])
def QCi:List (bn × Md):=[(.t 4,.one .d)]
def QAH:Qb:=TQ 0 0 QCi K
def QGo:Qb:=a0 (aN NJ 0 QxP (QAH K)) (QAH K)
def QYb:Qb:=a7 0 (QGo K)
def Dx(a:List Qd)(k1:Int)(i:Int):Prop:=Loop NJ 0 Quu QCZ (QYb K) ⟨[(0,(bf Qj a)),(1,(aL k1)),(5,(aL i))],[],0⟩
theorem QDX(a:List Qd)(k1:Int)(i:Int) (h :
 (aI (decide (i<(a.length:Int))) ((0<=i/\Int.toNat i<a.length)/\(aI (((aq Qv a (Int.toNat i)).1) != k1) (K (pK (-1:Int))) (((0<=i/\Int.toNat i<a.length)/\(Q5 (α:=List Ql) ((aq Qv a (Int.toNat i)).2) (aG (k1+1))))/\(aI (decide ((aR (α:=List Ql) ((aq Qv a (Int.toNat i)).2) (aG (k1+1)))<0)) (K (pK (-1:Int))) (Dx K a (aR (α:=List Ql) ((aq Qv a (Int.toNat i)).2) (aG (k1+1))) (aG (i+1))))))) (K (pK k1)))):Dx K a k1 i :=
 Loop.of h
theorem QSB(a:List Qd)(k:Int)(hp:Q5 (α:=List Qd) a k):aK Tryz.prog 138 [(.c (.sl Qj) a),(.c TI k)] (pK (aR (α:=List Qd) a k)):=by
 refine bz NJ QOT QCi 0 0 31 NI (kc QLY kn) (λK =>
 (Dx K a k 0)) (λhb=>?_)
 have ff:a.length<=9223372036854775807:=hb.1.1;refine JY (A:=λkk ii=>Dx (λr'=>r'=pK (aR (α:=List Qd) a k)) a kk ii) (Q:=λz=>pK z=pK (aR (α:=List Qd) a k)) a k hp ?_ ?_ rfl
 ·intro kk pre post x ha fP cm dj;have aW:pre.length<a.length:=by rw[ha];simp
  have hg:∀ d,aq d a pre.length=x:=λd=>by rw[ha];exact Z5 d pre post x
  have hw:aG (((pre.length:Nat):Int)+1)=((pre.length+1:Nat):Int):=by rw[QF (by omega) (by omega)];omega
  refine QDX _ _ _ _ ?_;refine⟨λ_=>?_,λh=>absurd h (by simp;omega)⟩;simp only[Int.toNat_natCast,hg,hw,aW,Yk,and_true,true_and,Int.natCast_nonneg];have gI:=(Zd fP).1;have fL:=(Zd fP).2;simp only[oZ,o3,o4,Prod.ext_iff]at cm dj gI fL;refine⟨λh=>cm (λe=>YO h (e.1).symm),λh0=>?_⟩;have e0:=(YZ h0).symm;refine⟨fL,λh=>cm (λe=>Z7 fL (of_decide_eq_true h) (e.2)),λh1=>?_⟩;obtain⟨e1,h1⟩:=Z2 (of_decide_eq_false h1);rw[h1];exact dj ⟨e0,e1⟩
 ·intro kk hq;refine QDX _ _ _ _ ?_;exact⟨λh=>absurd h (by simp),λ_=>hq⟩
theorem QK1:Qf Tryz.prog NI:=Qh λx h=>QSB x.1 x.2.1 h
def uT(t:Int × (List Qc)):aB:=⟨(aL t.1),[],[],true,[(.sl 0 Qe (.dp 0 false []) t.2)]⟩
def NK:aJ:=Qg 95 [(.d Qe),(.c TI)] λx=>(none,uT (QT (α:=List Qc) x.1 x.2.1))
def NL:aF:=⟨[Nk,Nt,NB,Dh,sA],true⟩
def Qr8:af :=
 (ag [(ag [(.ae [ab 6 5,ab 7 0,ba 8 7,aw 9 .lss 6 8]),(.cond 9 .skip (.exit 0))]),(.block 1 (ag [(.ae [ab 12 0,ab 13 5,ab 14 1,aZ 15 12 13 Qe,ak 16 15 0,aV 16 14 1]),(.ae [ab 17 1,aw 18 .add 17 (ar 1),ab 1 18]),(.ae [ab 19 0,ab 20 5,aZ 21 19 20 Qe,ak 22 21 1,an 23 22 1,ab 24 1,aD 25 79 [23,24],ab 1 25]),(.ae [ab 26 0,ab 27 5,aZ 28 26 27 Qe,ak 29 28 2,an 30 29 1,ab 31 1,aD 32 80 [30,31],ab 1 32]),(.ae [ab 33 0,ab 34 5,ab 35 1,aw 36 .rem 35 (ar 3),aw 37 .eql 36 (ar 0),aZ 38 33 34 Qe,ak 39 38 3,aV 39 37 1]),(.ae [ab 40 1,aw 41 .add 40 (ar 1),ab 1 41]),(.ae [ab 42 0,ab 43 5,ab 44 1,aw 45 .rem 44 (ar 3),aw 46 .eql 45 (ar 0),aZ 47 42 43 Qe,ak 48 47 4,aV 48 46 1]),(.ae [ab 49 1,aw 50 .add 49 (ar 1),ab 1 50]),(.ae [ab 51 0,ab 52 5,aZ 53 51 52 Qe,ak 54 53 5,an 55 54 1,ab 56 1,aD 57 81 [55,56],ab 1 57]),(.ae [ab 58 0,ab 59 5,aZ 60 58 59 Qe,ak 61 60 6,an 62 61 1,ab 63 1,aD 64 82 [62,63],ab 1 64]),(.ae [ab 65 0,ab 66 5,aZ 67 65 66 Qe,ak 68 67 7,an 69 68 1,ab 70 1,aD 71 26 [69,70],ab 1 71]),(.ae [ab 72 0,ab 73 5,aZ 74 72 73 Qe,ak 75 74 8,an 76 75 1,ab 77 1,aD 78 26 [76,77],ab 1 78]),(.ae [ab 79 0,ab 80 5,aZ 81 79 80 Qe,ak 82 81 9,an 83 82 1,ab 84 1,aD 85 26 [83,84],ab 1 85]),(.ae [ab 86 0,ab 87 5,aZ 88 86 87 Qe,ak 89 88 10,an 90 89 1,ab 91 1,aD 92 26 [90,91],ab 1 92]),(.ae [ab 93 0,ab 94 5,aZ 95 93 94 Qe,ak 96 95 11,ak 97 96 0,an 98 97 1,ab 99 1,aD 100 82 [98,99],ab 1 100]),(.ae [ab 101 0,ab 102 5,ab 103 1,aZ 104 101 102 Qe,ak 105 104 11,ak 106 105 1,aV 106 103 1]),(.ae [ab 107 1,aw 108 .add 107 (ar 1),ab 1 108]),(.ae [ab 109 0,ab 110 5,ab 111 1,aw 112 .rem 111 (ar 3),aw 113 .eql 112 (ar 0),aZ 114 109 110 Qe,ak 115 114 11,ak 116 115 2,aV 116 113 1]),(.ae [ab 117 1,aw 118 .add 117 (ar 1),ab 1 118])])),(.ae [ab 10 5,aw 11 .add 10 (ar 1),ab 5 11])])
def Qyc:List (Nat × Md):=[(0,.one .f),(1,.one .d),(5,.one .d)]
def QwF:af :=
 (ag [(.ae [ab 119 1,ab 4 119]),.ret])
def QOC:af :=
 (ag [(.ae [ab 4 (ar 0)]),(ag [(.ae [ab 5 (ar 0)]),(.block 0 (.loop Qyc Qr8))]),QwF])
def Qzs:List (bn × Md):=[(.t 4,.one .d)]
def Qt3:Qb:=TQ 0 1 Qzs K
def QR3:Qb:=a0 (aN NL 1 QwF (Qt3 K)) (Qt3 K)
def QMI:Qb:=a7 0 (QR3 K)
def Dy(a:List Qc)(k1:Int)(i:Int)(a1:List Qc):Prop:=Loop NL 1 Qyc Qr8 (QMI K) ⟨[(0,(.r Qe 0 0 a.length)),(1,(aL k1)),(5,(aL i))],[(0,(.sl 0 Qe (.dp 0 false []) a1))],1⟩
theorem QBr(a:List Qc)(k1:Int)(i:Int)(a1:List Qc) (h :
 let eW:=gu Qy (0+(Int.toNat i)) (λe_ k_=>(k_,e_.2.1,e_.2.2.1,e_.2.2.2.1,e_.2.2.2.2.1,e_.2.2.2.2.2.1,e_.2.2.2.2.2.2.1,e_.2.2.2.2.2.2.2.1,e_.2.2.2.2.2.2.2.2.1,e_.2.2.2.2.2.2.2.2.2.1,e_.2.2.2.2.2.2.2.2.2.2.1,e_.2.2.2.2.2.2.2.2.2.2.2.1,e_.2.2.2.2.2.2.2.2.2.2.2.2.1,e_.2.2.2.2.2.2.2.2.2.2.2.2.2)) (k1,a1)
 let z5:=f7 Qy (0+(Int.toNat i)) (λe_=>e_.2.1) (λe_ y_=>(e_.1,y_,e_.2.2.1,e_.2.2.2.1,e_.2.2.2.2.1,e_.2.2.2.2.2.1,e_.2.2.2.2.2.2.1,e_.2.2.2.2.2.2.2.1,e_.2.2.2.2.2.2.2.2.1,e_.2.2.2.2.2.2.2.2.2.1,e_.2.2.2.2.2.2.2.2.2.2.1,e_.2.2.2.2.2.2.2.2.2.2.2.1,e_.2.2.2.2.2.2.2.2.2.2.2.2.1,e_.2.2.2.2.2.2.2.2.2.2.2.2.2)) (QT (α:=List bt)) eW
 let dQ:=f7 Qy (0+(Int.toNat i)) (λe_=>e_.2.2.1) (λe_ y_=>(e_.1,e_.2.1,y_,e_.2.2.2.1,e_.2.2.2.2.1,e_.2.2.2.2.2.1,e_.2.2.2.2.2.2.1,e_.2.2.2.2.2.2.2.1,e_.2.2.2.2.2.2.2.2.1,e_.2.2.2.2.2.2.2.2.2.1,e_.2.2.2.2.2.2.2.2.2.2.1,e_.2.2.2.2.2.2.2.2.2.2.2.1,e_.2.2.2.2.2.2.2.2.2.2.2.2.1,e_.2.2.2.2.2.2.2.2.2.2.2.2.2)) (QT (α:=List aH)) z5
 let z3:=gu Qy (0+(Int.toNat i)) (λe_ k_=>(e_.1,e_.2.1,e_.2.2.1,((Int.tmod k_ (3:Int))==0),e_.2.2.2.2.1,e_.2.2.2.2.2.1,e_.2.2.2.2.2.2.1,e_.2.2.2.2.2.2.2.1,e_.2.2.2.2.2.2.2.2.1,e_.2.2.2.2.2.2.2.2.2.1,e_.2.2.2.2.2.2.2.2.2.2.1,e_.2.2.2.2.2.2.2.2.2.2.2.1,e_.2.2.2.2.2.2.2.2.2.2.2.2.1,e_.2.2.2.2.2.2.2.2.2.2.2.2.2)) dQ
 let eX:=gu Qy (0+(Int.toNat i)) (λe_ k_=>(e_.1,e_.2.1,e_.2.2.1,e_.2.2.2.1,((Int.tmod k_ (3:Int))==0),e_.2.2.2.2.2.1,e_.2.2.2.2.2.2.1,e_.2.2.2.2.2.2.2.1,e_.2.2.2.2.2.2.2.2.1,e_.2.2.2.2.2.2.2.2.2.1,e_.2.2.2.2.2.2.2.2.2.2.1,e_.2.2.2.2.2.2.2.2.2.2.2.1,e_.2.2.2.2.2.2.2.2.2.2.2.2.1,e_.2.2.2.2.2.2.2.2.2.2.2.2.2)) z3
 let z7:=f7 Qy (0+(Int.toNat i)) (λe_=>e_.2.2.2.2.2.1) (λe_ y_=>(e_.1,e_.2.1,e_.2.2.1,e_.2.2.2.1,e_.2.2.2.2.1,y_,e_.2.2.2.2.2.2.1,e_.2.2.2.2.2.2.2.1,e_.2.2.2.2.2.2.2.2.1,e_.2.2.2.2.2.2.2.2.2.1,e_.2.2.2.2.2.2.2.2.2.2.1,e_.2.2.2.2.2.2.2.2.2.2.2.1,e_.2.2.2.2.2.2.2.2.2.2.2.2.1,e_.2.2.2.2.2.2.2.2.2.2.2.2.2)) (QT (α:=List QC)) eX
 let z1:=f7 Qy (0+(Int.toNat i)) (λe_=>e_.2.2.2.2.2.2.1) (λe_ y_=>(e_.1,e_.2.1,e_.2.2.1,e_.2.2.2.1,e_.2.2.2.2.1,e_.2.2.2.2.2.1,y_,e_.2.2.2.2.2.2.2.1,e_.2.2.2.2.2.2.2.2.1,e_.2.2.2.2.2.2.2.2.2.1,e_.2.2.2.2.2.2.2.2.2.2.1,e_.2.2.2.2.2.2.2.2.2.2.2.1,e_.2.2.2.2.2.2.2.2.2.2.2.2.1,e_.2.2.2.2.2.2.2.2.2.2.2.2.2)) (QT (α:=List (List Int))) z7
 let gy:=QT (α:=List Int)
 let z8:=f7 Qy (0+(Int.toNat i)) (λe_=>e_.2.2.2.2.2.2.2.1) (λe_ y_=>(e_.1,e_.2.1,e_.2.2.1,e_.2.2.2.1,e_.2.2.2.2.1,e_.2.2.2.2.2.1,e_.2.2.2.2.2.2.1,y_,e_.2.2.2.2.2.2.2.2.1,e_.2.2.2.2.2.2.2.2.2.1,e_.2.2.2.2.2.2.2.2.2.2.1,e_.2.2.2.2.2.2.2.2.2.2.2.1,e_.2.2.2.2.2.2.2.2.2.2.2.2.1,e_.2.2.2.2.2.2.2.2.2.2.2.2.2)) gy z1
 let z6:=f7 Qy (0+(Int.toNat i)) (λe_=>e_.2.2.2.2.2.2.2.2.1) (λe_ y_=>(e_.1,e_.2.1,e_.2.2.1,e_.2.2.2.1,e_.2.2.2.2.1,e_.2.2.2.2.2.1,e_.2.2.2.2.2.2.1,e_.2.2.2.2.2.2.2.1,y_,e_.2.2.2.2.2.2.2.2.2.1,e_.2.2.2.2.2.2.2.2.2.2.1,e_.2.2.2.2.2.2.2.2.2.2.2.1,e_.2.2.2.2.2.2.2.2.2.2.2.2.1,e_.2.2.2.2.2.2.2.2.2.2.2.2.2)) gy z8
 let z2:=f7 Qy (0+(Int.toNat i)) (λe_=>e_.2.2.2.2.2.2.2.2.2.1) (λe_ y_=>(e_.1,e_.2.1,e_.2.2.1,e_.2.2.2.1,e_.2.2.2.2.1,e_.2.2.2.2.2.1,e_.2.2.2.2.2.2.1,e_.2.2.2.2.2.2.2.1,e_.2.2.2.2.2.2.2.2.1,y_,e_.2.2.2.2.2.2.2.2.2.2.1,e_.2.2.2.2.2.2.2.2.2.2.2.1,e_.2.2.2.2.2.2.2.2.2.2.2.2.1,e_.2.2.2.2.2.2.2.2.2.2.2.2.2)) gy z6
 let z9:=f7 Qy (0+(Int.toNat i)) (λe_=>e_.2.2.2.2.2.2.2.2.2.2.1) (λe_ y_=>(e_.1,e_.2.1,e_.2.2.1,e_.2.2.2.1,e_.2.2.2.2.1,e_.2.2.2.2.2.1,e_.2.2.2.2.2.2.1,e_.2.2.2.2.2.2.2.1,e_.2.2.2.2.2.2.2.2.1,e_.2.2.2.2.2.2.2.2.2.1,y_,e_.2.2.2.2.2.2.2.2.2.2.2.1,e_.2.2.2.2.2.2.2.2.2.2.2.2.1,e_.2.2.2.2.2.2.2.2.2.2.2.2.2)) gy z2
 let z4:=f7 Qy (0+(Int.toNat i)) (λe_=>e_.2.2.2.2.2.2.2.2.2.2.2.1) (λe_ y_=>(e_.1,e_.2.1,e_.2.2.1,e_.2.2.2.1,e_.2.2.2.2.1,e_.2.2.2.2.2.1,e_.2.2.2.2.2.2.1,e_.2.2.2.2.2.2.2.1,e_.2.2.2.2.2.2.2.2.1,e_.2.2.2.2.2.2.2.2.2.1,e_.2.2.2.2.2.2.2.2.2.2.1,y_,e_.2.2.2.2.2.2.2.2.2.2.2.2.1,e_.2.2.2.2.2.2.2.2.2.2.2.2.2)) (QT (α:=List (List Int))) z9
 let gx:=gu Qy (0+(Int.toNat i)) (λe_ k_=>(e_.1,e_.2.1,e_.2.2.1,e_.2.2.2.1,e_.2.2.2.2.1,e_.2.2.2.2.2.1,e_.2.2.2.2.2.2.1,e_.2.2.2.2.2.2.2.1,e_.2.2.2.2.2.2.2.2.1,e_.2.2.2.2.2.2.2.2.2.1,e_.2.2.2.2.2.2.2.2.2.2.1,e_.2.2.2.2.2.2.2.2.2.2.2.1,k_,e_.2.2.2.2.2.2.2.2.2.2.2.2.2)) z4
 (aI (decide (i<((a.length:Nat):Int))) (((0<=i/\Int.toNat i<a.length)/\((0+(Int.toNat i))<a1.length))/\(((0<=i/\Int.toNat i<a.length)/\(((0+(Int.toNat i))<(eW.2).length)/\((0+(Int.toNat i))<(eW.2).length)))/\(((0<=i/\Int.toNat i<a.length)/\(((0+(Int.toNat i))<(z5.2).length)/\((0+(Int.toNat i))<(z5.2).length)))/\(((¬ ((3:Int):Int)=0)/\((0<=i/\Int.toNat i<a.length)/\((0+(Int.toNat i))<(dQ.2).length)))/\(((¬ ((3:Int):Int)=0)/\((0<=i/\Int.toNat i<a.length)/\((0+(Int.toNat i))<(z3.2).length)))/\(((0<=i/\Int.toNat i<a.length)/\(((0+(Int.toNat i))<(eX.2).length)/\((0+(Int.toNat i))<(eX.2).length)))/\(((0<=i/\Int.toNat i<a.length)/\(((0+(Int.toNat i))<(z7.2).length)/\((0+(Int.toNat i))<(z7.2).length)))/\(((0<=i/\Int.toNat i<a.length)/\(((0+(Int.toNat i))<(z1.2).length)/\((0+(Int.toNat i))<(z1.2).length)))/\(((0<=i/\Int.toNat i<a.length)/\(((0+(Int.toNat i))<(z8.2).length)/\((0+(Int.toNat i))<(z8.2).length)))/\(((0<=i/\Int.toNat i<a.length)/\(((0+(Int.toNat i))<(z6.2).length)/\((0+(Int.toNat i))<(z6.2).length)))/\(((0<=i/\Int.toNat i<a.length)/\(((0+(Int.toNat i))<(z2.2).length)/\((0+(Int.toNat i))<(z2.2).length)))/\(((0<=i/\Int.toNat i<a.length)/\(((0+(Int.toNat i))<(z9.2).length)/\((0+(Int.toNat i))<(z9.2).length)))/\(((0<=i/\Int.toNat i<a.length)/\((0+(Int.toNat i))<(z4.2).length))/\(((¬ ((3:Int):Int)=0)/\((0<=i/\Int.toNat i<a.length)/\((0+(Int.toNat i))<(gx.2).length)))/\(Dy K a (aG ((aG ((z4.1)+1))+1)) (aG (i+1)) ((gu Qy (0+(Int.toNat i)) (λe_ k_=>(e_.1,e_.2.1,e_.2.2.1,e_.2.2.2.1,e_.2.2.2.2.1,e_.2.2.2.2.2.1,e_.2.2.2.2.2.2.1,e_.2.2.2.2.2.2.2.1,e_.2.2.2.2.2.2.2.2.1,e_.2.2.2.2.2.2.2.2.2.1,e_.2.2.2.2.2.2.2.2.2.2.1,e_.2.2.2.2.2.2.2.2.2.2.2.1,e_.2.2.2.2.2.2.2.2.2.2.2.2.1,((Int.tmod k_ (3:Int))==0))) gx).2)))))))))))))))) (K (uT (k1,a1))))):Dy K a k1 i a1 :=
 Loop.of h
theorem QF7(a:List Qc)(k:Int):aK Tryz.prog 95 [(.ow 0 Qe dw a),(.c TI k)] (uT (QT (α:=List Qc) a k)):=by
 refine bz NL QOC Qzs 0 1 120 NK (kc QUz (kc QHI (kc QLf (kc QzV (kc yW kn))))) (λK =>
 (Dy K a k 0 a)) (λhb=>?_)
 have ff:a.length<=9223372036854775807:=hb.1.1;refine J3 (A:=λkk ii ll=>Dy (λr'=>r'=uT (QT (α:=List Qc) a k)) a kk ii ll) (Q:=λz=>uT z=uT (QT (α:=List Qc) a k)) a k ?_ ?_ rfl
 ·intro kk pre post x hl hA;have aW:pre.length<a.length:=by omega
  have hw:aG (((pre.length:Nat):Int)+1)=((pre.length+1:Nat):Int):=by rw[QF (by omega) (by omega)];omega
  refine QBr _ _ _ _ _ ?_
  conv=>zeta
  refine⟨λ_=>?_,λh=>absurd h (by simp;omega)⟩;simp only[Int.toNat_natCast,Nat.zero_add,nI,nJ,Z5,nH,hw,iJ,aW,Yk,and_true,true_and,Int.natCast_nonneg];exact hA
 ·intro kk l hl hq;refine QBr _ _ _ _ _ ?_
  conv=>zeta
  exact⟨λh=>absurd h (by simp),λ_=>hq⟩
theorem QXJ:Qf Tryz.prog NK:=Qh λx _=>QF7 x.1 x.2.1
def Z8(t:Int):aB:=b6 (aL t)
def NM:aJ:=Qg 137 [(.c (.sl Qe)),(.c TI)] λx=>(some (Q5 (α:=List Qc) x.1 x.2.1),Z8 (aR (α:=List Qc) x.1 x.2.1))
def NN:aF:=⟨[Nm,Nv,ND,Dj,sC],false⟩
def Qvu:af :=
 (ag [(ag [(.ae [ab 6 5,ab 7 0,ba 8 7,aw 9 .lss 6 8]),(.cond 9 .skip (.exit 0))]),(.block 1 (ag [(ag [(.ae [ab 12 0,ab 13 5,aZ 14 12 13 Qe,ak 15 14 0,an 16 15 1,ab 17 1,aw 18 .neq 16 17]),(.cond 18 (ag [(.ae [ab 4 (ar (-1))]),.ret]) .skip)]),(.ae [ab 19 1,aw 20 .add 19 (ar 1),ab 1 20]),(.ae [ab 21 0,ab 22 5,aZ 23 21 22 Qe,ak 24 23 1,an 25 24 1,ab 26 1,aD 27 83 [25,26],ab 1 27]),(ag [(.ae [ab 28 1,aw 29 .lss 28 (ar 0)]),(.cond 29 (ag [(.ae [ab 4 (ar (-1))]),.ret]) .skip)]),(.ae [ab 30 0,ab 31 5,aZ 32 30 31 Qe,ak 33 32 2,an 34 33 1,ab 35 1,aD 36 84 [34,35],ab 1 36]),(ag [(.ae [ab 37 1,aw 38 .lss 37 (ar 0)]),(.cond 38 (ag [(.ae [ab 4 (ar (-1))]),.ret]) .skip)]),(ag [(.ae [ab 39 0,ab 40 5,aZ 41 39 40 Qe,ak 42 41 3,an 43 42 1,ab 44 1,aw 45 .rem 44 (ar 3),aw 46 .eql 45 (ar 0),aC 47 (.ie true 43 46)]),(.cond 47 (ag [(.ae [ab 4 (ar (-1))]),.ret]) .skip)]),(.ae [ab 48 1,aw 49 .add 48 (ar 1),ab 1 49]),(ag [(.ae [ab 50 0,ab 51 5,aZ 52 50 51 Qe,ak 53 52 4,an 54 53 1,ab 55 1,aw 56 .rem 55 (ar 3),aw 57 .eql 56 (ar 0),aC 58 (.ie true 54 57)]),(.cond 58 (ag [(.ae [ab 4 (ar (-1))]),.ret]) .skip)]),(.ae [ab 59 1,aw 60 .add 59 (ar 1),ab 1 60]),(.ae [ab 61 0,ab 62 5,aZ 63 61 62 Qe,ak 64 63 5,an 65 64 1,ab 66 1,aD 67 85 [65,66],ab 1 67]),(ag [(.ae [ab 68 1,aw 69 .lss 68 (ar 0)]),(.cond 69 (ag [(.ae [ab 4 (ar (-1))]),.ret]) .skip)]),(.ae [ab 70 0,ab 71 5,aZ 72 70 71 Qe,ak 73 72 6,an 74 73 1,ab 75 1,aD 76 86 [74,75],ab 1 76]),(ag [(.ae [ab 77 1,aw 78 .lss 77 (ar 0)]),(.cond 78 (ag [(.ae [ab 4 (ar (-1))]),.ret]) .skip)]),(.ae [ab 79 0,ab 80 5,aZ 81 79 80 Qe,ak 82 81 7,an 83 82 1,ab 84 1,aD 85 27 [83,84],ab 1 85]),(ag [(.ae [ab 86 1,aw 87 .lss 86 (ar 0)]),(.cond 87 (ag [(.ae [ab 4 (ar (-1))]),.ret]) .skip)]),(.ae [ab 88 0,ab 89 5,aZ 90 88 89 Qe,ak 91 90 8,an 92 91 1,ab 93 1,aD 94 27 [92,93],ab 1 94]),(ag [(.ae [ab 95 1,aw 96 .lss 95 (ar 0)]),(.cond 96 (ag [(.ae [ab 4 (ar (-1))]),.ret]) .skip)]),(.ae [ab 97 0,ab 98 5,aZ 99 97 98 Qe,ak 100 99 9,an 101 100 1,ab 102 1,aD 103 27 [101,102],ab 1 103]),(ag [(.ae [ab 104 1,aw 105 .lss 104 (ar 0)]),(.cond 105 (ag [(.ae [ab 4 (ar (-1))]),.ret]) .skip)]),(.ae [ab 106 0,ab 107 5,aZ 108 106 107 Qe,ak 109 108 10,an 110 109 1,ab 111 1,aD 112 27 [110,111],ab 1 112]),(ag [(.ae [ab 113 1,aw 114 .lss 113 (ar 0)]),(.cond 114 (ag [(.ae [ab 4 (ar (-1))]),.ret]) .skip)]),(.ae [ab 115 0,ab 116 5,aZ 117 115 116 Qe,ak 118 117 11,ak 119 118 0,an 120 119 1,ab 121 1,aD 122 86 [120,121],ab 1 122]),(ag [(.ae [ab 123 1,aw 124 .lss 123 (ar 0)]),(.cond 124 (ag [(.ae [ab 4 (ar (-1))]),.ret]) .skip)]),(ag [(.ae [ab 125 0,ab 126 5,aZ 127 125 126 Qe,ak 128 127 11,ak 129 128 1,an 130 129 1,ab 131 1,aw 132 .neq 130 131]),(.cond 132 (ag [(.ae [ab 4 (ar (-1))]),.ret]) .skip)]),(.ae [ab 133 1,aw 134 .add 133 (ar 1),ab 1 134]),(ag [(.ae [ab 135 0,ab 136 5,aZ 137 135 136 Qe,ak 138 137 11,ak 139 138 2,an 140 139 1,ab 141 1,aw 142 .rem 141 (ar 3),aw 143 .eql 142 (ar 0),aC 144 (.ie true 140 143)]),(.cond 144 (ag [(.ae [ab 4 (ar (-1))]),.ret]) .skip)]),(.ae [ab 145 1,aw 146 .add 145 (ar 1),ab 1 146])])),(.ae [ab 10 5,aw 11 .add 10 (ar 1),ab 5 11])])
def QrL:List (Nat × Md):=eV [0,1,5]
def QDf:af :=
 (ag [(.ae [ab 147 1,ab 4 147]),.ret])
def QKD:af :=
 (ag [(.ae [ab 4 (ar 0)]),(ag [(.ae [ab 5 (ar 0)]),(.block 0 (.loop QrL Qvu))]),QDf])
def QtE:List (bn × Md):=[(.t 4,.one .d)]
def Qtq:Qb:=TQ 0 0 QtE K
def QVl:Qb:=a0 (aN NN 0 QDf (Qtq K)) (Qtq K)
def QOj:Qb:=a7 0 (QVl K)
def Dz(a:List Qc)(k1:Int)(i:Int):Prop:=Loop NN 0 QrL Qvu (QOj K) ⟨[(0,(bf Qe a)),(1,(aL k1)),(5,(aL i))],[],0⟩
theorem Qzj(a:List Qc)(k1:Int)(i:Int) (h :
 let z2:=aq Qy a (Int.toNat i)
 let z8:=aR (α:=List bt) (z2.2.1) (aG (k1+1))
 let z4:=aR (α:=List aH) (z2.2.2.1) z8
 let z5:=aR (α:=List QC) (z2.2.2.2.2.2.1) (aG ((aG (z4+1))+1))
 let z9:=aR (α:=List (List Int)) (z2.2.2.2.2.2.2.1) z5
 let z1:=aR (α:=List Int) (z2.2.2.2.2.2.2.2.1) z9
 let eX:=aR (α:=List Int) (z2.2.2.2.2.2.2.2.2.1) z1
 let z6:=aR (α:=List Int) (z2.2.2.2.2.2.2.2.2.2.1) eX
 let z3:=aR (α:=List Int) (z2.2.2.2.2.2.2.2.2.2.2.1) z6
 let z7:=aR (α:=List (List Int)) (z2.2.2.2.2.2.2.2.2.2.2.2.1) z3
 (aI (decide (i<(a.length:Int))) ((0<=i/\Int.toNat i<a.length)/\(aI ((z2.1) != k1) (K (Z8 (-1:Int))) (((0<=i/\Int.toNat i<a.length)/\(Q5 (α:=List bt) (z2.2.1) (aG (k1+1))))/\(aI (decide (z8<0)) (K (Z8 (-1:Int))) (((0<=i/\Int.toNat i<a.length)/\(Q5 (α:=List aH) (z2.2.2.1) z8))/\(aI (decide (z4<0)) (K (Z8 (-1:Int))) (((0<=i/\Int.toNat i<a.length)/\(¬ ((3:Int):Int)=0))/\(aI (!((z2.2.2.2.1)==((Int.tmod z4 (3:Int))==0))) (K (Z8 (-1:Int))) (((0<=i/\Int.toNat i<a.length)/\(¬ ((3:Int):Int)=0))/\(aI (!((z2.2.2.2.2.1)==((Int.tmod (aG (z4+1)) (3:Int))==0))) (K (Z8 (-1:Int))) (((0<=i/\Int.toNat i<a.length)/\(Q5 (α:=List QC) (z2.2.2.2.2.2.1) (aG ((aG (z4+1))+1))))/\(aI (decide (z5<0)) (K (Z8 (-1:Int))) (((0<=i/\Int.toNat i<a.length)/\(Q5 (α:=List (List Int)) (z2.2.2.2.2.2.2.1) z5))/\(aI (decide (z9<0)) (K (Z8 (-1:Int))) (((0<=i/\Int.toNat i<a.length)/\(Q5 (α:=List Int) (z2.2.2.2.2.2.2.2.1) z9))/\(aI (decide (z1<0)) (K (Z8 (-1:Int))) (((0<=i/\Int.toNat i<a.length)/\(Q5 (α:=List Int) (z2.2.2.2.2.2.2.2.2.1) z1))/\(aI (decide (eX<0)) (K (Z8 (-1:Int))) (((0<=i/\Int.toNat i<a.length)/\(Q5 (α:=List Int) (z2.2.2.2.2.2.2.2.2.2.1) eX))/\(aI (decide (z6<0)) (K (Z8 (-1:Int))) (((0<=i/\Int.toNat i<a.length)/\(Q5 (α:=List Int) (z2.2.2.2.2.2.2.2.2.2.2.1) z6))/\(aI (decide (z3<0)) (K (Z8 (-1:Int))) (((0<=i/\Int.toNat i<a.length)/\(Q5 (α:=List (List Int)) (z2.2.2.2.2.2.2.2.2.2.2.2.1) z3))/\(aI (decide (z7<0)) (K (Z8 (-1:Int))) ((0<=i/\Int.toNat i<a.length)/\(aI ((z2.2.2.2.2.2.2.2.2.2.2.2.2.1) != z7) (K (Z8 (-1:Int))) (((0<=i/\Int.toNat i<a.length)/\(¬ ((3:Int):Int)=0))/\(aI (!((z2.2.2.2.2.2.2.2.2.2.2.2.2.2)==((Int.tmod (aG (z7+1)) (3:Int))==0))) (K (Z8 (-1:Int))) (Dz K a (aG ((aG (z7+1))+1)) (aG (i+1))))))))))))))))))))))))))))))) (K (Z8 k1)))):Dz K a k1 i :=
 Loop.of h
theorem QUJ(a:List Qc)(k:Int)(hp:Q5 (α:=List Qc) a k):aK Tryz.prog 137 [(.c (.sl Qe) a),(.c TI k)] (Z8 (aR (α:=List Qc) a k)):=by
 refine bz NN QKD QtE 0 0 148 NM (kc QQA (kc QLD (kc QJR (kc QxZ (kc yX kn))))) (λK =>
 (Dz K a k 0)) (λhb=>?_)
 have ff:a.length<=9223372036854775807:=hb.1.1;refine JY (A:=λkk ii=>Dz (λr'=>r'=Z8 (aR (α:=List Qc) a k)) a kk ii) (Q:=λz=>Z8 z=Z8 (aR (α:=List Qc) a k)) a k hp ?_ ?_ rfl
 ·intro kk pre post x ha fP cm dj;have aW:pre.length<a.length:=by rw[ha];simp
  have hg:∀ d,aq d a pre.length=x:=λd=>by rw[ha];exact Z5 d pre post x
  have hw:aG (((pre.length:Nat):Int)+1)=((pre.length+1:Nat):Int):=by rw[QF (by omega) (by omega)];omega
  refine Qzj _ _ _ _ ?_
  conv=>zeta
  refine⟨λ_=>?_,λh=>absurd h (by simp;omega)⟩;simp only[Int.toNat_natCast,hg,hw,aW,Yk,and_true,true_and,Int.natCast_nonneg];have gI:=(Zd fP).1;have fL:=(Zd fP).2;have eS:=(Zd fL).1;have iK:=(Zd fL).2;have fg:=(Zd iK).1;have gh:=(Zd iK).2;have hp3:=(Zd gh).1;have wF:=(Zd gh).2;have hp4:=(Zd wF).1;have NO:=(Zd wF).2;have NP:=(Zd NO).1;have NQ:=(Zd NO).2;have NR:=(Zd NQ).1;have NS:=(Zd NQ).2;have NT:=(Zd NS).1;have NU:=(Zd NS).2;have NV:=(Zd NU).1;have NW:=(Zd NU).2;have NX:=(Zd NW).1;have NY:=(Zd NW).2;have sF:=(Zd NY).1;have sH:=(Zd NY).2;have sI:=(Zd sH).1;have sJ:=(Zd sH).2;have NZ:=(Zd sJ).1;have N0:=(Zd sJ).2;simp only[oZ,o3,o4,Prod.ext_iff]at cm dj gI fL eS iK fg gh hp3 wF hp4 NO NP NQ NR NS NT NU NV NW NX NY sF sH sI sJ NZ N0;refine⟨λh=>cm (λe=>YO h (e.1).symm),λh0=>?_⟩;have e0:=(YZ h0).symm;refine⟨eS,λh=>cm (λe=>Z7 eS (of_decide_eq_true h) (e.2.1)),λh1=>?_⟩;obtain⟨e1,h1⟩:=Z2 (of_decide_eq_false h1);rw[h1];refine⟨fg,λh=>cm (λe=>Z7 fg (of_decide_eq_true h) (e.2.2.1)),λh2=>?_⟩;obtain⟨e2,h2⟩:=Z2 (of_decide_eq_false h2);rw[h2];refine⟨λh=>cm (λe=>YO h (e.2.2.2.1).symm),λh3=>?_⟩;have e3:=(YZ h3).symm;refine⟨λh=>cm (λe=>YO h (e.2.2.2.2.1).symm),λh4=>?_⟩;have e4:=(YZ h4).symm;refine⟨NP,λh=>cm (λe=>Z7 NP (of_decide_eq_true h) (e.2.2.2.2.2.1)),λh5=>?_⟩;obtain⟨e5,h5⟩:=Z2 (of_decide_eq_false h5);rw[h5];refine⟨NR,λh=>cm (λe=>Z7 NR (of_decide_eq_true h) (e.2.2.2.2.2.2.1)),λh6=>?_⟩;obtain⟨e6,h6⟩:=Z2 (of_decide_eq_false h6);rw[h6];refine⟨NT,λh=>cm (λe=>Z7 NT (of_decide_eq_true h) (e.2.2.2.2.2.2.2.1)),λh7=>?_⟩;obtain⟨e7,h7⟩:=Z2 (of_decide_eq_false h7);rw[h7];refine⟨NV,λh=>cm (λe=>Z7 NV (of_decide_eq_true h) (e.2.2.2.2.2.2.2.2.1)),λh8=>?_⟩;obtain⟨e8,h8⟩:=Z2 (of_decide_eq_false h8);rw[h8];refine⟨NX,λh=>cm (λe=>Z7 NX (of_decide_eq_true h) (e.2.2.2.2.2.2.2.2.2.1)),λh9=>?_⟩;obtain⟨e9,h9⟩:=Z2 (of_decide_eq_false h9);rw[h9];refine⟨sF,λh=>cm (λe=>Z7 sF (of_decide_eq_true h) (e.2.2.2.2.2.2.2.2.2.2.1)),λnh=>?_⟩;obtain⟨e10,nh⟩:=Z2 (of_decide_eq_false nh);rw[nh];refine⟨sI,λh=>cm (λe=>Z7 sI (of_decide_eq_true h) (e.2.2.2.2.2.2.2.2.2.2.2.1)),λxy=>?_⟩;obtain⟨e11,xy⟩:=Z2 (of_decide_eq_false xy);rw[xy];refine⟨λh=>cm (λe=>YO h (e.2.2.2.2.2.2.2.2.2.2.2.2.1).symm),λh12=>?_⟩;have e12:=(YZ h12).symm;refine⟨λh=>cm (λe=>YO h (e.2.2.2.2.2.2.2.2.2.2.2.2.2).symm),λh13=>?_⟩;have e13:=(YZ h13).symm;exact dj ⟨e0,e1,e2,e3,e4,e5,e6,e7,e8,e9,e10,e11,e12,e13⟩
 ·intro kk hq;refine Qzj _ _ _ _ ?_
  conv=>zeta
  exact⟨λh=>absurd h (by simp),λ_=>hq⟩
theorem QRW:Qf Tryz.prog NM:=Qh λx h=>QUJ x.1 x.2.1 h
def N1(t:Int × Qm):aB:=⟨(aL t.1),[],[],true,[(.sl 0 QG (.dp 0 false []) t.2.1),(.sl 0 Qe (.dp 0 false []) t.2.2.1),(.sl 0 Qj (.dp 0 false []) t.2.2.2.1),(.sl 0 Qj (.dp 0 false []) t.2.2.2.2)]⟩
def N2:aJ:=Qg 25 [(.s QR),(.c TI)] λx=>(none,N1 (ZT (α:=Qm) x.1 x.2.1))
def QFU:aF:=⟨[Nx,NK,NG],true⟩
def QPM:af :=
 (ag [(.ae [aC 2 (.box 56 0 4),ab 4 (ar 0)]),(.ae [ak 5 2 0,an 6 5 1,ab 7 1,aD 8 42 [6,7],ab 1 8]),(.ae [ak 9 2 1,an 10 9 1,ab 11 1,aD 12 95 [10,11],ab 1 12]),(.ae [ak 13 2 2,an 14 13 1,ab 15 1,aD 16 96 [14,15],ab 1 16]),(.ae [ak 17 2 3,an 18 17 1,ab 19 1,aD 20 96 [18,19],ab 1 20]),(.ae [ab 21 1,ab 4 21]),.ret])
def QJ8:List (bn × Md):=[(.t 4,.one .d)]
theorem QOH(a:Qm)(k:Int):aK Tryz.prog 25 [(.a [(.ow 0 QG dw a.1),(.ow 0 Qe dw a.2.1),(.ow 0 Qj dw a.2.2.1),(.ow 0 Qj dw a.2.2.2)]),(.c TI k)] (N1 (ZT (α:=Qm) a k)):=by
 refine bz QFU QPM QJ8 0 4 22 N2 (kc QGz (kc QXJ (kc QRC kn))) (λK =>
 (((a.1).length=(a.1).length)/\(((a.2.1).length=(a.2.1).length)/\(((a.2.2.1).length=(a.2.2.1).length)/\(((a.2.2.2).length=(a.2.2.2).length)/\K (N1 ((QT (α:=List Qd) a.2.2.2 ((QT (α:=List Qd) a.2.2.1 ((QT (α:=List Qc) a.2.1 ((QT (α:=List Qo) a.1 k).1)).1)).1)).1,((QT (α:=List Qo) a.1 k).2,(QT (α:=List Qc) a.2.1 ((QT (α:=List Qo) a.1 k).1)).2,(QT (α:=List Qd) a.2.2.1 ((QT (α:=List Qc) a.2.1 ((QT (α:=List Qo) a.1 k).1)).1)).2,(QT (α:=List Qd) a.2.2.2 ((QT (α:=List Qd) a.2.2.1 ((QT (α:=List Qc) a.2.1 ((QT (α:=List Qo) a.1 k).1)).1)).1)).2)))))))) (λhb=>?_)
 have sK:(a.1).length<=9223372036854775807:=hb.1.1.1;have sL:(a.2.1).length<=9223372036854775807:=hb.1.2.1.1;have sM:(a.2.2.1).length<=9223372036854775807:=hb.1.2.2.1.1;have sN:(a.2.2.2).length<=9223372036854775807:=hb.1.2.2.2.1.1;repeat' apply And.intro
 all_goals first | rfl | exact au rfl
theorem QKF:Qf Tryz.prog N2:=Qh λx _=>QOH x.1 x.2.1
def sO(t:Int):aB:=b6 (aL t)
def N3:aJ:=Qg 43 [(.a QR),(.c TI)] λx=>(some (Ji (α:=Qm) x.1 x.2.1),sO (ef (α:=Qm) x.1 x.2.1))
def QQa:aF:=⟨[Nz,NM,NI],false⟩
def QIu:af :=
 (ag [(.ae [aC 2 (.box 56 0 4),ab 4 (ar 0)]),(.ae [ak 5 2 0,an 6 5 1,ab 7 1,aD 8 136 [6,7],ab 1 8]),(ag [(.ae [ab 9 1,aw 10 .lss 9 (ar 0)]),(.cond 10 (ag [(.ae [ab 4 (ar (-1))]),.ret]) .skip)]),(.ae [ak 11 2 1,an 12 11 1,ab 13 1,aD 14 137 [12,13],ab 1 14]),(ag [(.ae [ab 15 1,aw 16 .lss 15 (ar 0)]),(.cond 16 (ag [(.ae [ab 4 (ar (-1))]),.ret]) .skip)]),(.ae [ak 17 2 2,an 18 17 1,ab 19 1,aD 20 138 [18,19],ab 1 20]),(ag [(.ae [ab 21 1,aw 22 .lss 21 (ar 0)]),(.cond 22 (ag [(.ae [ab 4 (ar (-1))]),.ret]) .skip)]),(.ae [ak 23 2 3,an 24 23 1,ab 25 1,aD 26 138 [24,25],ab 1 26]),(ag [(.ae [ab 27 1,aw 28 .lss 27 (ar 0)]),(.cond 28 (ag [(.ae [ab 4 (ar (-1))]),.ret]) .skip)]),(.ae [ab 29 1,ab 4 29]),.ret])
def QS2:List (bn × Md):=[(.t 4,.one .d)]
theorem QOa(a:Qm)(k:Int)(hp:Ji (α:=Qm) a k):aK Tryz.prog 43 [(.a (aT.cells QR a)),(.c TI k)] (sO (ef (α:=Qm) a k)):=by
 refine bz QQa QIu QS2 0 0 30 N3 (kc QIx (kc QRW (kc QK1 kn))) (λK =>
 let z3:=aR (α:=List Qo) a.1 k
 let z1:=aR (α:=List Qc) a.2.1 z3
 let z2:=aR (α:=List Qd) a.2.2.1 z1
 ((Q5 (α:=List Qo) a.1 k)/\(aI (decide (z3<0)) (K (sO (-1:Int))) ((Q5 (α:=List Qc) a.2.1 z3)/\(aI (decide (z1<0)) (K (sO (-1:Int))) ((Q5 (α:=List Qd) a.2.2.1 z1)/\(aI (decide (z2<0)) (K (sO (-1:Int))) ((Q5 (α:=List Qd) a.2.2.2 z2)/\(aI (decide ((aR (α:=List Qd) a.2.2.2 z2)<0)) (K (sO (-1:Int))) (K (sO (aR (α:=List Qd) a.2.2.2 z2)))))))))))) (λhb=>?_)
 have sK:(a.1).length<=9223372036854775807:=hb.1.1.1;have sL:(a.2.1).length<=9223372036854775807:=hb.1.2.1.1;have sM:(a.2.2.1).length<=9223372036854775807:=hb.1.2.2.1.1;have sN:(a.2.2.2).length<=9223372036854775807:=hb.1.2.2.2.1.1
 conv=>zeta
 have gI:=(tK hp).1;have fL:=(tK hp).2;have eS:=(tK fL).1;have iK:=(tK fL).2;have fg:=(tK iK).1;have gh:=(tK iK).2;simp only[QRJ,QQ8,QJg,QJ0]at gI fL eS iK fg gh;refine⟨(o5 gI),λh=>au (Az (λe=>Z7 (o5 gI) (of_decide_eq_true h) (congrArg (λz=>z.1) e))).symm,λg0=>?_⟩;obtain⟨e0,h0⟩:=Z2 (of_decide_eq_false g0);rw[h0];refine⟨(o5 eS),λh=>au (Az (λe=>Z7 (o5 eS) (of_decide_eq_true h) (congrArg (λz=>z.2.1) e))).symm,λg1=>?_⟩;obtain⟨e1,h1⟩:=Z2 (of_decide_eq_false g1);rw[h1];refine⟨(o5 fg),λh=>au (Az (λe=>Z7 (o5 fg) (of_decide_eq_true h) (congrArg (λz=>z.2.2.1) e))).symm,λg2=>?_⟩;obtain⟨e2,h2⟩:=Z2 (of_decide_eq_false g2);rw[h2];refine⟨(o5 gh),λh=>au (Az (λe=>Z7 (o5 gh) (of_decide_eq_true h) (congrArg (λz=>z.2.2.2) e))).symm,λg3=>?_⟩;obtain⟨e3,h3⟩:=Z2 (of_decide_eq_false g3);rw[h3];exact au (Tk (x:=a) (k:=k) (Prod.ext e0 (Prod.ext e1 (Prod.ext e2 e3)))).symm
theorem QMW:Qf Tryz.prog N3:=Qh λx h=>QOa x.1 x.2.1 h
end
end Go.Proofs.YtdplaepmjogjjaaGreat.Am

namespace Go.Proofs.YtdplaepmjogjjaaGreat.Am
open Go Go.RowKit Go.Proofs.YtdplaepmjogjjaaGreat
set_option linter.all false
set_option maxHeartbeats 2000000
noncomputable section
variable (K:aB->Prop)
def Jo(t:Bool):aB:=b6 (bE t)
def QGi:aJ:=Qg 9 [(.a QR),(.c TI)] λx=>(none,Jo (F5 x.1 x.2.1))
def QUc:aF:=⟨[Ik,Im,Nd,Nc,Ip,N2,N3],false⟩
def QWL:af :=
 (ag [(.ae [aC 2 (.box 49 0 4),ab 4 (a6 false)]),(.ae [ab 5 (ar 1048576)]),(.ae [a9 13 2 4,ab 14 5,aD 15 19 [13,14],ab 5 15]),(ag [(.ae [ab 16 5,aw 17 .lss 16 (ar 0)]),(.cond 17 (ag [(.ae [ab 4 (a6 true)]),.ret]) .skip)]),(.ae [a9 18 2 4,aD 19 21 [18],ab 20 1,aD 21 49 [19,20],aC 6 (.new 56 (bG QR)),aV 6 21 4]),(.ae [a9 22 2 4,aD 23 21 [22],aC 7 (.new 56 (bG QR)),aV 7 23 4]),(.ae [a9 24 7 4,ab 25 1,aD 26 50 [24,25],aC 8 (.new 56 (bG QR)),aV 8 26 4]),(ag [(.ae [a9 27 8 4,a9 28 6 4,aD 29 24 [27,28],bL 30 29]),(.cond 30 (ag [(.ae [ab 4 (a6 false)]),.ret]) .skip)]),(ag [(.draw [a9 31 7 4,a9 32 2 4,aD 33 21 [32],aD 34 24 [31,33],bL 35 34] [(0,2)]),(.cond 35 (ag [(.ae [ab 4 (a6 false)]),.ret]) .skip)]),(.ae [ab 9 (ar 1)]),(.ae [a9 36 7 4,ab 37 9,aD 38 25 [36,37],ab 9 38]),(ag [(.ae [ab 39 9,aw 40 .lss 39 (ar 0),ab 41 40,.bw 41 false [a9 42 8 4,a9 43 6 4,aD 44 24 [42,43],bL 45 44] 46 45]),(.cond 46 (ag [(.ae [ab 4 (a6 false)]),.ret]) .skip)]),(.ae [ab 10 (ar 1)]),(.ae [a9 47 8 4,ab 48 10,aD 49 25 [47,48],ab 10 49]),(.ae [ab 11 (ar 1)]),(.ae [a9 50 8 4,ab 51 11,aD 52 43 [50,51],ab 11 52]),(ag [(.ae [ab 53 11,aw 54 .lss 53 (ar 0)]),(.cond 54 (ag [(.ae [ab 4 (a6 false)]),.ret]) .skip)]),(ag [(.ae [ab 55 11,ab 56 10,aw 57 .neq 55 56]),(.cond 57 (ag [(.ae [ab 4 (a6 false)]),.ret]) .skip)]),(.ae [a9 58 2 4,aD 59 21 [58],ab 60 1,aD 61 50 [59,60],aC 12 (.new 56 (bG QR)),aV 12 61 4]),(ag [(.ae [a9 62 12 4,a9 63 6 4,aD 64 24 [62,63],bL 65 64]),(.cond 65 (ag [(.ae [ab 4 (a6 false)]),.ret]) .skip)]),(.ae [ab 11 (ar 1)]),(.ae [a9 66 8 4,ab 67 11,aD 68 43 [66,67],ab 11 68]),(ag [(.ae [ab 69 11,aw 70 .lss 69 (ar 0)]),(.cond 70 (ag [(.ae [ab 4 (a6 false)]),.ret]) .skip)]),(ag [(.ae [ab 71 11,ab 72 10,aw 73 .neq 71 72]),(.cond 73 (ag [(.ae [ab 4 (a6 false)]),.ret]) .skip)]),(.ae [ab 4 (a6 true)]),.ret])
def QMY:List (bn × Md):=[(.t 4,.one .d)]
theorem gz(aP:Qm)(aS:Int):aK Tryz.prog 9 [(.a (aT.cells QR aP)),(.c TI aS)] (Jo (F5 aP aS)):=by
 refine bz QUc QWL QMY 0 0 74 QGi (kc QSy (kc QS4 (kc QP2 (kc QXS (kc QMu (kc QKF (kc QMW kn))))))) (λK =>
 let z3:=id (α:=Qm) aP
 let z8:=List.take ((z3.2.2.1).length) (List.drop 0 (z3.2.2.1))
 let z9:=List.take ((z3.2.2.2).length) (List.drop 0 (z3.2.2.2))
 let eX:=List.take ((z3.2.1).length) (List.drop 0 (z3.2.1))
 let eW:=List.take ((z3.1).length) (List.drop 0 (z3.1))
 let z1:=ZA (eW,eX,z8,z9) aS
 let z5:=sr (eW,eX,z8,z9) aS
 let z6:=ZT (α:=Qm) z1 (1:Int)
 let dQ:=bB (α:=Qm) aP
 let gx:=List.take ((z1.2.2.1).length) (List.drop 0 ((z6.2).2.2.1))
 let gy:=List.take ((z1.2.2.2).length) (List.drop 0 ((z6.2).2.2.2))
 let gV:=List.take ((z1.2.1).length) (List.drop 0 ((z6.2).2.1))
 let gW:=List.take ((z1.2.2.1).length) (List.drop 0 (z1.2.2.1))
 let kS:=List.take ((z1.1).length) (List.drop 0 ((z6.2).1))
 let z2:=ef (α:=Qm) (kS,gV,gx,gy) (1:Int)
 let z7:=Ji (α:=Qm) (kS,gV,gx,gy) (1:Int)
 let kT:=List.take ((z1.2.1).length) (List.drop 0 (z1.2.1))
 let z4:=aY (α:=Qm) ((List.take ((z1.1).length) (List.drop 0 (z1.1))),kT,gW,(List.take ((z1.2.2.2).length) (List.drop 0 (z1.2.2.2)))) (z1.1,kT,gW,z1.2.2.2)
 ((bJ (α:=Qm) aP (1048576:Int))/\(aI (decide ((bg (α:=Qm) aP (1048576:Int))<(0:Int))) (K (Jo true)) ((dQ/\z5)/\(dQ/\(z5/\(aI (!z4) (K (Jo false)) (dQ/\(aI (!(aY (α:=Qm) (eW,eX,z8,z9) (eW,eX,z8,z9))) (K (Jo false)) ((((z3.1).length=(z3.1).length)/\(((z3.2.1).length=(z3.2.1).length)/\(((z3.2.2.1).length=(z3.2.2.1).length)/\((z3.2.2.2).length=(z3.2.2.2).length))))/\(aI ((decide (((ZT (α:=Qm) z3 (1:Int)).1)<(0:Int)))||(!z4)) (K (Jo false)) ((((z1.1).length=(z1.1).length)/\(((z1.2.1).length=(z1.2.1).length)/\(((z1.2.2.1).length=(z1.2.2.1).length)/\((z1.2.2.2).length=(z1.2.2.2).length))))/\(z7/\(aI (decide (z2<(0:Int))) (K (Jo false)) (aI (z2 != (z6.1)) (K (Jo false)) ((dQ/\z5)/\(aI (!z4) (K (Jo false)) (z7/\(aI (decide (z2<(0:Int))) (K (Jo false)) (aI (z2 != (z6.1)) (K (Jo false)) (K (Jo true)))))))))))))))))))))) (λhb=>?_)
 refine⟨F7,λ_=>rfl,λN4=>?_⟩;have sP:=QSO (of_decide_eq_false N4) (Int.le_refl _);have s1:Sz.sz aP<=1048576:=sP;have hl:sr aP aS:=by unfold sr;omega
 have iM:Sz.sz (ZA aP aS)<=4294967296:=by have:=QKb aP aS;omega
 have ka0:=To (x:=aP) (k:=(1:Int)) (b:=1) (c:=1048576) ⟨by omega,by omega⟩ (Tn aP) (show Sz.sz aP<=1048576 from sP) (by omega);have kn:¬ ((ZT aP (1:Int)).1<0):=by have:=ka0.2.1;omega
 have kr0:=To (x:=(ZA aP aS)) (k:=(1:Int)) (b:=1) (c:=4294967296) ⟨by omega,by omega⟩ (Tn _) iM (by omega);obtain⟨kp0,kh0⟩:=QQU kr0.1;have kn0:¬ ((ZT (ZA aP aS) (1:Int)).1<0):=by have:=kr0.2.1;omega
 have yY:List.take ((ZA aP aS).1).length ((ZT (ZA aP aS) (1:Int)).2.1)=(ZT (ZA aP aS) (1:Int)).2.1:=Ax _ _;have yZ:List.take ((ZA aP aS).2.1).length ((ZT (ZA aP aS) (1:Int)).2.2.1)=(ZT (ZA aP aS) (1:Int)).2.2.1:=Ax _ _;have y1:List.take ((ZA aP aS).2.2.1).length ((ZT (ZA aP aS) (1:Int)).2.2.2.1)=(ZT (ZA aP aS) (1:Int)).2.2.2.1:=Ax _ _;have y2:List.take ((ZA aP aS).2.2.2).length ((ZT (ZA aP aS) (1:Int)).2.2.2.2)=(ZT (ZA aP aS) (1:Int)).2.2.2.2:=Ax _ _;simp only[id_eq,List.drop_zero,List.take_length,Prod.eta];simp[aI,aY,QXi,F5,QRX,QNL,QPl,sP,kn,kp0,kh0,kn0,yY,yZ,y1,y2,hl]
end
end Go.Proofs.YtdplaepmjogjjaaGreat.Am

