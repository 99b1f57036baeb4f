/-
  Written by program: the code of functions, what it asks, and that it comes to what the models say.
-/
import Derived.Test.YtdplaepmjogjjaaGreatVFM6
namespace Go.Proofs.YtdplaepmjogjjaaGreat.Am
open Go Go.RowKit Go.Proofs.YtdplaepmjogjjaaGreat
set_option linter.all false
set_option maxHeartbeats 2000000
noncomputable section
variable (K:aJ->Prop)
def rY(t:Ql):aJ:=⟨(.a [(.r Qp 0 0 ((t.1).length)),(.r Qm 1 0 ((t.2.1).length)),(.r Qj 2 0 ((t.2.2.1).length)),(.r Qj 3 0 ((t.2.2.2).length))]),[(.sl 154 Qp (.dp 0 true []) t.1),(.sl 39 Qm (.dp 0 true []) t.2.1),(.sl 161 Qj (.dp 0 true []) t.2.2.1),(.sl 161 Qj (.dp 0 true []) t.2.2.2)],[],false,[]⟩
def Ss:aP:=Qg 38 [(.a Q5),(.c (.sl Qp))] λx=>(none,rY (Ze x.1 x.2.1))
def BN:aN:=⟨[Eb,El,wD,Al,OB,RE],true⟩
def QzX:af :=
 (ag [(ag [(.ae [ab 23 7,ab 24 6,az 25 .lss 23 24]),(.cond 25 .skip (.exit 0))]),(.block 1 (ag [(.ae [an 29 2 0,aZ 30 29 1,an 31 2 1,ar 32 31 1,ab 33 7,aL 34 128 [30,32,33],ab 28 34,bF 35 28 0,bF 36 28 1,ab 8 35,ab 9 36]),(.draw [an 37 2 2,ar 38 37 1,ab 39 6,ab 40 7,ab 41 1,bh 42 41,an 43 2 3,ar 44 43 1,ab 45 7,bn 46 44 45 [.bool],ar 47 46 1,aL 48 129 [38,39,40,42,47],ab 10 48] []),(.draw [an 49 5 1,ar 50 49 1,an 51 2 0,an 52 51 0,ar 53 52 1,ab 54 8,ab 55 9,aD 56 (.fO 53 (some 54) (some 55) aK),ab 57 10,ab 58 7,ab 59 6,az 60 .sub 59 (aw 1),az 61 .eql 58 60,an 62 2 3,ar 63 62 1,ab 64 7,bn 65 63 64 [.bool],ar 66 65 1,aL 67 130 [56,57,61,66],aD 68 (.bO 39 Qm [67]),aD 69 (.app 50 68 39 Qm),an 70 5 1,a8 70 69 1] [(0,18),(1,18),(0,19),(1,19)])])),(.ae [ab 26 7,az 27 .add 26 (aw 1),ab 7 27])])
def QwQ:List (Nat × Md):=[(1,.one .d),(2,.b (da 6)),(4,.b [.f,.f,.f,.f]),(5,.b [.f,.p 39,.p 161,.p 161]),(6,.one .d),(7,.one .d)]
def QGr:af :=
 (ag [(.ae [az 75 .lss 74 73]),(.cond 75 .skip (.exit 2)),(.block 3 (ag [(.ae [bn 76 72 74 [TI],ar 77 76 1,ab 12 77]),(.ae [an 78 5 2,ar 79 78 1,ab 80 12,aD 81 (.build (bC Qj) [(0,1,80)]),aD 82 (.bO 161 Qj [81]),aD 83 (.app 79 82 161 Qj),an 84 5 2,a8 84 83 1]),(.ae [an 85 5 3,ar 86 85 1,ab 87 12,aD 88 (.build (bC Qj) [(0,1,87)]),aD 89 (.bO 161 Qj [88]),aD 90 (.app 86 89 161 Qj),an 91 5 3,a8 91 90 1])])),(.ae [az 92 .add 74 (aw 1),ab 74 92])])
def Qx1:List (Nat × Md):=[(4,.b [.f,.f,.f,.f]),(5,.b [.f,.f,.f,.f]),(72,.one .d),(73,.one .d),(74,.one .d)]
def QHq:af :=
 (ag [(.ae [aZ 93 5 4,a8 4 93 4]),.ret])
def QzF:af :=
 (ag [(ag [(.ae [an 71 2 4,ar 72 71 1,bh 73 72,ab 74 (aw 0)]),(.block 2 (.loop Qx1 QGr))]),QHq])
def QUY:af :=
 (ag [(.ae [aD 2 (.box 79 0 6),aD 4 (.new 56 (bC QM))]),(ag [(.ae [aZ 13 2 6,ab 14 1,aL 15 125 [13,14],az 16 .neq 15 (aw 0)]),(.cond 16 (ag [(.ae [aD 17 (.build (bC QM) []),a8 4 17 4]),.ret]) .skip)]),(.ae [ab 18 1,aL 19 126 [18],aD 20 (.build (bC QM) [(0,1,19)]),aD 5 (.new 56 (bC QM)),a8 5 20 4]),(.ae [aZ 21 2 6,aL 22 127 [21],ab 6 22]),(ag [(.ae [ab 7 (aw 0)]),(.block 0 (.loop QwQ QzX))]),QzF])
def QAA:List (bw × Md):=[(.l 4 4 true,.b [.p 154,.p 39,.p 161,.p 161])]
def GQ:Qb:=TQ 0 0 QAA K
def QVG:Qb:=ba (aU BN 0 QHq (GQ K)) (GQ K)
def Q4u:Qb:=bf 2 (QVG K)
def BO(c:QC)(x:Int)(jo:List Qi)(rZ:List Qc)(p2:List Qd)(p3:List Qd):Prop:=Loop BN 0 Qx1 QGr (Q4u K) ⟨[(4,(.p 0 0 0)),(5,(.p 5 0 0)),(72,(bu [TI] c.2.2.2.2.1)),(73,(aO ((c.2.2.2.2.1).length:Int))),(74,(aO x))],[(0,(.box [(.n Qp),(.n Qm),(.n Qj),(.n Qj)])),(1,(.sl 154 Qp (.dp 0 true []) jo)),(2,(.sl 39 Qm (.dp 0 true []) rZ)),(3,(.sl 161 Qj (.dp 0 true []) p2)),(4,(.sl 161 Qj (.dp 0 true []) p3)),(5,(.box [(.r Qp 1 0 jo.length),(.r Qm 2 0 rZ.length),(.r Qj 3 0 p2.length),(.r Qj 4 0 p3.length)]))],6⟩
def QVQ:Qb:=ba (aU BN 0 QzF (GQ K)) (GQ K)
def QUa:Qb:=bf 0 (QVQ K)
def BP(c:QC)(b:List Qi)(s:Int)(p0:List Qi)(p1:List Qc):Prop:=Loop BN 0 QwQ QzX (QUa K) ⟨[(1,(bu Qp b)),(2,(.p 0 0 0)),(4,(.p 1 0 0)),(5,(.p 6 0 0)),(6,(aO (QO c))),(7,(aO s))],[(0,(.box (aV.cells Q5 c))),(1,(.box [(.n Qp),(.n Qm),(.n Qj),(.n Qj)])),(2,(.sl 154 Qp (.dp 0 true []) p0)),(3,(.sl 39 Qm (.dp 0 true []) p1)),(4,(.sl 161 Qj (.dp 0 true []) ([]:List Qd))),(5,(.sl 161 Qj (.dp 0 true []) ([]:List Qd))),(6,(.box [(.r Qp 2 0 p0.length),(.r Qm 3 0 p1.length),(.r Qj 4 0 0),(.r Qj 5 0 0)]))],7⟩
theorem QtW(c:QC)(x:Int)(jo:List Qi)(rZ:List Qc)(p2:List Qd)(p3:List Qd) (h :
 (aS (decide (x<((c.2.2.2.2.1).length:Int))) ((0<=x/\Int.toNat x<(c.2.2.2.2.1).length)/\(((p2.length=p2.length\/p2.length+1<=p2.length)/\p2.length+1<=bP)/\(((p3.length=p3.length\/p3.length+1<=p3.length)/\p3.length+1<=bP)/\(BO K c (aI (x+1)) (List.take jo.length jo) (List.take rZ.length rZ) (List.take (p2.length+1) ((List.take p2.length p2)++([((aq (0:Int) c.2.2.2.2.1 (Int.toNat x)),[])]))) (List.take (p3.length+1) ((List.take p3.length p3)++([((aq (0:Int) c.2.2.2.2.1 (Int.toNat x)),[])]))))))) (K (rY ((List.take jo.length jo),(List.take rZ.length rZ),(List.take p2.length p2),(List.take p3.length p3)))))):BO K c x jo rZ p2 p3 :=
 Loop.of h
theorem QF7(c:QC)(b:List Qi)(s:Int)(p0:List Qi)(p1:List Qc) (h :
 let z3:=QG c.1 c.2.1 s
 let z4:=aq (false:Bool) c.2.2.2.1 (Int.toNat s)
 let z2:=Z7 c.2.2.1 (QO c) s (b.length:Int) z4
 let z5:=List.take (Int.toNat (z3.2)-Int.toNat (z3.1)) (List.drop (Int.toNat (z3.1)) c.1)
 let z1:=JC z5 (List.take (z2.length) (List.drop 0 z2)) (s==(aI ((QO c)-1))) z4
 (aS (decide (s<(QO c))) ((0<=s/\Int.toNat s<(c.2.2.2.1).length)/\(((0<=z3.1/\z3.1<=z3.2/\z3.2<=((c.1).length:Int))/\((0<=s/\Int.toNat s<(c.2.2.2.1).length)/\((w9 z5 (List.take (z2.length) (List.drop 0 z2)) (s==(aI ((QO c)-1))) z4)/\((p1.length=p1.length\/p1.length+1<=p1.length)/\p1.length+1<=bP))))/\(BP K c b (aI (s+1)) (List.take p0.length p0) (List.take (p1.length+1) ((List.take p1.length p1)++([(z1.1,(List.take ((z1.2.1).length) (List.drop 0 (z1.2.1))),(List.take ((z1.2.2.1).length) (List.drop 0 (z1.2.2.1))),z1.2.2.2.1,z1.2.2.2.2.1,(List.take ((z1.2.2.2.2.2.1).length) (List.drop 0 (z1.2.2.2.2.2.1))),(List.take ((z1.2.2.2.2.2.2.1).length) (List.drop 0 (z1.2.2.2.2.2.2.1))),(List.take ((z1.2.2.2.2.2.2.2.1).length) (List.drop 0 (z1.2.2.2.2.2.2.2.1))),(List.take ((z1.2.2.2.2.2.2.2.2.1).length) (List.drop 0 (z1.2.2.2.2.2.2.2.2.1))),(List.take ((z1.2.2.2.2.2.2.2.2.2.1).length) (List.drop 0 (z1.2.2.2.2.2.2.2.2.2.1))),(List.take ((z1.2.2.2.2.2.2.2.2.2.2.1).length) (List.drop 0 (z1.2.2.2.2.2.2.2.2.2.2.1))),(List.take ((z1.2.2.2.2.2.2.2.2.2.2.2.1).length) (List.drop 0 (z1.2.2.2.2.2.2.2.2.2.2.2.1))),z1.2.2.2.2.2.2.2.2.2.2.2.2.1,z1.2.2.2.2.2.2.2.2.2.2.2.2.2)])))))) (BO K c 0 (List.take p0.length p0) (List.take p1.length p1) ([]:List Qd) ([]:List Qd)))):BP K c b s p0 p1 :=
 Loop.of h
theorem Q27(c:QC)(b:List Qi):aR Tryz.prog 38 [(.a (aV.cells Q5 c)),(.c (.sl Qp) b)] (rY (Ze c b)):=by
 refine bD BN QUY QAA 0 0 94 Ss (kc Qyf (kc QI0 (kc DY (kc Nf (kc QZ2 (kc QLC kn)))))) (λK =>
 (aS ((Zp c b) != 0) (K (rY (([]:List Qi),([]:List Qc),([]:List Qd),([]:List Qd)))) ((QA (α:=List Qi) b)/\(BP K c b 0 (List.take ((id (α:=List Qi) b).length) (id (α:=List Qi) b)) ([]:List Qc))))) (λhb=>?_)
 refine⟨λh=>au ?_,λh=>?_⟩
 ·unfold Ze;rw[if_neg (by simpa using h)]
 have h0:Zp c b=0:=by simpa using h
 have A:=Be h0;have hn:=Ge A;have hM:(Ze c b)=(b,Jz c (QO c) b.length (QO c).toNat,(JF c).map λn=>(n,[]),(JF c).map λn=>(n,[])):=by unfold Ze;rw[if_pos h0]
 have h5:=A.ak;have h6:bG c=(Zh c).length+1:=rfl;have h7:c.2.2.2.1.length=(Zh c).length+1:=A.a0;have h8:c.2.2.2.2.1.length=bG c-1:=Bl A;have Uo:=RD A.batch;have lD:=RC A.model;refine⟨by unfold QA;omega,?_⟩;have k4:∀(ss:List Qc),ss=Jz c (QO c) b.length (QO c).toNat->BO (λr'=>r'=rY (Ze c b)) c ((0:Nat):Int) b ss ([]) ([]):=by
  intro ss vR;refine Zd c.2.2.2.2.1 (λr k=>∀ v:List Qd,v.length=k->v++r.map (λn=>((n,[]):Qd))=c.2.2.2.2.1.map (λn=>((n,[]):Qd))->BO (λr'=>r'=rY (Ze c b)) c (k:Int) b ss v v) ?_ ?_ [] rfl rfl
  ·intro v hv he;refine QtW _ _ _ _ _ _ _ ⟨λh=>by simp at h,λ_=>au ?_⟩;rw[List.map_nil,List.append_nil]at he;rw[hM,<- vR];simp only[id,List.drop_zero,List.take_length,he]
  ·intro k x r hk aY hg ih v hv he;refine QtW _ _ _ _ _ _ _ ⟨λ_=>?_,λh=>by simp at h;omega⟩;rw[Int.toNat_natCast,hg,dv (by omega),Zc];simp only[List.take_length];exact⟨⟨by omega,aY⟩,(by first | exact room (by omega) | (simp[QY];omega)),(by first | exact room (by omega) | (simp[QY];omega)),ih _ (by simp;omega) (by rw[<- he];simp)⟩
 have key:BP (λr'=>r'=rY (Ze c b)) c b ((0:Nat):Int) b (Jz c (QO c) b.length 0):=by
  refine JN (bG c) (λk=>BP (λr'=>r'=rY (Ze c b)) c b (k:Int) b (Jz c (QO c) b.length k)) ?_ ?_
  ·refine QF7 _ _ _ _ _ _ ⟨λh=>by rw[hn]at h;simp at h,λ_=>?_⟩;simp only[List.take_length];exact k4 _ (by rw[hn,Int.toNat_natCast])
  ·intro k hk ih;refine QF7 _ _ _ _ _ _ ⟨λ_=>?_,λh=>by rw[hn]at h;simp at h;omega⟩;have hr:=tU c.1 c.2.1 (k:Int);have fT:=Ov c.2.2.1 (QO c) k b.length (aq false c.2.2.2.1 k);have vR:=Gj c (QO c) b.length k;have lz:=Yk (Jz c (QO c) b.length k);have e:((k:Int)==aI (QO c-1))=decide ((k:Int)=QO c-1):=by
    rw[Qy (by omega) (by omega)];rfl
   rw[e,Int.toNat_natCast,Zc,dv (by omega)];simp only[List.drop_zero,List.take_length];refine⟨⟨by omega,by omega⟩,⟨⟨hr.1,hr.2.1,hr.2.2.1⟩,⟨by omega,by omega⟩,⟨?_,by omega⟩,(by first | exact room (by omega) | (simp[QY];omega))⟩,ih⟩;refine Nat.le_trans (Nat.le_trans (zA _ _) (K3 _ _)) ?_;exact Nat.le_trans lD (by omega)
 simp only[id,List.take_length];exact key
theorem QXC:Qf Tryz.prog Ss:=Qh λx _=>Q27 x.1 x.2.1
def uY(t:Ql):aJ:=⟨(.a [(bu Qp t.1),(.r Qm 0 0 ((t.2.1).length)),(.r Qj 1 0 ((t.2.2.1).length)),(bu Qj t.2.2.2)]),[(.sl 39 Qm .ow t.2.1),(.sl 161 Qj .ow t.2.2.1)],[],true,[]⟩
def Su:aP:=Qg 35 [(.a Q5),(.c (.sl Qp))] λx=>(none,uY (Ze x.1 x.2.1))
def BQ:aN:=⟨[Ec,Ng,wB,OG,RF],false⟩
def QEZ:af :=
 (ag [(ag [(.ae [ab 19 7,ab 20 1,bh 21 20,az 22 .lss 19 21]),(.cond 22 .skip (.exit 0))]),(.block 1 (.draw [an 25 5 0,ar 26 25 1,aD 27 (.bO 3 [TI] []),ab 28 1,ab 29 7,bn 30 28 29 Qp,an 31 30 0,ar 32 31 1,aD 33 (.app 27 32 3 [TI]),aD 34 (.bO 3 [TI] []),ab 35 1,ab 36 7,bn 37 35 36 Qp,an 38 37 1,ar 39 38 1,aD 40 (.app 34 39 3 [TI]),aD 41 (.build (bC Qp) [(0,1,33),(1,1,40)]),aD 42 (.bO 154 Qp [41]),aD 43 (.app 26 42 154 Qp),an 44 5 0,a8 44 43 1] [(0,2),(1,2),(2,5),(2,6),(2,7),(0,8),(1,8),(0,9),(1,9),(2,9),(5,9),(6,9),(7,9),(8,9),(2,12),(8,12),(9,12),(2,13),(8,13),(9,13),(2,14),(8,14),(9,14),(0,15),(1,15),(0,17),(1,17)])),(.ae [ab 23 7,az 24 .add 23 (aw 1),ab 7 24])])
def QHd:List (Nat × Md):=[(1,.one .d),(2,.b (da 6)),(4,.b (da 4)),(5,.b [.o 154,.o 39,.o 161,.o 161]),(6,.one .d),(7,.one .d)]
def Qwz:af :=
 (ag [(ag [(.ae [ab 45 8,ab 46 6,az 47 .lss 45 46]),(.cond 47 .skip (.exit 2))]),(.block 3 (ag [(.ae [an 51 2 0,aZ 52 51 1,an 53 2 1,ar 54 53 1,ab 55 8,aL 56 119 [52,54,55],ab 50 56,bF 57 50 0,bF 58 50 1,ab 9 57,ab 10 58]),(.draw [an 59 5 1,ar 60 59 1,an 61 2 0,an 62 61 0,ar 63 62 1,ab 64 9,ab 65 10,aD 66 (.fO 63 (some 64) (some 65) aK),an 67 2 2,ar 68 67 1,ab 69 6,ab 70 8,ab 71 1,bh 72 71,an 73 2 3,ar 74 73 1,ab 75 8,bn 76 74 75 [.bool],ar 77 76 1,aL 78 121 [68,69,70,72,77],ab 79 8,ab 80 6,az 81 .sub 80 (aw 1),az 82 .eql 79 81,an 83 2 3,ar 84 83 1,ab 85 8,bn 86 84 85 [.bool],ar 87 86 1,aL 88 120 [66,78,82,87],aD 89 (.bO 39 Qm [88]),aD 90 (.app 60 89 39 Qm),an 91 5 1,a8 91 90 1] [(0,19),(1,19),(2,19),(3,19),(4,19),(7,19),(19,24),(19,25),(19,27),(19,28),(0,29),(1,29),(0,30),(1,30)]),(.ae [ab 92 8,az 93 .gtr 92 (aw 0)]),(.cond 93 (ag [(.draw [an 94 5 2,ar 95 94 1,an 96 2 4,ar 97 96 1,ab 98 8,az 99 .sub 98 (aw 1),bn 100 97 99 [TI],ar 101 100 1,aD 102 (.build (bC Qj) [(0,1,101)]),aD 103 (.bO 161 Qj [102]),aD 104 (.app 95 103 161 Qj),an 105 5 2,a8 105 104 1] [(0,9),(1,9)]),(.draw [an 106 5 3,ar 107 106 1,an 108 2 4,ar 109 108 1,ab 110 8,az 111 .sub 110 (aw 1),bn 112 109 111 [TI],ar 113 112 1,aD 114 (.build (bC Qj) [(0,1,113)]),aD 115 (.bO 161 Qj [114]),aD 116 (.app 107 115 161 Qj),an 117 5 3,a8 117 116 1] [(0,9),(1,9)])]) .skip)])),(.ae [ab 48 8,az 49 .add 48 (aw 1),ab 8 49])])
def QGD:List (Nat × Md):=[(1,.one .d),(2,.b (da 6)),(4,.b (da 4)),(5,.b [.f,.f,.f,.f]),(6,.one .d),(8,.one .d)]
def QI7:af :=
 (ag [(.ae [aZ 118 5 4,a8 4 118 4]),.ret])
def QIi:af :=
 (ag [(ag [(.ae [ab 8 (aw 0)]),(.block 2 (.loop QGD Qwz))]),QI7])
def Q2n:af :=
 (ag [(.ae [aD 2 (.box 79 0 6),aD 4 (.new 56 (bC QM))]),(.ae [aD 11 (.build (bC QM) []),aD 5 (.new 56 (bC QM)),a8 5 11 4]),(ag [(.ae [aZ 12 2 6,ab 13 1,aL 14 117 [12,13],az 15 .neq 14 (aw 0)]),(.cond 15 (ag [(.ae [aZ 16 5 4,a8 4 16 4]),.ret]) .skip)]),(.ae [aZ 17 2 6,aL 18 118 [17],ab 6 18]),(ag [(.ae [ab 7 (aw 0)]),(.block 0 (.loop QHd QEZ))]),QIi])
def Qxp:List (bw × Md):=[(.l 4 4 true,.b [.d,.o 39,.o 161,.d])]
def GR:Qb:=TQ 0 0 Qxp K
def QOU:Qb:=ba (aU BQ 0 QI7 (GR K)) (GR K)
def QM7:Qb:=bf 2 (QOU K)
def xp(c:QC)(b:List Qi)(s:Int)(jo:List Qi)(p1:List Qc)(p2:List Qd)(p3:List Qd):Prop:=Loop BQ 0 QGD Qwz (QM7 K) ⟨[(1,(bu Qp b)),(2,(.p 0 0 0)),(4,(.p 1 0 0)),(5,(.p 6 0 0)),(6,(aO (QO c))),(8,(aO s))],[(0,(.box (aV.cells Q5 c))),(1,(.box (aV.cells QM ([],[],[],[])))),(2,(.sl 154 Qp .ow jo)),(3,(.sl 39 Qm .ow p1)),(4,(.sl 161 Qj .ow p2)),(5,(.sl 161 Qj .ow p3)),(6,(.box [(.r Qp 2 0 jo.length),(.r Qm 3 0 p1.length),(.r Qj 4 0 p2.length),(.r Qj 5 0 p3.length)]))],7⟩
def QVR:Qb:=ba (aU BQ 0 QIi (GR K)) (GR K)
def QZf:Qb:=bf 0 (QVR K)
def GS(c:QC)(b:List Qi)(i:Int)(p0:List Qi):Prop:=Loop BQ 0 QHd QEZ (QZf K) ⟨[(1,(bu Qp b)),(2,(.p 0 0 0)),(4,(.p 1 0 0)),(5,(.p 6 0 0)),(6,(aO (QO c))),(7,(aO i))],[(0,(.box (aV.cells Q5 c))),(1,(.box (aV.cells QM ([],[],[],[])))),(2,(.sl 154 Qp .ow p0)),(3,(.sl 39 Qm .ow ([]:List Qc))),(4,(.sl 161 Qj .ow ([]:List Qd))),(5,(.sl 161 Qj .ow ([]:List Qd))),(6,(.box [(.r Qp 2 0 p0.length),(.r Qm 3 0 0),(.r Qj 4 0 0),(.r Qj 5 0 0)]))],7⟩
theorem QD7(c:QC)(b:List Qi)(s:Int)(jo:List Qi)(p1:List Qc)(p2:List Qd)(p3:List Qd) (h :
 let z3:=QG c.1 c.2.1 s
 let z4:=aq (false:Bool) c.2.2.2.1 (Int.toNat s)
 let z2:=Z7 c.2.2.1 (QO c) s (b.length:Int) z4
 let z5:=List.take (Int.toNat (z3.2)-Int.toNat (z3.1)) (List.drop (Int.toNat (z3.1)) c.1)
 let z1:=JC z5 (List.take (z2.length) (List.drop 0 z2)) (s==(aI ((QO c)-1))) z4
 let z6:=aq (0:Int) c.2.2.2.2.1 (Int.toNat (aI (s-1)))
 let z7:=List.take p1.length p1
 let z8:=List.take p2.length p2
 (aS (decide (s<(QO c))) (((0<=z3.1/\z3.1<=z3.2/\z3.2<=((c.1).length:Int))/\((0<=s/\Int.toNat s<(c.2.2.2.1).length)/\((0<=s/\Int.toNat s<(c.2.2.2.1).length)/\((w9 z5 (List.take (z2.length) (List.drop 0 z2)) (s==(aI ((QO c)-1))) z4)/\((p1.length=p1.length\/p1.length+1<=p1.length)/\p1.length+1<=bP)))))/\(aS (decide (s>0)) (((0<=aI (s-1)/\Int.toNat (aI (s-1))<(c.2.2.2.2.1).length)/\((p2.length=p2.length\/p2.length+1<=p2.length)/\p2.length+1<=bP))/\(((0<=aI (s-1)/\Int.toNat (aI (s-1))<(c.2.2.2.2.1).length)/\((p3.length=p3.length\/p3.length+1<=p3.length)/\p3.length+1<=bP))/\(xp K c b (aI (s+1)) (List.take jo.length jo) (List.take (p1.length+1) (z7++([z1]))) (List.take (p2.length+1) (z8++([(z6,[])]))) (List.take (p3.length+1) ((List.take p3.length p3)++([(z6,[])])))))) (xp K c b (aI (s+1)) (List.take jo.length jo) (List.take (p1.length+1) (z7++([z1]))) z8 (List.take p3.length p3)))) (K (uY ((List.take jo.length (List.drop 0 jo)),z7,z8,(List.take p3.length (List.drop 0 p3))))))):xp K c b s jo p1 p2 p3 :=
 Loop.of h
theorem QEu(c:QC)(b:List Qi)(i:Int)(p0:List Qi) (h :
 (aS (decide (i<(b.length:Int))) (((0<=i/\Int.toNat i<b.length)/\(((0=0\/0+((aq QP b (Int.toNat i)).1).length<=0)/\0+((aq QP b (Int.toNat i)).1).length<=bP)/\((0<=i/\Int.toNat i<b.length)/\(((0=0\/0+((aq QP b (Int.toNat i)).2).length<=0)/\0+((aq QP b (Int.toNat i)).2).length<=bP)/\((p0.length=p0.length\/p0.length+1<=p0.length)/\p0.length+1<=bP)))))/\(GS K c b (aI (i+1)) (List.take (p0.length+1) ((List.take p0.length p0)++([((List.take (0+((aq QP b (Int.toNat i)).1).length) (List.drop 0 ((aq QP b (Int.toNat i)).1))),(List.take (0+((aq QP b (Int.toNat i)).2).length) (List.drop 0 ((aq QP b (Int.toNat i)).2))))]))))) (xp K c b 0 (List.take p0.length p0) ([]:List Qc) ([]:List Qd) ([]:List Qd)))):GS K c b i p0 :=
 Loop.of h
theorem QJk(c:QC)(b:List Qi):aR Tryz.prog 35 [(.a (aV.cells Q5 c)),(.c (.sl Qp) b)] (uY (Ze c b)):=by
 refine bD BQ Q2n Qxp 0 0 119 Su (kc QGG (kc QWc (kc DV (kc QKC (kc QKH kn))))) (λK =>
 (aS ((Zp c b) != 0) (K (uY ([],([]:List Qc),([]:List Qd),[]))) (GS K c b 0 ([]:List Qi)))) (λhb=>?_)
 refine⟨λh=>au ?_,λh=>?_⟩
 ·unfold Ze;rw[if_neg (by simpa using h)]
 have h0:Zp c b=0:=by simpa using h
 have A:=Be h0;have hn:=Ge A;have hM:(Ze c b)=(b,Jz c (QO c) b.length (QO c).toNat,(JF c).map λn=>(n,[]),(JF c).map λn=>(n,[])):=by unfold Ze;rw[if_pos h0]
 have h5:=A.ak;have h6:bG c=(Zh c).length+1:=rfl;have h7:c.2.2.2.1.length=(Zh c).length+1:=A.a0;have h8:c.2.2.2.2.1.length=bG c-1:=Bl A;have Uo:=RD A.batch;have iv:=Yk b;have lD:=RC A.model;have k4:xp (λr'=>r'=uY (Ze c b)) c b ((0:Nat):Int) b (Jz c (QO c) b.length 0) ((c.2.2.2.2.1.take (0-1)).map λn=>((n,[]):Qd)) ((c.2.2.2.2.1.take (0-1)).map λn=>((n,[]):Qd)):=by
  refine JN (bG c) (λk=>xp (λr'=>r'=uY (Ze c b)) c b (k:Int) b (Jz c (QO c) b.length k) ((c.2.2.2.2.1.take (k-1)).map λn=>((n,[]):Qd)) ((c.2.2.2.2.1.take (k-1)).map λn=>((n,[]):Qd))) ?_ ?_
  ·refine QD7 _ _ _ _ _ _ _ _ ⟨λh=>by rw[hn]at h;simp at h,λ_=>au ?_⟩;simp only[List.drop_zero,List.take_length];rw[hM,List.take_of_length_le (by omega),hn,Int.toNat_natCast]
  ·intro k hk ih;refine QD7 _ _ _ _ _ _ _ _ ⟨λ_=>?_,λh=>by rw[hn]at h;simp at h;omega⟩;have hr:=tU c.1 c.2.1 (k:Int);have fT:=Ov c.2.2.1 (QO c) k b.length (aq false c.2.2.2.1 k);have vR:=Gj c (QO c) b.length k;have lz:=Yk (Jz c (QO c) b.length k);have TZ:((c.2.2.2.2.1.take (k-1)).map λn=>((n,[]):Qd)).length<=4:=by simp;omega
   have e:((k:Int)==aI (QO c-1))=decide ((k:Int)=QO c-1):=by
    rw[Qy (by omega) (by omega)];rfl
   rw[e,Int.toNat_natCast,Zc,dv (by omega)];simp only[List.drop_zero,List.take_length];refine⟨⟨⟨hr.1,hr.2.1,hr.2.2.1⟩,⟨by omega,by omega⟩,⟨by omega,by omega⟩,⟨?_,by omega⟩,(by first | exact room (by omega) | (simp[QY];omega))⟩,λl7=>?_,λl7=>?_⟩
   ·refine Nat.le_trans (Nat.le_trans (zA _ _) (K3 _ _)) ?_;exact Nat.le_trans lD (by omega)
   ·simp at l7;have e2:aI ((k:Int)-1)=((k-1:Nat):Int):=by rw[Qy (by omega) (by omega)];omega
    have e3:(c.2.2.2.2.1.take (k+1-1)).map (λn=>((n,[]):Qd))=(c.2.2.2.2.1.take (k-1)).map (λn=>((n,[]):Qd))++[(aq 0 c.2.2.2.2.1 (k-1),[])]:=by
     rw[show k+1-1=(k-1)+1 by omega,List.take_add_one,Y4 (show k-1<c.2.2.2.2.1.length by omega) 0];simp
    rw[e3]at ih;rw[e2,Int.toNat_natCast];refine⟨⟨⟨by omega,by omega⟩,by simp[QY];omega⟩,⟨⟨by omega,by omega⟩,by simp[QY];omega⟩,?_⟩;have e4:∀ x:Qd,List.take (((c.2.2.2.2.1.take (k-1)).map λn=>((n,[]):Qd)).length+1) (((c.2.2.2.2.1.take (k-1)).map λn=>((n,[]):Qd))++[x])=((c.2.2.2.2.1.take (k-1)).map λn=>((n,[]):Qd))++[x]:=λx=>List.take_of_length_le (by simp);rw[e4];exact ih
   ·have:k=0:=by simpa using l7
    subst this;exact ih
 refine Zd b (λr k=>∀ v:List Qi,v.length=k->v++r=b->GS (λr'=>r'=uY (Ze c b)) c b (k:Int) v) ?_ ?_ [] rfl rfl
 ·intro v hv he;rw[List.append_nil]at he;refine QEu _ _ _ _ _ ⟨λh=>by simp at h,λ_=>?_⟩;rw[List.take_length,he];exact k4
 ·intro k x r hk aY hg ih v hv he;have hx:=vU hk;simp only[Q9]at hx;have h1:=ZR x.1;have h2:=ZR x.2;refine QEu _ _ _ _ _ ⟨λ_=>?_,λh=>by simp at h;omega⟩;rw[Int.toNat_natCast,hg,dv (by omega),Zc,ru,ru];exact⟨⟨⟨by omega,aY⟩,⟨.inl rfl,by rw[QY];omega⟩,⟨by omega,aY⟩,⟨.inl rfl,by rw[QY];omega⟩,(by first | exact room (by omega) | (simp[QY];omega))⟩,ih _ (by simp;omega) (by rw[<- he];simp)⟩
theorem Q0D:Qf Tryz.prog Su:=Qh λx _=>QJk x.1 x.2.1
def oW(t:Ql):aJ:=⟨(.a [(.r Qp 0 0 ((t.1).length)),(.r Qm 1 0 ((t.2.1).length)),(.r Qj 2 0 ((t.2.2.1).length)),(.r Qj 3 0 ((t.2.2.2).length))]),[(.sl 154 Qp (.dp 0 true []) t.1),(.sl 39 Qm (.dp 0 true []) t.2.1),(.sl 161 Qj (.dp 0 true []) t.2.2.1),(.sl 161 Qj (.dp 0 true []) t.2.2.2)],[],false,[]⟩
def Sv:aP:=Qg 147 [(.a QM)] λx=>(some (QA (α:=Ql) x.1),oW (id (α:=Ql) x.1))
def uZ:aN:=⟨[El,xf,BA],true⟩
def QD4:af :=
 (ag [(.ae [az 18 .lss 17 16]),(.cond 18 .skip (.exit 0)),(.block 1 (ag [(.ae [bn 19 15 17 Qm,aZ 20 19 14,aD 5 (.new 39 (bC Qm)),a8 5 20 14]),(.draw [an 21 3 1,ar 22 21 1,aZ 23 5 14,aL 24 70 [23],aD 25 (.bO 39 Qm [24]),aD 26 (.app 22 25 39 Qm),an 27 3 1,a8 27 26 1] [(0,3),(1,3),(0,4),(1,4)])])),(.ae [az 28 .add 17 (aw 1),ab 17 28])])
def QzC:List (Nat × Md):=[(1,.b (da 4)),(2,.b [.f,.f,.f,.f]),(3,.b [.f,.p 39,.p 161,.p 161]),(15,.one .d),(16,.one .d),(17,.one .d)]
def QHZ:af :=
 (ag [(.ae [az 33 .lss 32 31]),(.cond 33 .skip (.exit 2)),(.block 3 (ag [(.ae [bn 34 30 32 Qj,aZ 35 34 2,aD 7 (.new 161 (bC Qj)),a8 7 35 2]),(.draw [an 36 3 2,ar 37 36 1,aZ 38 7 2,aL 39 219 [38],aD 40 (.bO 161 Qj [39]),aD 41 (.app 37 40 161 Qj),an 42 3 2,a8 42 41 1] [(0,3),(1,3),(0,4),(1,4)])])),(.ae [az 43 .add 32 (aw 1),ab 32 43])])
def QIF:List (Nat × Md):=[(1,.b (da 4)),(2,.b [.f,.f,.f,.f]),(3,.b [.f,.f,.f,.f]),(30,.one .d),(31,.one .d),(32,.one .d)]
def Qt3:af :=
 (ag [(.ae [az 48 .lss 47 46]),(.cond 48 .skip (.exit 4)),(.block 5 (ag [(.ae [bn 49 45 47 Qj,aZ 50 49 2,aD 9 (.new 161 (bC Qj)),a8 9 50 2]),(.draw [an 51 3 3,ar 52 51 1,aZ 53 9 2,aL 54 219 [53],aD 55 (.bO 161 Qj [54]),aD 56 (.app 52 55 161 Qj),an 57 3 3,a8 57 56 1] [(0,3),(1,3),(0,4),(1,4)])])),(.ae [az 58 .add 47 (aw 1),ab 47 58])])
def QyO:List (Nat × Md):=[(2,.b [.f,.f,.f,.f]),(3,.b [.f,.f,.f,.f]),(45,.one .d),(46,.one .d),(47,.one .d)]
def QvX:af :=
 (ag [(.ae [aZ 59 3 4,a8 2 59 4]),.ret])
def QtJ:af :=
 (ag [(ag [(.ae [an 44 1 3,ar 45 44 1,bh 46 45,ab 47 (aw 0)]),(.block 4 (.loop QyO Qt3))]),QvX])
def QBu:af :=
 (ag [(ag [(.ae [an 29 1 2,ar 30 29 1,bh 31 30,ab 32 (aw 0)]),(.block 2 (.loop QIF QHZ))]),QtJ])
def QLy:af :=
 (ag [(.ae [aD 1 (.box 56 0 4),aD 2 (.new 56 (bC QM))]),(.ae [an 10 1 0,ar 11 10 1,aL 12 126 [11],aD 13 (.build (bC QM) [(0,1,12)]),aD 3 (.new 56 (bC QM)),a8 3 13 4]),(ag [(.ae [an 14 1 1,ar 15 14 1,bh 16 15,ab 17 (aw 0)]),(.block 0 (.loop QzC QD4))]),QBu])
def QIK:List (bw × Md):=[(.l 2 4 true,.b [.p 154,.p 39,.p 161,.p 161])]
def xq:Qb:=TQ 0 0 QIK K
def QRM:Qb:=ba (aU uZ 0 QvX (xq K)) (xq K)
def QYT:Qb:=bf 4 (QRM K)
def BS(p:Ql)(x2:Int)(r0:List Qi)(r8:List Qc)(r9:List Qd)(q3:List Qd):Prop:=Loop uZ 0 QyO Qt3 (QYT K) ⟨[(2,(.p 0 0 0)),(3,(.p 5 0 0)),(45,(bu Qj p.2.2.2)),(46,(aO ((p.2.2.2).length:Int))),(47,(aO x2))],[(0,(.box [(.n Qp),(.n Qm),(.n Qj),(.n Qj)])),(1,(.sl 154 Qp (.dp 0 true []) r0)),(2,(.sl 39 Qm (.dp 0 true []) r8)),(3,(.sl 161 Qj (.dp 0 true []) r9)),(4,(.sl 161 Qj (.dp 0 true []) q3)),(5,(.box [(.r Qp 1 0 r0.length),(.r Qm 2 0 r8.length),(.r Qj 3 0 r9.length),(.r Qj 4 0 q3.length)]))],6⟩
def QUI:Qb:=ba (aU uZ 0 QtJ (xq K)) (xq K)
def QLc:Qb:=bf 2 (QUI K)
def BT(p:Ql)(x1:Int)(sa:List Qi)(sb:List Qc)(q2:List Qd):Prop:=Loop uZ 0 QIF QHZ (QLc K) ⟨[(1,(.p 0 0 0)),(2,(.p 1 0 0)),(3,(.p 6 0 0)),(30,(bu Qj p.2.2.1)),(31,(aO ((p.2.2.1).length:Int))),(32,(aO x1))],[(0,(.box (aV.cells QM p))),(1,(.box [(.n Qp),(.n Qm),(.n Qj),(.n Qj)])),(2,(.sl 154 Qp (.dp 0 true []) sa)),(3,(.sl 39 Qm (.dp 0 true []) sb)),(4,(.sl 161 Qj (.dp 0 true []) q2)),(5,(.sl 161 Qj (.dp 0 true []) ([]:List Qd))),(6,(.box [(.r Qp 2 0 sa.length),(.r Qm 3 0 sb.length),(.r Qj 4 0 q2.length),(.r Qj 5 0 0)]))],7⟩
def QUy:Qb:=ba (aU uZ 0 QBu (xq K)) (xq K)
def QXZ:Qb:=bf 0 (QUy K)
def GU(p:Ql)(x:Int)(q0:List Qi)(q1:List Qc):Prop:=Loop uZ 0 QzC QD4 (QXZ K) ⟨[(1,(.p 0 0 0)),(2,(.p 1 0 0)),(3,(.p 6 0 0)),(15,(bu Qm p.2.1)),(16,(aO ((p.2.1).length:Int))),(17,(aO x))],[(0,(.box (aV.cells QM p))),(1,(.box [(.n Qp),(.n Qm),(.n Qj),(.n Qj)])),(2,(.sl 154 Qp (.dp 0 true []) q0)),(3,(.sl 39 Qm (.dp 0 true []) q1)),(4,(.sl 161 Qj (.dp 0 true []) ([]:List Qd))),(5,(.sl 161 Qj (.dp 0 true []) ([]:List Qd))),(6,(.box [(.r Qp 2 0 q0.length),(.r Qm 3 0 q1.length),(.r Qj 4 0 0),(.r Qj 5 0 0)]))],7⟩
theorem Qxs(p:Ql)(x2:Int)(r0:List Qi)(r8:List Qc)(r9:List Qd)(q3:List Qd) (h :
 (aS (decide (x2<((p.2.2.2).length:Int))) ((0<=x2/\Int.toNat x2<(p.2.2.2).length)/\(((QA (α:=Qd) (aq QI p.2.2.2 (Int.toNat x2)))/\((q3.length=q3.length\/q3.length+1<=q3.length)/\q3.length+1<=bP))/\(BS K p (aI (x2+1)) (List.take r0.length r0) (List.take r8.length r8) (List.take r9.length r9) (List.take (q3.length+1) ((List.take q3.length q3)++([((id (α:=Qd) (aq QI p.2.2.2 (Int.toNat x2))).1,(List.take (((id (α:=Qd) (aq QI p.2.2.2 (Int.toNat x2))).2).length) (List.drop 0 ((id (α:=Qd) (aq QI p.2.2.2 (Int.toNat x2))).2))))])))))) (K (oW ((List.take r0.length r0),(List.take r8.length r8),(List.take r9.length r9),(List.take q3.length q3)))))):BS K p x2 r0 r8 r9 q3 :=
 Loop.of h
theorem QuM(p:Ql)(x1:Int)(sa:List Qi)(sb:List Qc)(q2:List Qd) (h :
 (aS (decide (x1<((p.2.2.1).length:Int))) ((0<=x1/\Int.toNat x1<(p.2.2.1).length)/\(((QA (α:=Qd) (aq QI p.2.2.1 (Int.toNat x1)))/\((q2.length=q2.length\/q2.length+1<=q2.length)/\q2.length+1<=bP))/\(BT K p (aI (x1+1)) (List.take sa.length sa) (List.take sb.length sb) (List.take (q2.length+1) ((List.take q2.length q2)++([((id (α:=Qd) (aq QI p.2.2.1 (Int.toNat x1))).1,(List.take (((id (α:=Qd) (aq QI p.2.2.1 (Int.toNat x1))).2).length) (List.drop 0 ((id (α:=Qd) (aq QI p.2.2.1 (Int.toNat x1))).2))))])))))) (BS K p 0 (List.take sa.length sa) (List.take sb.length sb) (List.take q2.length q2) ([]:List Qd)))):BT K p x1 sa sb q2 :=
 Loop.of h
theorem QEE(p:Ql)(x:Int)(q0:List Qi)(q1:List Qc) (h :
 let z1:=id (α:=Qc) (aq QE p.2.1 (Int.toNat x))
 (aS (decide (x<((p.2.1).length:Int))) ((0<=x/\Int.toNat x<(p.2.1).length)/\(((QA (α:=Qc) (aq QE p.2.1 (Int.toNat x)))/\((q1.length=q1.length\/q1.length+1<=q1.length)/\q1.length+1<=bP))/\(GU K p (aI (x+1)) (List.take q0.length q0) (List.take (q1.length+1) ((List.take q1.length q1)++([(z1.1,(List.take ((z1.2.1).length) (List.drop 0 (z1.2.1))),(List.take ((z1.2.2.1).length) (List.drop 0 (z1.2.2.1))),z1.2.2.2.1,z1.2.2.2.2.1,(List.take ((z1.2.2.2.2.2.1).length) (List.drop 0 (z1.2.2.2.2.2.1))),(List.take ((z1.2.2.2.2.2.2.1).length) (List.drop 0 (z1.2.2.2.2.2.2.1))),(List.take ((z1.2.2.2.2.2.2.2.1).length) (List.drop 0 (z1.2.2.2.2.2.2.2.1))),(List.take ((z1.2.2.2.2.2.2.2.2.1).length) (List.drop 0 (z1.2.2.2.2.2.2.2.2.1))),(List.take ((z1.2.2.2.2.2.2.2.2.2.1).length) (List.drop 0 (z1.2.2.2.2.2.2.2.2.2.1))),(List.take ((z1.2.2.2.2.2.2.2.2.2.2.1).length) (List.drop 0 (z1.2.2.2.2.2.2.2.2.2.2.1))),(List.take ((z1.2.2.2.2.2.2.2.2.2.2.2.1).length) (List.drop 0 (z1.2.2.2.2.2.2.2.2.2.2.2.1))),z1.2.2.2.2.2.2.2.2.2.2.2.2.1,z1.2.2.2.2.2.2.2.2.2.2.2.2.2)])))))) (BT K p 0 (List.take q0.length q0) (List.take q1.length q1) ([]:List Qd)))):GU K p x q0 q1 :=
 Loop.of h
theorem Q3C(p:Ql)(hp:QA (α:=Ql) p):aR Tryz.prog 147 [(.a (aV.cells QM p))] (oW (id (α:=Ql) p)):=by
 refine bD uZ QLy QIK 0 0 60 Sv (kc QI0 (kc Gn (kc R4 kn))) (λK =>
 ((QA (α:=List Qi) p.1)/\(GU K p 0 (List.take ((id (α:=List Qi) p.1).length) (id (α:=List Qi) p.1)) ([]:List Qc)))) (λhb=>?_)
 have iN:Sz.sz p<=2147483648:=hp;have hs:Sz.sz p=Sz.sz p.1+Sz.sz p.2.1+Sz.sz p.2.2.1+Sz.sz p.2.2.2:=qp p;have k6:BS (λr'=>r'=oW (id (α:=Ql) p)) p 0 p.1 p.2.1 p.2.2.1 ([]):=by
  refine Jm (l:=p.2.2.2) (A:=λi v=>BS (λr'=>r'=oW (id (α:=Ql) p)) p i p.1 p.2.1 p.2.2.1 v) (Q:=λz=>oW (p.1,p.2.1,p.2.2.1,z)=oW (id (α:=Ql) p)) (by omega) (λk x v hk hl hg hv hx ih=>?_) (λhq=>?_) (au rfl)
  ·refine Qxs _ _ _ _ _ _ _ ⟨λ_=>?_,λh=>by simp at h;omega⟩;rw[Int.toNat_natCast,hg,dv (by omega),Zc];simp only[id,List.drop_zero,List.take_length];exact⟨⟨by omega,hk⟩,⟨by unfold QA;omega,(by first | exact room (by omega) | (simp[QY];omega))⟩,ih⟩
  ·refine Qxs _ _ _ _ _ _ _ ⟨λh=>by simp at h,λ_=>?_⟩;simp only[id,List.drop_zero,List.take_length]
   first | done | exact hq | trivial
 have k4:BT (λr'=>r'=oW (id (α:=Ql) p)) p 0 p.1 p.2.1 ([]):=by
  refine Jm (l:=p.2.2.1) (A:=λi v=>BT (λr'=>r'=oW (id (α:=Ql) p)) p i p.1 p.2.1 v) (Q:=λz=>z=p.2.2.1) (by omega) (λk x v hk hl hg hv hx ih=>?_) (λhq=>?_) rfl
  ·refine QuM _ _ _ _ _ _ ⟨λ_=>?_,λh=>by simp at h;omega⟩;rw[Int.toNat_natCast,hg,dv (by omega),Zc];simp only[id,List.drop_zero,List.take_length];exact⟨⟨by omega,hk⟩,⟨by unfold QA;omega,(by first | exact room (by omega) | (simp[QY];omega))⟩,ih⟩
  ·refine QuM _ _ _ _ _ _ ⟨λh=>by simp at h,λ_=>?_⟩;simp only[id,List.drop_zero,List.take_length];exact k6
 refine⟨by unfold QA;omega,?_⟩;simp only[id,List.take_length];refine Jm (l:=p.2.1) (A:=λi v=>GU (λr'=>r'=oW (id (α:=Ql) p)) p i p.1 v) (Q:=λz=>z=p.2.1) (by omega) (λk x v hk hl hg hv hx ih=>?_) (λhq=>?_) rfl
 ·refine QEE _ _ _ _ _ ⟨λ_=>?_,λh=>by simp at h;omega⟩;rw[Int.toNat_natCast,hg,dv (by omega),Zc];simp only[id,List.drop_zero,List.take_length];exact⟨⟨by omega,hk⟩,⟨by unfold QA;omega,(by first | exact room (by omega) | (simp[QY];omega))⟩,ih⟩
 ·refine QEE _ _ _ _ _ ⟨λh=>by simp at h,λ_=>?_⟩;simp only[id,List.drop_zero,List.take_length];exact k4
theorem QVL:Qf Tryz.prog Sv:=Qh λx h=>Q3C x.1 h
def J8(t:Ql):aJ:=⟨(.a [(bu Qp t.1),(.r Qm 0 0 ((t.2.1).length)),(.r Qj 1 0 ((t.2.2.1).length)),(.r Qj 2 0 ((t.2.2.2).length))]),[(.sl 39 Qm .ow t.2.1),(.sl 161 Qj .ow t.2.2.1),(.sl 161 Qj .ow t.2.2.2)],[],true,[]⟩
def GV:aP:=Qg 143 [(.a QM)] λx=>(some (QA (α:=Ql) x.1),J8 (id (α:=Ql) x.1))
def qu:aN:=⟨[xh,BC],false⟩
def Qwb:af :=
 (ag [(ag [(.ae [ab 9 4,an 10 1 0,ar 11 10 1,bh 12 11,az 13 .lss 9 12]),(.cond 13 .skip (.exit 0))]),(.block 1 (.draw [an 16 3 0,ar 17 16 1,aD 18 (.bO 3 [TI] []),an 19 1 0,ar 20 19 1,ab 21 4,bn 22 20 21 Qp,an 23 22 0,ar 24 23 1,aD 25 (.app 18 24 3 [TI]),aD 26 (.bO 3 [TI] []),an 27 1 0,ar 28 27 1,ab 29 4,bn 30 28 29 Qp,an 31 30 1,ar 32 31 1,aD 33 (.app 26 32 3 [TI]),aD 34 (.build (bC Qp) [(0,1,25),(1,1,33)]),aD 35 (.bO 154 Qp [34]),aD 36 (.app 17 35 154 Qp),an 37 3 0,a8 37 36 1] [(0,2),(1,2),(2,3),(2,4),(2,6),(2,7),(2,8),(0,9),(1,9),(0,10),(1,10),(2,10),(3,10),(4,10),(6,10),(7,10),(8,10),(9,10),(2,11),(9,11),(10,11),(2,12),(9,12),(10,12),(2,14),(9,14),(10,14),(2,15),(9,15),(10,15),(2,16),(9,16),(10,16),(0,17),(1,17),(0,19),(1,19)])),(.ae [ab 14 4,az 15 .add 14 (aw 1),ab 4 15])])
def QCd:List (Nat × Md):=[(1,.b (da 4)),(2,.b (da 4)),(3,.b [.o 154,.o 39,.o 161,.o 161]),(4,.one .d)]
def QEt:af :=
 (ag [(ag [(.ae [ab 38 5,an 39 1 1,ar 40 39 1,bh 41 40,az 42 .lss 38 41]),(.cond 42 .skip (.exit 2))]),(.block 3 (.draw [an 45 3 1,ar 46 45 1,an 47 1 1,ar 48 47 1,ab 49 5,bn 50 48 49 Qm,aZ 51 50 14,aL 52 61 [51],aD 53 (.bO 39 Qm [52]),aD 54 (.app 46 53 39 Qm),an 55 3 1,a8 55 54 1] [(0,7),(1,7),(0,8),(1,8)])),(.ae [ab 43 5,az 44 .add 43 (aw 1),ab 5 44])])
def QGz:List (Nat × Md):=[(1,.b (da 4)),(2,.b (da 4)),(3,.b [.f,.f,.f,.f]),(5,.one .d)]
def QBD:af :=
 (ag [(ag [(.ae [ab 56 6,an 57 1 2,ar 58 57 1,bh 59 58,az 60 .lss 56 59]),(.cond 60 .skip (.exit 4))]),(.block 5 (.draw [an 63 3 2,ar 64 63 1,an 65 1 2,ar 66 65 1,ab 67 6,bn 68 66 67 Qj,aZ 69 68 2,aL 70 217 [69],aD 71 (.bO 161 Qj [70]),aD 72 (.app 64 71 161 Qj),an 73 3 2,a8 73 72 1] [(0,7),(1,7),(0,8),(1,8)])),(.ae [ab 61 6,az 62 .add 61 (aw 1),ab 6 62])])
def QE3:List (Nat × Md):=[(1,.b (da 4)),(2,.b (da 4)),(3,.b [.f,.f,.f,.f]),(6,.one .d)]
def QEY:af :=
 (ag [(ag [(.ae [ab 74 7,an 75 1 3,ar 76 75 1,bh 77 76,az 78 .lss 74 77]),(.cond 78 .skip (.exit 6))]),(.block 7 (.draw [an 81 3 3,ar 82 81 1,an 83 1 3,ar 84 83 1,ab 85 7,bn 86 84 85 Qj,aZ 87 86 2,aL 88 217 [87],aD 89 (.bO 161 Qj [88]),aD 90 (.app 82 89 161 Qj),an 91 3 3,a8 91 90 1] [(0,7),(1,7),(0,8),(1,8)])),(.ae [ab 79 7,az 80 .add 79 (aw 1),ab 7 80])])
def QD1:List (Nat × Md):=[(1,.b (da 4)),(2,.b (da 4)),(3,.b [.f,.f,.f,.f]),(7,.one .d)]
def Qyo:af :=
 (ag [(.ae [aZ 92 3 4,a8 2 92 4]),.ret])
def QuY:af :=
 (ag [(ag [(.ae [ab 7 (aw 0)]),(.block 6 (.loop QD1 QEY))]),Qyo])
def Qzk:af :=
 (ag [(ag [(.ae [ab 6 (aw 0)]),(.block 4 (.loop QE3 QBD))]),QuY])
def QHn:af :=
 (ag [(ag [(.ae [ab 5 (aw 0)]),(.block 2 (.loop QGz QEt))]),Qzk])
def QY8:af :=
 (ag [(.ae [aD 1 (.box 56 0 4),aD 2 (.new 56 (bC QM))]),(.ae [aD 8 (.build (bC QM) []),aD 3 (.new 56 (bC QM)),a8 3 8 4]),(ag [(.ae [ab 4 (aw 0)]),(.block 0 (.loop QCd Qwb))]),QHn])
def QGI:List (bw × Md):=[(.l 2 4 true,.b [.d,.o 39,.o 161,.o 161])]
def sd:Qb:=TQ 0 0 QGI K
def QND:Qb:=ba (aU qu 0 Qyo (sd K)) (sd K)
def QTa:Qb:=bf 6 (QND K)
def BU(p:Ql)(i3:Int)(se:List Qi)(sf:List Qc)(si:List Qd)(x3:List Qd):Prop:=Loop qu 0 QD1 QEY (QTa K) ⟨[(1,(.p 0 0 0)),(2,(.p 1 0 0)),(3,(.p 6 0 0)),(7,(aO i3))],[(0,(.box (aV.cells QM p))),(1,(.box (aV.cells QM ([],[],[],[])))),(2,(.sl 154 Qp .ow se)),(3,(.sl 39 Qm .ow sf)),(4,(.sl 161 Qj .ow si)),(5,(.sl 161 Qj .ow x3)),(6,(.box [(.r Qp 2 0 se.length),(.r Qm 3 0 sf.length),(.r Qj 4 0 si.length),(.r Qj 5 0 x3.length)]))],7⟩
def QUj:Qb:=ba (aU qu 0 QuY (sd K)) (sd K)
def QVc:Qb:=bf 4 (QUj K)
def BV(p:Ql)(i2:Int)(sj:List Qi)(sk:List Qc)(x2:List Qd):Prop:=Loop qu 0 QE3 QBD (QVc K) ⟨[(1,(.p 0 0 0)),(2,(.p 1 0 0)),(3,(.p 6 0 0)),(6,(aO i2))],[(0,(.box (aV.cells QM p))),(1,(.box (aV.cells QM ([],[],[],[])))),(2,(.sl 154 Qp .ow sj)),(3,(.sl 39 Qm .ow sk)),(4,(.sl 161 Qj .ow x2)),(5,(.sl 161 Qj .ow ([]:List Qd))),(6,(.box [(.r Qp 2 0 sj.length),(.r Qm 3 0 sk.length),(.r Qj 4 0 x2.length),(.r Qj 5 0 0)]))],7⟩
def Q03:Qb:=ba (aU qu 0 Qzk (sd K)) (sd K)
def QRG:Qb:=bf 2 (Q03 K)
def BW(p:Ql)(i1:Int)(sm:List Qi)(x1:List Qc):Prop:=Loop qu 0 QGz QEt (QRG K) ⟨[(1,(.p 0 0 0)),(2,(.p 1 0 0)),(3,(.p 6 0 0)),(5,(aO i1))],[(0,(.box (aV.cells QM p))),(1,(.box (aV.cells QM ([],[],[],[])))),(2,(.sl 154 Qp .ow sm)),(3,(.sl 39 Qm .ow x1)),(4,(.sl 161 Qj .ow ([]:List Qd))),(5,(.sl 161 Qj .ow ([]:List Qd))),(6,(.box [(.r Qp 2 0 sm.length),(.r Qm 3 0 x1.length),(.r Qj 4 0 0),(.r Qj 5 0 0)]))],7⟩
def QWj:Qb:=ba (aU qu 0 QHn (sd K)) (sd K)
def QMb:Qb:=bf 0 (QWj K)
def GW(p:Ql)(i:Int)(x0:List Qi):Prop:=Loop qu 0 QCd Qwb (QMb K) ⟨[(1,(.p 0 0 0)),(2,(.p 1 0 0)),(3,(.p 6 0 0)),(4,(aO i))],[(0,(.box (aV.cells QM p))),(1,(.box (aV.cells QM ([],[],[],[])))),(2,(.sl 154 Qp .ow x0)),(3,(.sl 39 Qm .ow ([]:List Qc))),(4,(.sl 161 Qj .ow ([]:List Qd))),(5,(.sl 161 Qj .ow ([]:List Qd))),(6,(.box [(.r Qp 2 0 x0.length),(.r Qm 3 0 0),(.r Qj 4 0 0),(.r Qj 5 0 0)]))],7⟩
theorem QyI(p:Ql)(i3:Int)(se:List Qi)(sf:List Qc)(si:List Qd)(x3:List Qd) (h :
 (aS (decide (i3<((p.2.2.2).length:Int))) (((0<=i3/\Int.toNat i3<(p.2.2.2).length)/\((QA (α:=Qd) (aq QI p.2.2.2 (Int.toNat i3)))/\((x3.length=x3.length\/x3.length+1<=x3.length)/\x3.length+1<=bP)))/\(BU K p (aI (i3+1)) (List.take se.length se) (List.take sf.length sf) (List.take si.length si) (List.take (x3.length+1) ((List.take x3.length x3)++([((id (α:=Qd) (aq QI p.2.2.2 (Int.toNat i3))).1,(List.take (((id (α:=Qd) (aq QI p.2.2.2 (Int.toNat i3))).2).length) (List.drop 0 ((id (α:=Qd) (aq QI p.2.2.2 (Int.toNat i3))).2))))]))))) (K (J8 ((List.take se.length (List.drop 0 se)),(List.take sf.length sf),(List.take si.length si),(List.take x3.length x3)))))):BU K p i3 se sf si x3 :=
 Loop.of h
theorem QA3(p:Ql)(i2:Int)(sj:List Qi)(sk:List Qc)(x2:List Qd) (h :
 (aS (decide (i2<((p.2.2.1).length:Int))) (((0<=i2/\Int.toNat i2<(p.2.2.1).length)/\((QA (α:=Qd) (aq QI p.2.2.1 (Int.toNat i2)))/\((x2.length=x2.length\/x2.length+1<=x2.length)/\x2.length+1<=bP)))/\(BV K p (aI (i2+1)) (List.take sj.length sj) (List.take sk.length sk) (List.take (x2.length+1) ((List.take x2.length x2)++([((id (α:=Qd) (aq QI p.2.2.1 (Int.toNat i2))).1,(List.take (((id (α:=Qd) (aq QI p.2.2.1 (Int.toNat i2))).2).length) (List.drop 0 ((id (α:=Qd) (aq QI p.2.2.1 (Int.toNat i2))).2))))]))))) (BU K p 0 (List.take sj.length sj) (List.take sk.length sk) (List.take x2.length x2) ([]:List Qd)))):BV K p i2 sj sk x2 :=
 Loop.of h
theorem QvB(p:Ql)(i1:Int)(sm:List Qi)(x1:List Qc) (h :
 let z1:=id (α:=Qc) (aq QE p.2.1 (Int.toNat i1))
 (aS (decide (i1<((p.2.1).length:Int))) (((0<=i1/\Int.toNat i1<(p.2.1).length)/\((QA (α:=Qc) (aq QE p.2.1 (Int.toNat i1)))/\((x1.length=x1.length\/x1.length+1<=x1.length)/\x1.length+1<=bP)))/\(BW K p (aI (i1+1)) (List.take sm.length sm) (List.take (x1.length+1) ((List.take x1.length x1)++([(z1.1,z1.2.1,z1.2.2.1,z1.2.2.2.1,z1.2.2.2.2.1,(List.take ((z1.2.2.2.2.2.1).length) (List.drop 0 (z1.2.2.2.2.2.1))),z1.2.2.2.2.2.2.1,z1.2.2.2.2.2.2.2.1,z1.2.2.2.2.2.2.2.2.1,z1.2.2.2.2.2.2.2.2.2.1,z1.2.2.2.2.2.2.2.2.2.2.1,z1.2.2.2.2.2.2.2.2.2.2.2.1,z1.2.2.2.2.2.2.2.2.2.2.2.2.1,z1.2.2.2.2.2.2.2.2.2.2.2.2.2)]))))) (BV K p 0 (List.take sm.length sm) (List.take x1.length x1) ([]:List Qd)))):BW K p i1 sm x1 :=
 Loop.of h
theorem Qvn(p:Ql)(i:Int)(x0:List Qi) (h :
 (aS (decide (i<((p.1).length:Int))) (((0<=i/\Int.toNat i<(p.1).length)/\(((0=0\/0+((aq QP p.1 (Int.toNat i)).1).length<=0)/\0+((aq QP p.1 (Int.toNat i)).1).length<=bP)/\((0<=i/\Int.toNat i<(p.1).length)/\(((0=0\/0+((aq QP p.1 (Int.toNat i)).2).length<=0)/\0+((aq QP p.1 (Int.toNat i)).2).length<=bP)/\((x0.length=x0.length\/x0.length+1<=x0.length)/\x0.length+1<=bP)))))/\(GW K p (aI (i+1)) (List.take (x0.length+1) ((List.take x0.length x0)++([((List.take (0+((aq QP p.1 (Int.toNat i)).1).length) (List.drop 0 ((aq QP p.1 (Int.toNat i)).1))),(List.take (0+((aq QP p.1 (Int.toNat i)).2).length) (List.drop 0 ((aq QP p.1 (Int.toNat i)).2))))]))))) (BW K p 0 (List.take x0.length x0) ([]:List Qc)))):GW K p i x0 :=
 Loop.of h
theorem QXc(p:Ql)(hp:QA (α:=Ql) p):aR Tryz.prog 143 [(.a (aV.cells QM p))] (J8 (id (α:=Ql) p)):=by
 refine bD qu QY8 QGI 0 0 93 GV (kc Gq (kc R7 kn)) (λK =>
 (GW K p 0 ([]:List Qi))) (λhb=>?_)
 have iN:Sz.sz p<=2147483648:=hp;have hs:Sz.sz p=Sz.sz p.1+Sz.sz p.2.1+Sz.sz p.2.2.1+Sz.sz p.2.2.2:=qp p;have k8:BU (λr'=>r'=J8 (id (α:=Ql) p)) p 0 p.1 p.2.1 p.2.2.1 ([]):=by
  refine Jm (l:=p.2.2.2) (A:=λi v=>BU (λr'=>r'=J8 (id (α:=Ql) p)) p i p.1 p.2.1 p.2.2.1 v) (Q:=λz=>J8 (p.1,p.2.1,p.2.2.1,z)=J8 (id (α:=Ql) p)) (by omega) (λk x v hk hl hg hv hx ih=>?_) (λhq=>?_) (au rfl)
  ·refine QyI _ _ _ _ _ _ _ ⟨λ_=>?_,λh=>by simp at h;omega⟩;rw[Int.toNat_natCast,hg,dv (by omega),Zc];simp only[id,List.drop_zero,List.take_length];exact⟨⟨⟨by omega,hk⟩,by unfold QA;omega,(by first | exact room (by omega) | (simp[QY];omega))⟩,ih⟩
  ·refine QyI _ _ _ _ _ _ _ ⟨λh=>by simp at h,λ_=>?_⟩;simp only[id,List.drop_zero,List.take_length]
   first | done | exact hq | trivial
 have k6:BV (λr'=>r'=J8 (id (α:=Ql) p)) p 0 p.1 p.2.1 ([]):=by
  refine Jm (l:=p.2.2.1) (A:=λi v=>BV (λr'=>r'=J8 (id (α:=Ql) p)) p i p.1 p.2.1 v) (Q:=λz=>z=p.2.2.1) (by omega) (λk x v hk hl hg hv hx ih=>?_) (λhq=>?_) rfl
  ·refine QA3 _ _ _ _ _ _ ⟨λ_=>?_,λh=>by simp at h;omega⟩;rw[Int.toNat_natCast,hg,dv (by omega),Zc];simp only[id,List.drop_zero,List.take_length];exact⟨⟨⟨by omega,hk⟩,by unfold QA;omega,(by first | exact room (by omega) | (simp[QY];omega))⟩,ih⟩
  ·refine QA3 _ _ _ _ _ _ ⟨λh=>by simp at h,λ_=>?_⟩;simp only[id,List.drop_zero,List.take_length];exact k8
 have k4:BW (λr'=>r'=J8 (id (α:=Ql) p)) p 0 p.1 ([]):=by
  refine Jm (l:=p.2.1) (A:=λi v=>BW (λr'=>r'=J8 (id (α:=Ql) p)) p i p.1 v) (Q:=λz=>z=p.2.1) (by omega) (λk x v hk hl hg hv hx ih=>?_) (λhq=>?_) rfl
  ·refine QvB _ _ _ _ _ ⟨λ_=>?_,λh=>by simp at h;omega⟩;rw[Int.toNat_natCast,hg,dv (by omega),Zc];simp only[id,List.drop_zero,List.take_length];exact⟨⟨⟨by omega,hk⟩,by unfold QA;omega,(by first | exact room (by omega) | (simp[QY];omega))⟩,ih⟩
  ·refine QvB _ _ _ _ _ ⟨λh=>by simp at h,λ_=>?_⟩;simp only[id,List.drop_zero,List.take_length];exact k6
 refine Jm (l:=p.1) (A:=λi v=>GW (λr'=>r'=J8 (id (α:=Ql) p)) p i v) (Q:=λz=>z=p.1) (by omega) (λk x v hk hl hg hv hx ih=>?_) (λhq=>?_) rfl
 ·refine Qvn _ _ _ _ ⟨λ_=>?_,λh=>by simp at h;omega⟩;simp only[Q9]at hx;have h1:=ZR x.1;have h2:=ZR x.2;rw[Int.toNat_natCast,hg,dv (by omega),Zc,ru,ru];exact⟨⟨⟨by omega,hk⟩,⟨.inl rfl,by rw[QY];omega⟩,⟨by omega,hk⟩,⟨.inl rfl,by rw[QY];omega⟩,(by first | exact room (by omega) | (simp[QY];omega))⟩,ih⟩
 ·refine Qvn _ _ _ _ ⟨λh=>by simp at h,λ_=>?_⟩;rw[List.take_length];exact k4
theorem QDy:Qf Tryz.prog GV:=Qh λx h=>QXc x.1 h
def JY(t:Ql):aJ:=⟨(.a [(.r Qp 0 0 ((t.1).length)),(.r Qm 1 0 ((t.2.1).length)),(.r Qj 2 0 ((t.2.2.1).length)),(.r Qj 3 0 ((t.2.2.2).length))]),[(.sl 154 Qp (.dp 0 true []) t.1),(.sl 39 Qm (.dp 0 true []) t.2.1),(.sl 161 Qj (.dp 0 true []) t.2.2.1),(.sl 161 Qj (.dp 0 true []) t.2.2.2)],[],false,[]⟩
def Sw:aP:=Qg 50 [(.a QM),(.c TI)] λx=>(some (uT x.1 x.2.1),JY (ZU x.1 x.2.1))
def QRP:aN:=⟨[Sv,Sq,GO,Sa,RI,R8,RN,RP],true⟩
def QVf:af :=
 (ag [(.ae [aD 2 (.box 56 0 4),aD 4 (.new 56 (bC QM))]),(.ae [aZ 15 2 4,aL 16 147 [15],aD 5 (.new 56 (bC QM)),a8 5 16 4]),(ag [(.ae [aZ 17 2 4,ab 18 1,aL 19 92 [17,18],bL 20 19]),(.cond 20 (ag [(.ae [aZ 21 5 4,a8 4 21 4]),.ret]) .skip)]),(.ae [an 22 5 1,ar 23 22 1,ab 24 1,bn 25 23 24 Qm,aZ 26 25 14,aD 6 (.new 39 (bC Qm)),a8 6 26 14]),(.ae [aZ 27 2 4,ab 28 1,aL 29 148 [27,28],aD 7 (.new 175 (bC Qs)),a8 7 29 2]),(ag [(.ae [an 30 7 0,ar 31 30 1]),(.block 0 (ag [(.ae [az 33 .eql 31 (aw 1),ab 32 33]),(.cond 32 (ag [(.ae [an 35 5 2,ar 36 35 1,ab 37 1,az 38 .sub 37 (aw 1),bn 39 36 38 Qj,aZ 40 39 2,aL 41 149 [40],ab 34 41,bF 42 34 0,bF 43 34 1,bF 44 34 2,aD 8 (.new 161 (bC Qj)),aD 9 (.new 178 (bC QT)),a8 8 42 2,a8 9 43 2,ab 10 44]),(.ae [an 45 5 2,ar 46 45 1,ab 47 1,az 48 .sub 47 (aw 1),aZ 49 8 2,bn 50 46 48 Qj,a8 50 49 2]),(.ae [an 51 9 1,ar 52 51 1,an 53 6 7,a8 53 52 1])]) (ag [(.ae [az 55 .eql 31 (aw 2),ab 54 55]),(.cond 54 (ag [(.ae [an 56 6 7,ar 57 56 1,ab 11 57]),(ag [(.ae [ab 58 1,az 59 .eql 58 (aw 0)]),(.cond 59 (.ae [an 60 5 0,ar 61 60 1,an 62 7 1,ar 63 62 1,bn 64 61 63 Qp,an 65 64 0,ar 66 65 1,ab 11 66]) .skip)]),(.draw [aZ 67 6 14,an 68 7 1,ar 69 68 1,ab 70 11,an 71 5 0,ar 72 71 1,an 73 7 1,ar 74 73 1,bn 75 72 74 Qp,an 76 75 1,ar 77 76 1,aL 78 30 [67,69,70,77],a8 6 78 14] [])]) (ag [(.ae [az 80 .eql 31 (aw 3),ab 79 80]),(.cond 79 (ag [(.draw [an 82 5 2,ar 83 82 1,ab 84 1,an 85 5 2,ar 86 85 1,ab 87 1,bn 88 86 87 Qj,aZ 89 88 2,an 90 7 1,ar 91 90 1,an 92 6 8,ar 93 92 1,aD 94 (.build (bC QT) [(0,1,91),(1,1,93)]),aL 95 150 [89,94],ab 81 95,bF 96 81 0,bF 97 81 1,bn 98 83 84 Qj,a8 98 96 2] [(0,13),(1,13)]),(.ae [an 99 6 8,a8 99 (.k (.n [TI])) 1])]) (ag [(.ae [az 101 .eql 31 (aw 4),ab 100 101]),(.cond 100 (ag [(.ae [an 103 5 3,ar 104 103 1,ab 105 1,bn 106 104 105 Qj,aZ 107 106 2,aL 108 149 [107],ab 102 108,bF 109 102 0,bF 110 102 1,bF 111 102 2,aD 12 (.new 161 (bC Qj)),aD 13 (.new 178 (bC QT)),a8 12 109 2,a8 13 110 2,ab 14 111]),(.ae [an 112 5 3,ar 113 112 1,ab 114 1,aZ 115 12 2,bn 116 113 114 Qj,a8 116 115 2]),(.ae [an 117 13 1,ar 118 117 1,an 119 6 9,a8 119 118 1])]) (ag [(.ae [az 121 .eql 31 (aw 5),ab 120 121]),(.cond 120 (.ae [aZ 122 6 14,an 123 7 1,ar 124 123 1,aL 125 15 [122,124],a8 6 125 14]) (ag [(.ae [az 127 .eql 31 (aw 6),ab 126 127]),(.cond 126 (ag [(.draw [aZ 128 6 14,an 129 7 1,ar 130 129 1,an 131 5 0,ar 132 131 1,an 133 7 1,ar 134 133 1,bn 135 132 134 Qp,an 136 135 1,ar 137 136 1,aL 138 32 [128,130,137],a8 6 138 14] []),(.ae [ab 139 1,az 140 .eql 139 (aw 0)]),(.cond 140 (.ae [an 141 6 10,a8 141 (.k (.n [TI])) 1]) .skip)]) (ag [(.ae [az 143 .eql 31 (aw 7),ab 142 143]),(.cond 142 (ag [(.draw [an 145 5 3,ar 146 145 1,ab 147 1,az 148 .sub 147 (aw 1),an 149 5 3,ar 150 149 1,ab 151 1,az 152 .sub 151 (aw 1),bn 153 150 152 Qj,aZ 154 153 2,an 155 7 1,ar 156 155 1,an 157 6 10,ar 158 157 1,aD 159 (.build (bC QT) [(0,1,156),(1,1,158)]),aL 160 150 [154,159],ab 144 160,bF 161 144 0,bF 162 144 1,bn 163 146 148 Qj,a8 163 161 2] [(0,15),(1,15)]),(.ae [an 164 6 10,a8 164 (.k (.n [TI])) 1])]) .skip)]))]))]))]))]))]))]))]),(.ae [an 165 6 0,ar 166 165 1,az 167 .add 166 (aw 1),an 168 6 0,a8 168 167 1]),(.ae [an 169 5 1,ar 170 169 1,ab 171 1,aZ 172 6 14,bn 173 170 171 Qm,a8 173 172 14]),(.ae [aZ 174 5 4,a8 4 174 4]),.ret])
def QOn:List (bw × Md):=[(.l 4 4 true,.b [.p 154,.p 39,.p 161,.p 161])]
theorem QS6(p:Ql)(s:Int)(hp:uT p s):aR Tryz.prog 50 [(.a (aV.cells QM p)),(.c TI s)] (JY (ZU p s)):=by
 refine bD QRP QVf QOn 0 0 175 Sw (kc QVL (kc QKn (kc QAq (kc QV6 (kc Q09 (kc Q2t (kc QQH (kc QNE kn)))))))) (λK =>
 let z3:=id (α:=Ql) p
 let z1:=aq QE (z3.2.1) (0+(Int.toNat s))
 let z7:=YI z1 ((Qk p s).2)
 let z9:=List.take ((z3.2.2.1).length) (z3.2.2.1)
 let gP:=List.take ((z3.2.2.2).length) (z3.2.2.2)
 let gm:=List.take ((z3.1).length) (z3.1)
 let eF:=aq QI (z3.2.2.2) (0+(Int.toNat s))
 let ia:=Int.toNat ((Qk p s).2)
 let z2:=aq QP (z3.1) (0+ia)
 let z4:=ZM z1 ((Qk p s).2) (z2.2)
 let z5:=Yl z1 ((Qk p s).2) (z1.2.2.2.2.2.2.2.1) (z2.2)
 let z6:=Yl z1 ((Qk p s).2) (z2.1) (z2.2)
 let lV:=List.take ((z4.2.2.2.2.2.2.2.2.2.2.2.1).length) (List.drop 0 (z4.2.2.2.2.2.2.2.2.2.2.2.1))
 let oQ:=List.take ((z4.2.2.2.2.2.2.2.2.2.1).length) (List.drop 0 (z4.2.2.2.2.2.2.2.2.2.1))
 let oR:=List.take ((z4.2.2.2.2.2.2.2.2.1).length) (List.drop 0 (z4.2.2.2.2.2.2.2.2.1))
 let oS:=List.take ((z4.2.2.2.2.2.2.2.1).length) (List.drop 0 (z4.2.2.2.2.2.2.2.1))
 let lW:=aI (s-1)
 let z8:=Int.toNat lW
 let iJ:=Yn (aq QI (z3.2.2.2) (0+z8)) ((Qk p s).2,z1.2.2.2.2.2.2.2.2.2.2.1)
 let ik:=Zq (aq QI (z3.2.2.1) (0+z8))
 let k9:=List.take ((z4.2.2.2.2.2.2.1).length) (List.drop 0 (z4.2.2.2.2.2.2.1))
 let la:=List.take ((z4.2.2.2.2.2.1).length) (List.drop 0 (z4.2.2.2.2.2.1))
 let oT:=List.take ((z4.2.2.1).length) (List.drop 0 (z4.2.2.1))
 let oU:=List.take ((z4.2.1).length) (List.drop 0 (z4.2.1))
 let uU:=aq QI (z3.2.2.1) (0+(Int.toNat s))
 let iI:=Yn uU ((Qk p s).2,z1.2.2.2.2.2.2.2.2.1)
 ((QA (α:=Ql) p)/\(aS (!(ZZ p s)) (K (JY (gm,(List.take ((z3.2.1).length) (z3.2.1)),z9,gP))) (((0<=s/\Int.toNat s<(z3.2.1).length)/\((0+(Int.toNat s))<(z3.2.1).length))/\(aS (((Qk p s).1)==1) (((0<=aI (s-1)/\Int.toNat lW<(z3.2.2.1).length)/\(((0+z8)<(z3.2.2.1).length)/\(QA (α:=Qd) (aq QI (z3.2.2.1) (0+z8)))))/\(((0<=aI (s-1)/\Int.toNat lW<(z3.2.2.1).length)/\((0+z8)<(z3.2.2.1).length))/\(((0<=s/\Int.toNat s<(z3.2.1).length)/\(((0+(Int.toNat s))<(z3.2.1).length)/\(((0+(Int.toNat s))=(0+(Int.toNat s)))/\(((0+(Int.toNat s))=(0+(Int.toNat s)))/\(((0+(Int.toNat s))=(0+(Int.toNat s)))/\(((0+(Int.toNat s))=(0+(Int.toNat s)))/\(((0+(Int.toNat s))=(0+(Int.toNat s)))/\(((0+(Int.toNat s))=(0+(Int.toNat s)))/\(((0+(Int.toNat s))=(0+(Int.toNat s)))/\((0+(Int.toNat s))=(0+(Int.toNat s))))))))))))/\K (JY (gm,(List.take ((z3.2.1).length) ((z3.2.1).set (0+(Int.toNat s)) (aI ((z1.1)+1),z1.2.1,z1.2.2.1,z1.2.2.2.1,z1.2.2.2.2.1,z1.2.2.2.2.2.1,z1.2.2.2.2.2.2.1,(List.take (((ik.2.1).2).length) (List.drop 0 ((ik.2.1).2))),z1.2.2.2.2.2.2.2.2.1,z1.2.2.2.2.2.2.2.2.2.1,z1.2.2.2.2.2.2.2.2.2.2.1,z1.2.2.2.2.2.2.2.2.2.2.2.1,z1.2.2.2.2.2.2.2.2.2.2.2.2.1,z1.2.2.2.2.2.2.2.2.2.2.2.2.2))),(List.take ((z3.2.2.1).length) ((z3.2.2.1).set (0+z8) ((ik.1).1,(List.take (((ik.1).2).length) (List.drop 0 ((ik.1).2)))))),gP))))) (aS (((Qk p s).1)==2) (aS (s==0) ((((0:Int)<=(Qk p s).2/\Int.toNat ((Qk p s).2)<(z3.1).length)/\((0+ia)<(z3.1).length))/\((((0:Int)<=(Qk p s).2/\Int.toNat ((Qk p s).2)<(z3.1).length)/\(((0+ia)<(z3.1).length)/\(oP z1 ((Qk p s).2) (z2.1) (z2.2))))/\(((0<=s/\Int.toNat s<(z3.2.1).length)/\((0+(Int.toNat s))<(z3.2.1).length))/\K (JY (gm,(List.take ((z3.2.1).length) ((z3.2.1).set (0+(Int.toNat s)) (aI ((z6.1)+1),(List.take ((z6.2.1).length) (List.drop 0 (z6.2.1))),(List.take ((z6.2.2.1).length) (List.drop 0 (z6.2.2.1))),z6.2.2.2.1,z6.2.2.2.2.1,(List.take ((z6.2.2.2.2.2.1).length) (List.drop 0 (z6.2.2.2.2.2.1))),(List.take ((z6.2.2.2.2.2.2.1).length) (List.drop 0 (z6.2.2.2.2.2.2.1))),(List.take ((z6.2.2.2.2.2.2.2.1).length) (List.drop 0 (z6.2.2.2.2.2.2.2.1))),(List.take ((z6.2.2.2.2.2.2.2.2.1).length) (List.drop 0 (z6.2.2.2.2.2.2.2.2.1))),(List.take ((z6.2.2.2.2.2.2.2.2.2.1).length) (List.drop 0 (z6.2.2.2.2.2.2.2.2.2.1))),(List.take ((z6.2.2.2.2.2.2.2.2.2.2.1).length) (List.drop 0 (z6.2.2.2.2.2.2.2.2.2.2.1))),(List.take ((z6.2.2.2.2.2.2.2.2.2.2.2.1).length) (List.drop 0 (z6.2.2.2.2.2.2.2.2.2.2.2.1))),z6.2.2.2.2.2.2.2.2.2.2.2.2.1,z6.2.2.2.2.2.2.2.2.2.2.2.2.2))),z9,gP))))) ((((0:Int)<=(Qk p s).2/\Int.toNat ((Qk p s).2)<(z3.1).length)/\(((0+ia)<(z3.1).length)/\(oP z1 ((Qk p s).2) (z1.2.2.2.2.2.2.2.1) (z2.2))))/\(((0<=s/\Int.toNat s<(z3.2.1).length)/\((0+(Int.toNat s))<(z3.2.1).length))/\K (JY (gm,(List.take ((z3.2.1).length) ((z3.2.1).set (0+(Int.toNat s)) (aI ((z5.1)+1),(List.take ((z5.2.1).length) (List.drop 0 (z5.2.1))),(List.take ((z5.2.2.1).length) (List.drop 0 (z5.2.2.1))),z5.2.2.2.1,z5.2.2.2.2.1,(List.take ((z5.2.2.2.2.2.1).length) (List.drop 0 (z5.2.2.2.2.2.1))),(List.take ((z5.2.2.2.2.2.2.1).length) (List.drop 0 (z5.2.2.2.2.2.2.1))),(List.take ((z5.2.2.2.2.2.2.2.1).length) (List.drop 0 (z5.2.2.2.2.2.2.2.1))),(List.take ((z5.2.2.2.2.2.2.2.2.1).length) (List.drop 0 (z5.2.2.2.2.2.2.2.2.1))),(List.take ((z5.2.2.2.2.2.2.2.2.2.1).length) (List.drop 0 (z5.2.2.2.2.2.2.2.2.2.1))),(List.take ((z5.2.2.2.2.2.2.2.2.2.2.1).length) (List.drop 0 (z5.2.2.2.2.2.2.2.2.2.2.1))),(List.take ((z5.2.2.2.2.2.2.2.2.2.2.2.1).length) (List.drop 0 (z5.2.2.2.2.2.2.2.2.2.2.2.1))),z5.2.2.2.2.2.2.2.2.2.2.2.2.1,z5.2.2.2.2.2.2.2.2.2.2.2.2.2))),z9,gP))))) (aS (((Qk p s).1)==3) (((0<=s/\Int.toNat s<(z3.2.2.1).length)/\(((0+(Int.toNat s))<(z3.2.2.1).length)/\((ZK (α:=Qd) (β:=Zl) uU ((Qk p s).2,z1.2.2.2.2.2.2.2.2.1))/\((0<=s/\Int.toNat s<(z3.2.2.1).length)/\((0+(Int.toNat s))<(z3.2.2.1).length)))))/\(((0<=s/\Int.toNat s<(z3.2.1).length)/\(((0+(Int.toNat s))<(z3.2.1).length)/\(((0+(Int.toNat s))=(0+(Int.toNat s)))/\(((0+(Int.toNat s))=(0+(Int.toNat s)))/\(((0+(Int.toNat s))=(0+(Int.toNat s)))/\(((0+(Int.toNat s))=(0+(Int.toNat s)))/\(((0+(Int.toNat s))=(0+(Int.toNat s)))/\(((0+(Int.toNat s))=(0+(Int.toNat s)))/\(((0+(Int.toNat s))=(0+(Int.toNat s)))/\((0+(Int.toNat s))=(0+(Int.toNat s))))))))))))/\K (JY (gm,(List.take ((z3.2.1).length) ((z3.2.1).set (0+(Int.toNat s)) (aI ((z1.1)+1),z1.2.1,z1.2.2.1,z1.2.2.2.1,z1.2.2.2.2.1,z1.2.2.2.2.2.1,z1.2.2.2.2.2.2.1,z1.2.2.2.2.2.2.2.1,[],z1.2.2.2.2.2.2.2.2.2.1,z1.2.2.2.2.2.2.2.2.2.2.1,z1.2.2.2.2.2.2.2.2.2.2.2.1,z1.2.2.2.2.2.2.2.2.2.2.2.2.1,z1.2.2.2.2.2.2.2.2.2.2.2.2.2))),(List.take ((z3.2.2.1).length) ((z3.2.2.1).set (0+(Int.toNat s)) ((iI.1).1,(List.take (((iI.1).2).length) (List.drop 0 ((iI.1).2)))))),gP)))) (aS (((Qk p s).1)==4) (((0<=s/\Int.toNat s<(z3.2.2.2).length)/\(((0+(Int.toNat s))<(z3.2.2.2).length)/\(QA (α:=Qd) eF)))/\(((0<=s/\Int.toNat s<(z3.2.2.2).length)/\((0+(Int.toNat s))<(z3.2.2.2).length))/\(((0<=s/\Int.toNat s<(z3.2.1).length)/\(((0+(Int.toNat s))<(z3.2.1).length)/\(((0+(Int.toNat s))=(0+(Int.toNat s)))/\(((0+(Int.toNat s))=(0+(Int.toNat s)))/\(((0+(Int.toNat s))=(0+(Int.toNat s)))/\(((0+(Int.toNat s))=(0+(Int.toNat s)))/\(((0+(Int.toNat s))=(0+(Int.toNat s)))/\(((0+(Int.toNat s))=(0+(Int.toNat s)))/\(((0+(Int.toNat s))=(0+(Int.toNat s)))/\((0+(Int.toNat s))=(0+(Int.toNat s))))))))))))/\K (JY (gm,(List.take ((z3.2.1).length) ((z3.2.1).set (0+(Int.toNat s)) (aI ((z1.1)+1),z1.2.1,z1.2.2.1,z1.2.2.2.1,z1.2.2.2.2.1,z1.2.2.2.2.2.1,z1.2.2.2.2.2.2.1,z1.2.2.2.2.2.2.2.1,z1.2.2.2.2.2.2.2.2.1,(List.take ((((Zq eF).2.1).2).length) (List.drop 0 (((Zq eF).2.1).2))),z1.2.2.2.2.2.2.2.2.2.2.1,z1.2.2.2.2.2.2.2.2.2.2.2.1,z1.2.2.2.2.2.2.2.2.2.2.2.2.1,z1.2.2.2.2.2.2.2.2.2.2.2.2.2))),z9,(List.take ((z3.2.2.2).length) ((z3.2.2.2).set (0+(Int.toNat s)) (((Zq eF).1).1,(List.take ((((Zq eF).1).2).length) (List.drop 0 (((Zq eF).1).2))))))))))) (aS (((Qk p s).1)==5) ((rV z1 ((Qk p s).2))/\(((0<=s/\Int.toNat s<(z3.2.1).length)/\((0+(Int.toNat s))<(z3.2.1).length))/\K (JY (gm,(List.take ((z3.2.1).length) ((z3.2.1).set (0+(Int.toNat s)) (aI ((z7.1)+1),(List.take ((z7.2.1).length) (List.drop 0 (z7.2.1))),(List.take ((z7.2.2.1).length) (List.drop 0 (z7.2.2.1))),z7.2.2.2.1,z7.2.2.2.2.1,(List.take ((z7.2.2.2.2.2.1).length) (List.drop 0 (z7.2.2.2.2.2.1))),(List.take ((z7.2.2.2.2.2.2.1).length) (List.drop 0 (z7.2.2.2.2.2.2.1))),(List.take ((z7.2.2.2.2.2.2.2.1).length) (List.drop 0 (z7.2.2.2.2.2.2.2.1))),(List.take ((z7.2.2.2.2.2.2.2.2.1).length) (List.drop 0 (z7.2.2.2.2.2.2.2.2.1))),(List.take ((z7.2.2.2.2.2.2.2.2.2.1).length) (List.drop 0 (z7.2.2.2.2.2.2.2.2.2.1))),(List.take ((z7.2.2.2.2.2.2.2.2.2.2.1).length) (List.drop 0 (z7.2.2.2.2.2.2.2.2.2.2.1))),(List.take ((z7.2.2.2.2.2.2.2.2.2.2.2.1).length) (List.drop 0 (z7.2.2.2.2.2.2.2.2.2.2.2.1))),z7.2.2.2.2.2.2.2.2.2.2.2.2.1,z7.2.2.2.2.2.2.2.2.2.2.2.2.2))),z9,gP)))) (aS (((Qk p s).1)==6) ((((0:Int)<=(Qk p s).2/\Int.toNat ((Qk p s).2)<(z3.1).length)/\(((0+ia)<(z3.1).length)/\(rW z1 ((Qk p s).2) (z2.2))))/\(aS (s==0) (((0<=s/\Int.toNat s<(z3.2.1).length)/\((0+(Int.toNat s))<(z3.2.1).length))/\K (JY (gm,(List.take ((z3.2.1).length) ((z3.2.1).set (0+(Int.toNat s)) (aI ((z4.1)+1),oU,oT,z4.2.2.2.1,z4.2.2.2.2.1,la,k9,oS,oR,oQ,[],lV,z4.2.2.2.2.2.2.2.2.2.2.2.2.1,z4.2.2.2.2.2.2.2.2.2.2.2.2.2))),z9,gP))) (((0<=s/\Int.toNat s<(z3.2.1).length)/\((0+(Int.toNat s))<(z3.2.1).length))/\K (JY (gm,(List.take ((z3.2.1).length) ((z3.2.1).set (0+(Int.toNat s)) (aI ((z4.1)+1),oU,oT,z4.2.2.2.1,z4.2.2.2.2.1,la,k9,oS,oR,oQ,(List.take ((z4.2.2.2.2.2.2.2.2.2.2.1).length) (List.drop 0 (z4.2.2.2.2.2.2.2.2.2.2.1))),lV,z4.2.2.2.2.2.2.2.2.2.2.2.2.1,z4.2.2.2.2.2.2.2.2.2.2.2.2.2))),z9,gP))))) (aS (((Qk p s).1)==7) (((0<=aI (s-1)/\Int.toNat lW<(z3.2.2.2).length)/\(((0+z8)<(z3.2.2.2).length)/\((ZK (α:=Qd) (β:=Zl) (aq QI (z3.2.2.2) (0+z8)) ((Qk p s).2,z1.2.2.2.2.2.2.2.2.2.2.1))/\((0<=aI (s-1)/\Int.toNat lW<(z3.2.2.2).length)/\((0+z8)<(z3.2.2.2).length)))))/\(((0<=s/\Int.toNat s<(z3.2.1).length)/\(((0+(Int.toNat s))<(z3.2.1).length)/\(((0+(Int.toNat s))=(0+(Int.toNat s)))/\(((0+(Int.toNat s))=(0+(Int.toNat s)))/\(((0+(Int.toNat s))=(0+(Int.toNat s)))/\(((0+(Int.toNat s))=(0+(Int.toNat s)))/\(((0+(Int.toNat s))=(0+(Int.toNat s)))/\(((0+(Int.toNat s))=(0+(Int.toNat s)))/\(((0+(Int.toNat s))=(0+(Int.toNat s)))/\((0+(Int.toNat s))=(0+(Int.toNat s))))))))))))/\K (JY (gm,(List.take ((z3.2.1).length) ((z3.2.1).set (0+(Int.toNat s)) (aI ((z1.1)+1),z1.2.1,z1.2.2.1,z1.2.2.2.1,z1.2.2.2.2.1,z1.2.2.2.2.2.1,z1.2.2.2.2.2.2.1,z1.2.2.2.2.2.2.2.1,z1.2.2.2.2.2.2.2.2.1,z1.2.2.2.2.2.2.2.2.2.1,[],z1.2.2.2.2.2.2.2.2.2.2.2.1,z1.2.2.2.2.2.2.2.2.2.2.2.2.1,z1.2.2.2.2.2.2.2.2.2.2.2.2.2))),z9,(List.take ((z3.2.2.2).length) ((z3.2.2.2).set (0+z8) ((iJ.1).1,(List.take (((iJ.1).2).length) (List.drop 0 ((iJ.1).2)))))))))) (((0<=s/\Int.toNat s<(z3.2.1).length)/\(((0+(Int.toNat s))<(z3.2.1).length)/\(((0+(Int.toNat s))=(0+(Int.toNat s)))/\(((0+(Int.toNat s))=(0+(Int.toNat s)))/\(((0+(Int.toNat s))=(0+(Int.toNat s)))/\(((0+(Int.toNat s))=(0+(Int.toNat s)))/\(((0+(Int.toNat s))=(0+(Int.toNat s)))/\(((0+(Int.toNat s))=(0+(Int.toNat s)))/\(((0+(Int.toNat s))=(0+(Int.toNat s)))/\(((0+(Int.toNat s))=(0+(Int.toNat s)))/\((0+(Int.toNat s))=(0+(Int.toNat s)))))))))))))/\K (JY (gm,(List.take ((z3.2.1).length) ((z3.2.1).set (0+(Int.toNat s)) (aI ((z1.1)+1),z1.2.1,z1.2.2.1,z1.2.2.2.1,z1.2.2.2.2.1,z1.2.2.2.2.2.1,z1.2.2.2.2.2.2.1,z1.2.2.2.2.2.2.2.1,z1.2.2.2.2.2.2.2.2.1,z1.2.2.2.2.2.2.2.2.2.1,z1.2.2.2.2.2.2.2.2.2.2.1,z1.2.2.2.2.2.2.2.2.2.2.2.1,z1.2.2.2.2.2.2.2.2.2.2.2.2.1,z1.2.2.2.2.2.2.2.2.2.2.2.2.2))),z9,gP)))))))))))))) (λhb=>?_)
 conv=>zeta
 have iN:Sz.sz p<=1073741824:=hp;have hs:Sz.sz p=Sz.sz p.1+Sz.sz p.2.1+Sz.sz p.2.2.1+Sz.sz p.2.2.2:=qp p;simp only[id,List.drop_zero,List.take_length,Nat.zero_add,and_true,true_and,and_self];refine⟨by unfold QA;omega,λh=>au ?_,λh=>?_⟩
 ·rw[Qwd (by simpa using h)]
 have he:ZZ p s=true:=by simpa using h
 obtain⟨k,rfl,hk,h4,ha,hb,fS,sn,yg,c1,c3,c4,c7,iH⟩:=QAk he;have oO:=Rt fS;have sH:=qs QE p.2.1 k;have hx:=Z3 (aq QE p.2.1 k);have fT:=Yk (Qx (aq QE p.2.1 k));have qf:=λj=>qs QI p.2.2.1 j;have lx:=λj=>qs QI p.2.2.2 j;have d0:Sz.sz QE=0:=rfl;have d1:Sz.sz QI=0:=rfl;have ts:∀(l:List Qd)(i:Nat)(v:Qd),List.take l.length (l.set i v)=l.set i v:=λl i v=>List.take_of_length_le (by simp);simp only[Int.toNat_natCast];have key:∀(y:Qc)(a b:List Qd),Yc p k (aq QE p.2.1 k) (Qk p (k:Int))=(y,a,b)->y.1=(aq QE p.2.1 k).1->((p.1,List.take p.2.1.length (p.2.1.set k (aI (y.1+1),y.2.1,y.2.2.1,y.2.2.2.1,y.2.2.2.2.1,y.2.2.2.2.2.1,y.2.2.2.2.2.2.1,y.2.2.2.2.2.2.2.1,y.2.2.2.2.2.2.2.2.1,y.2.2.2.2.2.2.2.2.2.1,y.2.2.2.2.2.2.2.2.2.2.1,y.2.2.2.2.2.2.2.2.2.2.2.1,y.2.2.2.2.2.2.2.2.2.2.2.2.1,y.2.2.2.2.2.2.2.2.2.2.2.2.2)),a,b):Ql)=ZU p (k:Int):=by
  intro y a b hy BX;have hw:aI (y.1+1)=y.1+1:=by rw[BX];exact Qy (by((try simp only[bT,Qx,aM,Qn,Qq,Qe,Qz,sX,sY,sG,sD,Qt,Qo,bg,QB,Qu,Qv,Qw]at *);omega)) (by((try simp only[bT,Qx,aM,Qn,Qq,Qe,Qz,sX,sY,sG,sD,Qt,Qo,bg,QB,Qu,Qv,Qw]at *);omega))
  rw[QC1 he rfl hy BX,hw,List.take_of_length_le (by simp)]
 refine⟨⟨⟨by omega,hk⟩,hk⟩,?_⟩;refine⟨λg=>?_,λn1=>?_⟩
 ·have g:(Qk p (k:Int)).1=1:=by simpa using g
  have g1:=c1 g;have e:aI ((k:Int)-1)=((k-1:Nat):Int):=by rw[Qy (by omega) (by omega)];omega
  rw[e];simp only[Int.toNat_natCast];rw[ts];exact⟨⟨⟨by omega,by omega⟩,by omega,by unfold QA;have:=qf (k-1);omega⟩,⟨⟨by omega,by omega⟩,by omega⟩,⟨⟨by omega,hk⟩,hk⟩,au (key (f6 (aq QE p.2.1 k) (Zq (aq QI p.2.2.1 (k-1))).2.1.2) _ _ (pi1 g) rfl)⟩
 refine⟨λg=>?_,λn2=>?_⟩
 ·have g:(Qk p (k:Int)).1=2:=by simpa using g
  refine⟨λhz=>⟨⟨⟨sn,by omega⟩,by omega⟩,⟨⟨sn,by omega⟩,by omega,by unfold oP;omega⟩,⟨⟨by omega,hk⟩,hk⟩,au (key (Yl (aq QE p.2.1 k) (Qk p (k:Int)).2 (aq QP p.1 (Qk p (k:Int)).2.toNat).1 (aq QP p.1 (Qk p (k:Int)).2.toNat).2) _ _ ?_ (RA _ _ _ _))⟩,λhz=>⟨⟨⟨sn,by omega⟩,by omega,by unfold oP;omega⟩,⟨⟨by omega,hk⟩,hk⟩,au (key (Yl (aq QE p.2.1 k) (Qk p (k:Int)).2 (sX (aq QE p.2.1 k)) (aq QP p.1 (Qk p (k:Int)).2.toNat).2) _ _ ?_ (RA _ _ _ _))⟩⟩
  ·rw[RB g,if_pos (by simp at hz;omega)];try rfl
  ·rw[RB g,if_neg (by simp at hz;omega)];try rfl
 refine⟨λg=>?_,λn3=>?_⟩
 ·have g:(Qk p (k:Int)).1=3:=by simpa using g
  have g1:=c3 g;rw[ts];refine⟨⟨⟨by omega,by omega⟩,by omega,?_,⟨by omega,by omega⟩,by omega⟩,⟨⟨by omega,hk⟩,hk⟩,au (key (f7 (aq QE p.2.1 k) []) _ _ (pi3 g) rfl)⟩;unfold ZK;simp only[JA,Q1];have:=qf (k);((try simp only[bT,Qx,aM,Qn,Qq,Qe,Qz,sX,sY,sG,sD,Qt,Qo,bg,QB,Qu,Qv,Qw]at *);omega)
 refine⟨λg=>?_,λn4=>?_⟩
 ·have g:(Qk p (k:Int)).1=4:=by simpa using g
  have g1:=c4 g;rw[ts];exact⟨⟨⟨by omega,by omega⟩,by omega,by unfold QA;have:=lx (k);omega⟩,⟨⟨by omega,by omega⟩,by omega⟩,⟨⟨by omega,hk⟩,hk⟩,au (key (f9 (aq QE p.2.1 k) (Zq (aq QI p.2.2.2 k)).2.1.2) _ _ (pi4 g) rfl)⟩
 refine⟨λg=>?_,λn5=>?_⟩
 ·have g:(Qk p (k:Int)).1=5:=by simpa using g
  exact⟨by unfold rV;omega,⟨⟨by omega,hk⟩,hk⟩,au (key (YI (aq QE p.2.1 k) (Qk p (k:Int)).2) _ _ (pi5 g) (Qyw _ _))⟩
 refine⟨λg=>?_,λn6=>?_⟩
 ·have g:(Qk p (k:Int)).1=6:=by simpa using g
  refine⟨⟨⟨sn,by omega⟩,by omega,by unfold rW;omega⟩,λhz=>⟨⟨⟨by omega,hk⟩,hk⟩,au ?_⟩,λhz=>⟨⟨⟨by omega,hk⟩,hk⟩,au ?_⟩⟩
  ·exact key (eE (ZM (aq QE p.2.1 k) (Qk p (k:Int)).2 (aq QP p.1 (Qk p (k:Int)).2.toNat).2) []) _ _ (by rw[Gi g,if_pos (by simp at hz;omega)]) (Gh _ _ _)
  ·exact key (ZM (aq QE p.2.1 k) (Qk p (k:Int)).2 (aq QP p.1 (Qk p (k:Int)).2.toNat).2) _ _ (by rw[Gi g,if_neg (by simp at hz;omega)]) (Gh _ _ _)
 refine⟨λg=>?_,λn7=>?_⟩
 ·have g:(Qk p (k:Int)).1=7:=by simpa using g
  have g1:=c7 g;have e:aI ((k:Int)-1)=((k-1:Nat):Int):=by rw[Qy (by omega) (by omega)];omega
  rw[e];simp only[Int.toNat_natCast];rw[ts];refine⟨⟨⟨by omega,by omega⟩,by omega,?_,⟨by omega,by omega⟩,by omega⟩,⟨⟨by omega,hk⟩,hk⟩,au (key (eE (aq QE p.2.1 k) []) _ _ (pi7 g) rfl)⟩;unfold ZK;simp only[JA,Q1];have:=lx (k-1);((try simp only[bT,Qx,aM,Qn,Qq,Qe,Qz,sX,sY,sG,sD,Qt,Qo,bg,QB,Qu,Qv,Qw]at *);omega)
 ·simp at n1 n2 n3 n4 n5 n6 n7;exact⟨⟨⟨by omega,hk⟩,hk⟩,au (key (aq QE p.2.1 k) _ _ (pi8 (by omega)) rfl)⟩
theorem QVP:Qf Tryz.prog Sw:=Qh λx h=>QS6 x.1 x.2.1 h
def xr(t:Ql):aJ:=⟨(.a [(bu Qp t.1),(.r Qm 0 0 ((t.2.1).length)),(.r Qj 1 0 ((t.2.2.1).length)),(bu Qj t.2.2.2)]),[(.sl 39 Qm .ow t.2.1),(.sl 161 Qj .ow t.2.2.1)],[],true,[]⟩
def Sx:aP:=Qg 49 [(.a QM),(.c TI)] λx=>(some (uT x.1 x.2.1),xr (ZU x.1 x.2.1))
def GY:aN:=⟨[GV,So,GN,Sb,RJ,R9,RO,RT],false⟩
def Qyv:af :=
 (.draw [aZ 71 7 14,an 72 6 1,ar 73 72 1,ab 74 11,an 75 2 0,ar 76 75 1,an 77 6 1,ar 78 77 1,bn 79 76 78 Qp,an 80 79 1,ar 81 80 1,aL 82 28 [71,73,74,81],a8 7 82 14] [])
def QLW:List (Nat × Md):=[(1,.one .d),(2,.b (da 4)),(4,.b (da 4)),(5,.b [.d,.f,.f,.f]),(6,.b [.d,.d]),(7,.b (da 14)),(11,.one .d)]
def QL9:af:=.wk QLW Qyv
def QGh:af :=
 (ag [(.ae [an 174 7 0,ar 175 174 1,az 176 .add 175 (aw 1),an 177 7 0,a8 177 176 1]),(.ae [an 178 5 1,ar 179 178 1,ab 180 1,aZ 181 7 14,bn 182 179 180 Qm,a8 182 181 14]),(.ae [aZ 183 5 4,a8 4 183 4]),.ret])
def QYd:List (Nat × Md):=[(1,.one .d),(4,.b (da 4)),(5,.b [.d,.f,.f,.f]),(7,.b (da 14))]
def QBq:af:=.wk QYd QGh
def QLx:af :=
 (ag [(.ae [aD 2 (.box 56 0 4),aD 4 (.new 56 (bC QM))]),(.ae [aZ 19 2 4,aL 20 143 [19],aD 5 (.new 56 (bC QM)),a8 5 20 4]),(ag [(.ae [aZ 21 2 4,ab 22 1,aL 23 89 [21,22],bL 24 23]),(.cond 24 (ag [(.ae [aZ 25 5 4,a8 4 25 4]),.ret]) .skip)]),(.ae [aZ 26 2 4,ab 27 1,aL 28 144 [26,27],aD 6 (.new 175 (bC Qs)),a8 6 28 2]),(.ae [an 29 5 1,ar 30 29 1,ab 31 1,bn 32 30 31 Qm,aZ 33 32 14,aD 7 (.new 39 (bC Qm)),a8 7 33 14]),(ag [(.ae [an 34 6 0,ar 35 34 1]),(.block 0 (ag [(.ae [az 37 .eql 35 (aw 1),ab 36 37]),(.cond 36 (ag [(.ae [an 39 2 2,ar 40 39 1,ab 41 1,az 42 .sub 41 (aw 1),bn 43 40 42 Qj,aZ 44 43 2,aL 45 145 [44],ab 38 45,bF 46 38 0,bF 47 38 1,bF 48 38 2,aD 8 (.new 161 (bC Qj)),aD 9 (.new 178 (bC QT)),a8 8 46 2,a8 9 47 2,ab 10 48]),(.ae [an 49 5 2,ar 50 49 1,ab 51 1,az 52 .sub 51 (aw 1),aZ 53 8 2,bn 54 50 52 Qj,a8 54 53 2]),(.ae [an 55 9 1,ar 56 55 1,an 57 7 7,a8 57 56 1])]) (ag [(.ae [az 59 .eql 35 (aw 2),ab 58 59]),(.cond 58 (ag [(.ae [an 60 7 7,ar 61 60 1,ab 11 61]),(ag [(.ae [ab 62 1,az 63 .eql 62 (aw 0)]),(.cond 63 (.ae [an 64 2 0,ar 65 64 1,an 66 6 1,ar 67 66 1,bn 68 65 67 Qp,an 69 68 0,ar 70 69 1,ab 11 70]) .skip)]),QL9]) (ag [(.ae [az 84 .eql 35 (aw 3),ab 83 84]),(.cond 83 (ag [(.draw [an 86 2 2,ar 87 86 1,ab 88 1,bn 89 87 88 Qj,aZ 90 89 2,an 91 6 1,ar 92 91 1,an 93 7 8,ar 94 93 1,aD 95 (.build (bC QT) [(0,1,92),(1,1,94)]),aL 96 146 [90,95],ab 85 96,bF 97 85 0,bF 98 85 1,aD 12 (.new 161 (bC Qj)),a8 12 97 2,ab 13 98] [(0,14),(1,14),(3,14),(4,14),(5,14),(6,14),(7,14),(8,14),(10,14)]),(.ae [an 99 5 2,ar 100 99 1,ab 101 1,aZ 102 12 2,bn 103 100 101 Qj,a8 103 102 2]),(.ae [aD 104 (.bO 3 [TI] []),an 105 7 8,a8 105 104 1])]) (ag [(.ae [az 107 .eql 35 (aw 4),ab 106 107]),(.cond 106 (ag [(.ae [an 109 2 3,ar 110 109 1,ab 111 1,bn 112 110 111 Qj,aZ 113 112 2,aL 114 145 [113],ab 108 114,bF 115 108 0,bF 116 108 1,bF 117 108 2,aD 14 (.new 161 (bC Qj)),aD 15 (.new 178 (bC QT)),a8 14 115 2,a8 15 116 2,ab 16 117]),(.ae [an 118 5 3,ar 119 118 1,ab 120 1,aZ 121 14 2,bn 122 119 120 Qj,a8 122 121 2]),(.ae [an 123 15 1,ar 124 123 1,an 125 7 9,a8 125 124 1])]) (ag [(.ae [az 127 .eql 35 (aw 5),ab 126 127]),(.cond 126 (.ae [aZ 128 7 14,an 129 6 1,ar 130 129 1,aL 131 13 [128,130],a8 7 131 14]) (ag [(.ae [az 133 .eql 35 (aw 6),ab 132 133]),(.cond 132 (ag [(.draw [aZ 134 7 14,an 135 6 1,ar 136 135 1,an 137 2 0,ar 138 137 1,an 139 6 1,ar 140 139 1,bn 141 138 140 Qp,an 142 141 1,ar 143 142 1,aL 144 31 [134,136,143],a8 7 144 14] []),(.ae [ab 145 1,az 146 .eql 145 (aw 0)]),(.cond 146 (.ae [aD 147 (.bO 3 [TI] []),an 148 7 10,a8 148 147 1]) .skip)]) (ag [(.ae [az 150 .eql 35 (aw 7),ab 149 150]),(.cond 149 (ag [(.draw [an 152 2 3,ar 153 152 1,ab 154 1,az 155 .sub 154 (aw 1),bn 156 153 155 Qj,aZ 157 156 2,an 158 6 1,ar 159 158 1,an 160 7 10,ar 161 160 1,aD 162 (.build (bC QT) [(0,1,159),(1,1,161)]),aL 163 146 [157,162],ab 151 163,bF 164 151 0,bF 165 151 1,aD 17 (.new 161 (bC Qj)),a8 17 164 2,ab 18 165] [(0,15),(1,15),(4,15),(5,15),(6,15),(7,15),(8,15),(9,15),(11,15)]),(.ae [an 166 5 3,ar 167 166 1,ab 168 1,az 169 .sub 168 (aw 1),aZ 170 17 2,bn 171 167 169 Qj,a8 171 170 2]),(.ae [aD 172 (.bO 3 [TI] []),an 173 7 10,a8 173 172 1])]) .skip)]))]))]))]))]))]))]))]),QBq])
def QwJ:List (bw × Md):=[(.l 4 4 true,.b [.d,.o 39,.o 161,.d])]
def Sy:Qb:=TQ 0 0 QwJ K
@[irreducible] def nO(p:Ql)(s:Int)(x1:List Qc)(x2:List Qd)(x3:List Qd)(GZ:Int)(G1:List bE)(G2:List aE)(G3:Bool)(G4:Bool)(G5:List ZI)(G6:List (List Int))(G7:List Int)(G8:List Int)(G9:List Int)(qv:List Int)(qw:List (List Int))(qx:Int)(qy:Bool):Prop:=aU GY 0 QGh (Sy K) ⟨[(1,(aO s)),(4,(.p 0 0 0)),(5,(.p 4 0 0)),(7,(.p 5 0 0))],[(0,(.box (aV.cells QM ([],[],[],[])))),(1,(.sl 39 Qm .ow x1)),(2,(.sl 161 Qj .ow x2)),(3,(.sl 161 Qj .ow x3)),(4,(.box [(bu Qp ((id (α:=Ql) p).1)),(.r Qm 1 0 x1.length),(.r Qj 2 0 x2.length),(.r Qj 3 0 x3.length)])),(5,(.box (aV.cells Qm (GZ,G1,G2,G3,G4,G5,G6,G7,G8,G9,qv,qw,qx,qy))))],6⟩
def Q26:Qb:=ba (aU GY 0 QBq (Sy K)) (Sy K)
def QNj:Qb:=bf 0 (Q26 K)
@[irreducible] def Ha(p:Ql)(s:Int)(dF:List Int):Prop:=let z1:=id (α:=Ql) p
 aU GY 0 Qyv (QNj K) ⟨[(1,(aO s)),(2,(.p 0 0 0)),(4,(.p 1 0 0)),(5,(.p 5 0 0)),(6,(.p 6 0 0)),(7,(.p 7 0 0)),(11,(bu [TI] dF))],[(0,(.box (aV.cells QM p))),(1,(.box (aV.cells QM ([],[],[],[])))),(2,(.sl 39 Qm .ow (List.take ((z1.2.1).length) (z1.2.1)))),(3,(.sl 161 Qj .ow (List.take ((z1.2.2.1).length) (z1.2.2.1)))),(4,(.sl 161 Qj .ow (List.take ((z1.2.2.2).length) (z1.2.2.2)))),(5,(.box [(bu Qp (z1.1)),(.r Qm 2 0 ((List.take ((z1.2.1).length) (z1.2.1)).length)),(.r Qj 3 0 ((List.take ((z1.2.2.1).length) (z1.2.2.1)).length)),(.r Qj 4 0 ((List.take ((z1.2.2.2).length) (z1.2.2.2)).length))])),(6,(.box [(aO ((Qk p s).1)),(aO ((Qk p s).2))])),(7,(.box (aV.cells Qm (aq QE (z1.2.1) (0+(Int.toNat s))))))],8⟩
theorem QQU(p:Ql)(s:Int)(x1:List Qc)(x2:List Qd)(x3:List Qd)(GZ:Int)(G1:List bE)(G2:List aE)(G3:Bool)(G4:Bool)(G5:List ZI)(G6:List (List Int))(G7:List Int)(G8:List Int)(G9:List Int)(qv:List Int)(qw:List (List Int))(qx:Int)(qy:Bool) (h :
 (((0<=s/\Int.toNat s<x1.length)/\((0+(Int.toNat s))<x1.length))/\K (xr ((id (α:=Ql) p).1,(List.take x1.length ((x1).set (0+(Int.toNat s)) (aI (GZ+1),G1,G2,G3,G4,G5,G6,G7,G8,G9,qv,qw,qx,qy))),(List.take x2.length x2),(List.take x3.length (List.drop 0 x3)))))):cz (nO K p s x1 x2 x3 GZ G1 G2 G3 G4 G5 G6 G7 G8 G9 qv qw qx qy) :=
 cz.of h
theorem Q34(p:Ql)(s:Int)(dF:List Int) (h :
 let z2:=id (α:=Ql) p
 let z3:=aq QP p.1 (Int.toNat ((Qk p s).2))
 let z1:=Yl (aq QE (z2.2.1) (0+(Int.toNat s))) ((Qk p s).2) dF (z3.2)
 ((((0:Int)<=(Qk p s).2/\Int.toNat ((Qk p s).2)<(p.1).length)/\(oP (aq QE (z2.2.1) (0+(Int.toNat s))) ((Qk p s).2) dF (z3.2)))/\(nO K p s (List.take ((List.take ((z2.2.1).length) (z2.2.1)).length) (List.take ((z2.2.1).length) (z2.2.1))) (List.take ((List.take ((z2.2.2.1).length) (z2.2.2.1)).length) (List.take ((z2.2.2.1).length) (z2.2.2.1))) (List.take ((List.take ((z2.2.2.2).length) (z2.2.2.2)).length) (List.take ((z2.2.2.2).length) (z2.2.2.2))) (z1.1) (z1.2.1) (z1.2.2.1) (z1.2.2.2.1) (z1.2.2.2.2.1) (z1.2.2.2.2.2.1) (z1.2.2.2.2.2.2.1) (z1.2.2.2.2.2.2.2.1) (z1.2.2.2.2.2.2.2.2.1) (z1.2.2.2.2.2.2.2.2.2.1) (z1.2.2.2.2.2.2.2.2.2.2.1) (z1.2.2.2.2.2.2.2.2.2.2.2.1) (z1.2.2.2.2.2.2.2.2.2.2.2.2.1) (z1.2.2.2.2.2.2.2.2.2.2.2.2.2)))):cz (Ha K p s dF) :=
 cz.of h
theorem QUq(p:Ql)(s:Int)(hp:uT p s):aR Tryz.prog 49 [(.a (aV.cells QM p)),(.c TI s)] (xr (ZU p s)):=by
 refine bD GY QLx QwJ 0 0 184 Sx (kc QDy (kc QWL (kc QDh (kc QNX (kc QT4 (kc QWv (kc Q3A (kc QP3 kn)))))))) (λK =>
 let z3:=id (α:=Ql) p
 let z1:=aq QE (z3.2.1) (0+(Int.toNat s))
 let z4:=YI z1 ((Qk p s).2)
 let z6:=List.take ((z3.2.1).length) (z3.2.1)
 let z7:=List.take ((z3.2.2.1).length) (z3.2.2.1)
 let z8:=List.take ((z3.2.2.2).length) (z3.2.2.2)
 let z9:=Yn (aq QI p.2.2.1 (Int.toNat s)) ((Qk p s).2,z1.2.2.2.2.2.2.2.2.1)
 let gm:=aq QP p.1 (Int.toNat ((Qk p s).2))
 let z2:=ZM z1 ((Qk p s).2) (gm.2)
 let eF:=aI (s-1)
 let z5:=Int.toNat eF
 let gP:=Yn (aq QI p.2.2.2 z5) ((Qk p s).2,z1.2.2.2.2.2.2.2.2.2.2.1)
 let iI:=aq QI p.2.2.2 (Int.toNat s)
 let iJ:=aq QI p.2.2.1 z5
 ((QA (α:=Ql) p)/\(aS (!(ZZ p s)) (K (xr (z3.1,z6,z7,(List.take ((z3.2.2.2).length) (List.drop 0 (z3.2.2.2)))))) (((0<=s/\Int.toNat s<(z3.2.1).length)/\((0+(Int.toNat s))<(z3.2.1).length))/\(aS (((Qk p s).1)==1) (((0<=aI (s-1)/\Int.toNat eF<(p.2.2.1).length)/\(QA (α:=Qd) iJ))/\(((0<=aI (s-1)/\Int.toNat eF<(z3.2.2.1).length)/\((0+z5)<(z3.2.2.1).length))/\(nO K p s z6 (List.take ((z3.2.2.1).length) ((z3.2.2.1).set (0+z5) ((Zq iJ).1))) z8 (z1.1) (z1.2.1) (z1.2.2.1) (z1.2.2.2.1) (z1.2.2.2.2.1) (z1.2.2.2.2.2.1) (z1.2.2.2.2.2.2.1) (((Zq iJ).2.1).2) (z1.2.2.2.2.2.2.2.2.1) (z1.2.2.2.2.2.2.2.2.2.1) (z1.2.2.2.2.2.2.2.2.2.2.1) (z1.2.2.2.2.2.2.2.2.2.2.2.1) (z1.2.2.2.2.2.2.2.2.2.2.2.2.1) (z1.2.2.2.2.2.2.2.2.2.2.2.2.2)))) (aS (((Qk p s).1)==2) (aS (s==0) (((0:Int)<=(Qk p s).2/\Int.toNat ((Qk p s).2)<(p.1).length)/\(Ha K p s (gm.1))) (Ha K p s (z1.2.2.2.2.2.2.2.1))) (aS (((Qk p s).1)==3) (((0<=s/\Int.toNat s<(p.2.2.1).length)/\(ZK (α:=Qd) (β:=Zl) (aq QI p.2.2.1 (Int.toNat s)) ((Qk p s).2,z1.2.2.2.2.2.2.2.2.1)))/\(((0<=s/\Int.toNat s<(z3.2.2.1).length)/\((0+(Int.toNat s))<(z3.2.2.1).length))/\(nO K p s z6 (List.take ((z3.2.2.1).length) ((z3.2.2.1).set (0+(Int.toNat s)) ((z9.1).1,(List.take (((z9.1).2).length) (List.drop 0 ((z9.1).2)))))) z8 (z1.1) (z1.2.1) (z1.2.2.1) (z1.2.2.2.1) (z1.2.2.2.2.1) (z1.2.2.2.2.2.1) (z1.2.2.2.2.2.2.1) (z1.2.2.2.2.2.2.2.1) ([]:List Int) (z1.2.2.2.2.2.2.2.2.2.1) (z1.2.2.2.2.2.2.2.2.2.2.1) (z1.2.2.2.2.2.2.2.2.2.2.2.1) (z1.2.2.2.2.2.2.2.2.2.2.2.2.1) (z1.2.2.2.2.2.2.2.2.2.2.2.2.2)))) (aS (((Qk p s).1)==4) (((0<=s/\Int.toNat s<(p.2.2.2).length)/\(QA (α:=Qd) iI))/\(((0<=s/\Int.toNat s<(z3.2.2.2).length)/\((0+(Int.toNat s))<(z3.2.2.2).length))/\(nO K p s z6 z7 (List.take ((z3.2.2.2).length) ((z3.2.2.2).set (0+(Int.toNat s)) ((Zq iI).1))) (z1.1) (z1.2.1) (z1.2.2.1) (z1.2.2.2.1) (z1.2.2.2.2.1) (z1.2.2.2.2.2.1) (z1.2.2.2.2.2.2.1) (z1.2.2.2.2.2.2.2.1) (z1.2.2.2.2.2.2.2.2.1) (((Zq iI).2.1).2) (z1.2.2.2.2.2.2.2.2.2.2.1) (z1.2.2.2.2.2.2.2.2.2.2.2.1) (z1.2.2.2.2.2.2.2.2.2.2.2.2.1) (z1.2.2.2.2.2.2.2.2.2.2.2.2.2)))) (aS (((Qk p s).1)==5) ((rV z1 ((Qk p s).2))/\(nO K p s z6 z7 z8 (z4.1) (z4.2.1) (z4.2.2.1) (z4.2.2.2.1) (z4.2.2.2.2.1) (z4.2.2.2.2.2.1) (z4.2.2.2.2.2.2.1) (z4.2.2.2.2.2.2.2.1) (z4.2.2.2.2.2.2.2.2.1) (z4.2.2.2.2.2.2.2.2.2.1) (z4.2.2.2.2.2.2.2.2.2.2.1) (z4.2.2.2.2.2.2.2.2.2.2.2.1) (z4.2.2.2.2.2.2.2.2.2.2.2.2.1) (z4.2.2.2.2.2.2.2.2.2.2.2.2.2))) (aS (((Qk p s).1)==6) ((((0:Int)<=(Qk p s).2/\Int.toNat ((Qk p s).2)<(p.1).length)/\(rW z1 ((Qk p s).2) (gm.2)))/\(aS (s==0) (nO K p s z6 z7 z8 (z2.1) (z2.2.1) (z2.2.2.1) (z2.2.2.2.1) (z2.2.2.2.2.1) (z2.2.2.2.2.2.1) (z2.2.2.2.2.2.2.1) (z2.2.2.2.2.2.2.2.1) (z2.2.2.2.2.2.2.2.2.1) (z2.2.2.2.2.2.2.2.2.2.1) ([]:List Int) (z2.2.2.2.2.2.2.2.2.2.2.2.1) (z2.2.2.2.2.2.2.2.2.2.2.2.2.1) (z2.2.2.2.2.2.2.2.2.2.2.2.2.2)) (nO K p s z6 z7 z8 (z2.1) (z2.2.1) (z2.2.2.1) (z2.2.2.2.1) (z2.2.2.2.2.1) (z2.2.2.2.2.2.1) (z2.2.2.2.2.2.2.1) (z2.2.2.2.2.2.2.2.1) (z2.2.2.2.2.2.2.2.2.1) (z2.2.2.2.2.2.2.2.2.2.1) (z2.2.2.2.2.2.2.2.2.2.2.1) (z2.2.2.2.2.2.2.2.2.2.2.2.1) (z2.2.2.2.2.2.2.2.2.2.2.2.2.1) (z2.2.2.2.2.2.2.2.2.2.2.2.2.2)))) (aS (((Qk p s).1)==7) (((0<=aI (s-1)/\Int.toNat eF<(p.2.2.2).length)/\(ZK (α:=Qd) (β:=Zl) (aq QI p.2.2.2 z5) ((Qk p s).2,z1.2.2.2.2.2.2.2.2.2.2.1)))/\(((0<=aI (s-1)/\Int.toNat eF<(z3.2.2.2).length)/\((0+z5)<(z3.2.2.2).length))/\(nO K p s z6 z7 (List.take ((z3.2.2.2).length) ((z3.2.2.2).set (0+z5) ((gP.1).1,(List.take (((gP.1).2).length) (List.drop 0 ((gP.1).2)))))) (z1.1) (z1.2.1) (z1.2.2.1) (z1.2.2.2.1) (z1.2.2.2.2.1) (z1.2.2.2.2.2.1) (z1.2.2.2.2.2.2.1) (z1.2.2.2.2.2.2.2.1) (z1.2.2.2.2.2.2.2.2.1) (z1.2.2.2.2.2.2.2.2.2.1) ([]:List Int) (z1.2.2.2.2.2.2.2.2.2.2.2.1) (z1.2.2.2.2.2.2.2.2.2.2.2.2.1) (z1.2.2.2.2.2.2.2.2.2.2.2.2.2)))) (nO K p s z6 z7 z8 (z1.1) (z1.2.1) (z1.2.2.1) (z1.2.2.2.1) (z1.2.2.2.2.1) (z1.2.2.2.2.2.1) (z1.2.2.2.2.2.2.1) (z1.2.2.2.2.2.2.2.1) (z1.2.2.2.2.2.2.2.2.1) (z1.2.2.2.2.2.2.2.2.2.1) (z1.2.2.2.2.2.2.2.2.2.2.1) (z1.2.2.2.2.2.2.2.2.2.2.2.1) (z1.2.2.2.2.2.2.2.2.2.2.2.2.1) (z1.2.2.2.2.2.2.2.2.2.2.2.2.2))))))))))))) (λhb=>?_)
 conv=>zeta
 have iN:Sz.sz p<=1073741824:=hp;have hs:Sz.sz p=Sz.sz p.1+Sz.sz p.2.1+Sz.sz p.2.2.1+Sz.sz p.2.2.2:=qp p;simp only[id,List.drop_zero,List.take_length,Nat.zero_add];refine⟨by unfold QA;omega,λh=>au ?_,λh=>?_⟩
 ·rw[Qwd (by simpa using h)]
 have he:ZZ p s=true:=by simpa using h
 obtain⟨k,rfl,hk,h4,ha,hb,fS,sn,yg,c1,c3,c4,c7,iH⟩:=QAk he;have oO:=Rt fS;have sH:=qs QE p.2.1 k;have hx:=Z3 (aq QE p.2.1 k);have fT:=Yk (Qx (aq QE p.2.1 k));have qf:=λj=>qs QI p.2.2.1 j;have lx:=λj=>qs QI p.2.2.2 j;have d0:Sz.sz QE=0:=rfl;have d1:Sz.sz QI=0:=rfl;have ts:∀(l:List Qd)(i:Nat)(v:Qd),List.take l.length (l.set i v)=l.set i v:=λl i v=>List.take_of_length_le (by simp);simp only[Int.toNat_natCast];have key:∀(y:Qc)(a b:List Qd),Yc p k (aq QE p.2.1 k) (Qk p (k:Int))=(y,a,b)->y.1=(aq QE p.2.1 k).1->nO (λr'=>r'=xr (ZU p (k:Int))) p (k:Int) p.2.1 a b y.1 y.2.1 y.2.2.1 y.2.2.2.1 y.2.2.2.2.1 y.2.2.2.2.2.1 y.2.2.2.2.2.2.1 y.2.2.2.2.2.2.2.1 y.2.2.2.2.2.2.2.2.1 y.2.2.2.2.2.2.2.2.2.1 y.2.2.2.2.2.2.2.2.2.2.1 y.2.2.2.2.2.2.2.2.2.2.2.1 y.2.2.2.2.2.2.2.2.2.2.2.2.1 y.2.2.2.2.2.2.2.2.2.2.2.2.2:=by
  intro y a b hy BX;have hw:aI (y.1+1)=y.1+1:=by rw[BX];exact Qy (by((try simp only[bT,Qx,aM,Qn,Qq,Qe,Qz,sX,sY,sG,sD,Qt,Qo,bg,QB,Qu,Qv,Qw]at *);omega)) (by((try simp only[bT,Qx,aM,Qn,Qq,Qe,Qz,sX,sY,sG,sD,Qt,Qo,bg,QB,Qu,Qv,Qw]at *);omega))
  refine(QQU _ _ _ _ _ _ _ _ _ _ _ _ _ _ _ _ _ _ _ _ ?_).h;simp only[id,List.drop_zero,List.take_length,Nat.zero_add,Int.toNat_natCast];refine⟨⟨⟨by omega,hk⟩,hk⟩,au ?_⟩;rw[QC1 he rfl hy BX,hw,List.take_of_length_le (by simp)]
 have k2:(Qk p (k:Int)).1=2->∀ dF,dF=(if k=0 then(aq QP p.1 (Qk p (k:Int)).2.toNat).1 else sX (aq QE p.2.1 k))->Ha (λr'=>r'=xr (ZU p (k:Int))) p (k:Int) dF:=by
  intro g dF hi;refine(Q34 _ _ _ _ ?_).h
  conv=>zeta
  simp only[id,List.drop_zero,List.take_length,Nat.zero_add,Int.toNat_natCast];refine⟨⟨⟨sn,by omega⟩,by unfold oP;omega⟩,?_⟩;exact key (Yl (aq QE p.2.1 k) (Qk p (k:Int)).2 dF (aq QP p.1 (Qk p (k:Int)).2.toNat).2) _ _ (by rw[RB g,hi]) (RA _ _ _ _)
 refine⟨⟨⟨by omega,hk⟩,hk⟩,?_⟩;refine⟨λg=>?_,λn1=>?_⟩
 ·have g:(Qk p (k:Int)).1=1:=by simpa using g
  have g1:=c1 g;have e:aI ((k:Int)-1)=((k-1:Nat):Int):=by rw[Qy (by omega) (by omega)];omega
  rw[e];simp only[Int.toNat_natCast];rw[ts];exact⟨⟨⟨by omega,by omega⟩,by unfold QA;have:=qf (k-1);omega⟩,⟨⟨by omega,by omega⟩,by omega⟩,key (f6 (aq QE p.2.1 k) (Zq (aq QI p.2.2.1 (k-1))).2.1.2) _ _ (pi1 g) rfl⟩
 refine⟨λg=>?_,λn2=>?_⟩
 ·have g:(Qk p (k:Int)).1=2:=by simpa using g
  refine⟨λhz=>⟨⟨sn,by omega⟩,k2 g _ ?_⟩,λhz=>k2 g _ ?_⟩
  ·rw[if_pos (by simp at hz;omega)]
  ·rw[if_neg (by simp at hz;omega)]
 refine⟨λg=>?_,λn3=>?_⟩
 ·have g:(Qk p (k:Int)).1=3:=by simpa using g
  have g1:=c3 g;rw[ts];refine⟨⟨⟨by omega,by omega⟩,?_⟩,⟨⟨by omega,by omega⟩,by omega⟩,key (f7 (aq QE p.2.1 k) []) _ _ (pi3 g) rfl⟩;unfold ZK;simp only[JA,Q1];have:=qf (k);((try simp only[bT,Qx,aM,Qn,Qq,Qe,Qz,sX,sY,sG,sD,Qt,Qo,bg,QB,Qu,Qv,Qw]at *);omega)
 refine⟨λg=>?_,λn4=>?_⟩
 ·have g:(Qk p (k:Int)).1=4:=by simpa using g
  have g1:=c4 g;rw[ts];exact⟨⟨⟨by omega,by omega⟩,by unfold QA;have:=lx (k);omega⟩,⟨⟨by omega,by omega⟩,by omega⟩,key (f9 (aq QE p.2.1 k) (Zq (aq QI p.2.2.2 k)).2.1.2) _ _ (pi4 g) rfl⟩
 refine⟨λg=>?_,λn5=>?_⟩
 ·have g:(Qk p (k:Int)).1=5:=by simpa using g
  exact⟨by unfold rV;omega,key (YI (aq QE p.2.1 k) (Qk p (k:Int)).2) _ _ (pi5 g) (Qyw _ _)⟩
 refine⟨λg=>?_,λn6=>?_⟩
 ·have g:(Qk p (k:Int)).1=6:=by simpa using g
  refine⟨⟨⟨sn,by omega⟩,by unfold rW;omega⟩,λhz=>?_,λhz=>?_⟩
  ·exact key (eE (ZM (aq QE p.2.1 k) (Qk p (k:Int)).2 (aq QP p.1 (Qk p (k:Int)).2.toNat).2) []) _ _ (by rw[Gi g,if_pos (by simp at hz;omega)]) (Gh _ _ _)
  ·exact key (ZM (aq QE p.2.1 k) (Qk p (k:Int)).2 (aq QP p.1 (Qk p (k:Int)).2.toNat).2) _ _ (by rw[Gi g,if_neg (by simp at hz;omega)]) (Gh _ _ _)
 refine⟨λg=>?_,λn7=>?_⟩
 ·have g:(Qk p (k:Int)).1=7:=by simpa using g
  have g1:=c7 g;have e:aI ((k:Int)-1)=((k-1:Nat):Int):=by rw[Qy (by omega) (by omega)];omega
  rw[e];simp only[Int.toNat_natCast];rw[ts];refine⟨⟨⟨by omega,by omega⟩,?_⟩,⟨⟨by omega,by omega⟩,by omega⟩,key (eE (aq QE p.2.1 k) []) _ _ (pi7 g) rfl⟩;unfold ZK;simp only[JA,Q1];have:=lx (k-1);((try simp only[bT,Qx,aM,Qn,Qq,Qe,Qz,sX,sY,sG,sD,Qt,Qo,bg,QB,Qu,Qv,Qw]at *);omega)
 ·simp at n1 n2 n3 n4 n5 n6 n7;exact key (aq QE p.2.1 k) _ _ (pi8 (by omega)) rfl
theorem Q14:Qf Tryz.prog Sx:=Qh λx h=>QUq x.1 x.2.1 h
end
end Go.Proofs.YtdplaepmjogjjaaGreat.Am

namespace Go.Proofs.YtdplaepmjogjjaaGreat.Am
open Go Go.RowKit Go.Proofs.YtdplaepmjogjjaaGreat
set_option linter.all false
noncomputable section
variable (K:aJ->Prop)
def Hb(t:Int):aJ:=cd (aO t)
def Hc:aP:=Qg 139 [(.a QM)] λx=>(some (oC x.1),Hb (Y5 x.1))
def SB:aN:=⟨[],false⟩
def QHC:af :=
 (ag [(ag [(.ae [ab 5 4,an 6 1 1,ar 7 6 1,bh 8 7,az 9 .lss 5 8]),(.cond 9 .skip (.exit 0))]),(.block 1 (.draw [ab 12 3,an 13 1 1,ar 14 13 1,ab 15 4,bn 16 14 15 Qm,an 17 16 1,ar 18 17 1,bh 19 18,an 20 1 1,ar 21 20 1,ab 22 4,bn 23 21 22 Qm,an 24 23 0,ar 25 24 1,aD 26 (.mm true (aw 0) 25),az 27 .sub 19 26,aD 28 (.mm true (aw 0) 27),az 29 .add 12 28,ab 3 29] [])),(.ae [ab 10 4,az 11 .add 10 (aw 1),ab 4 11])])
def QuA:List (Nat × Md):=[(1,.b (da 4)),(3,.one .d),(4,.one .d)]
def QE1:af :=
 (ag [(.ae [ab 30 3,ab 2 30]),.ret])
def QLt:af :=
 (ag [(.ae [aD 1 (.box 56 0 4),ab 2 (aw 0)]),(.ae [ab 3 (aw 0)]),(ag [(.ae [ab 4 (aw 0)]),(.block 0 (.loop QuA QHC))]),QE1])
def QH5:List (bw × Md):=[(.t 2,.one .d)]
def QC4:Qb:=TQ 0 0 QH5 K
def QOT:Qb:=ba (aU SB 0 QE1 (QC4 K)) (QC4 K)
def QNV:Qb:=bf 0 (QOT K)
def He(p:Ql)(n:Int)(s:Int):Prop:=Loop SB 0 QuA QHC (QNV K) ⟨[(1,(.p 0 0 0)),(3,(aO n)),(4,(aO s))],[(0,(.box (aV.cells QM p)))],1⟩
theorem QBo(p:Ql)(n:Int)(s:Int) (h :
 (aS (decide (s<((p.2.1).length:Int))) (((0<=s/\Int.toNat s<(p.2.1).length)/\(0<=s/\Int.toNat s<(p.2.1).length))/\(He K p (aI (n+(if(0:Int)<(aI ((((aq QE p.2.1 (Int.toNat s)).2.1).length:Int)-(if 0<((aq QE p.2.1 (Int.toNat s)).1) then((aq QE p.2.1 (Int.toNat s)).1) else(0:Int)))) then(aI ((((aq QE p.2.1 (Int.toNat s)).2.1).length:Int)-(if 0<((aq QE p.2.1 (Int.toNat s)).1) then((aq QE p.2.1 (Int.toNat s)).1) else(0:Int)))) else(0:Int)))) (aI (s+1)))) (K (Hb n)))):He K p n s :=
 Loop.of h
theorem QSl(p:Ql)(hp:oC p):aR Tryz.prog 139 [(.a (aV.cells QM p))] (Hb (Y5 p)):=by
 refine bD SB QLt QH5 0 0 31 Hc kn (λK =>
 (He K p 0 0)) (λhb=>?_)
 have fF:(p.1).length<=9223372036854775807:=hb.1.1.1;have fi:(p.2.1).length<=9223372036854775807:=hb.1.2.1.1;have gn:(p.2.2.1).length<=9223372036854775807:=hb.1.2.2.1.1;have gp:(p.2.2.2).length<=9223372036854775807:=hb.1.2.2.2.1.1;refine Zd p.2.1 (λr k=>∀ y:Int,aI (y+(r.map Jx).sum)=(Y5 p)->He (λr'=>r'=Hb (Y5 p)) p (aI y) k) ?_ ?_ 0 (by simp[Y5])
 ·intro y he;refine QBo _ _ _ _ ⟨λh=>by simp at h,λ_=>au ?_⟩;simpa using he
 ·intro k x r hk aY hg ih y he;have du:x∈p.2.1:=List.mem_of_mem_drop (i:=k) (by rw[hk];exact List.mem_cons_self);have js:x.2.1.length<=9223372036854775807:=(hb.1.2.1.2 x du).2.1.1;refine QBo _ _ _ _ ⟨λ_=>?_,λh=>by simp at h;omega⟩;rw[Int.toNat_natCast,hg,Qy (x:=(k:Int)+1) (by omega) (by omega),QV9 (hp x du) js,vW];refine⟨⟨⟨by omega,aY⟩,by omega,aY⟩,ih _ ?_⟩;rw[<- he,List.map_cons,List.sum_cons,Int.add_assoc]
theorem QGU:Qf Tryz.prog Hc:=Qh λx h=>QSl x.1 h
def Hf(t:Int):aJ:=cd (aO t)
def SC:aP:=Qg 216 [(.a QM)] λx=>(none,Hf (Y5 x.1))
def SD:aN:=⟨[],false⟩
def QIh:af :=
 (ag [(.ae [az 10 .lss 9 8]),(.cond 10 .skip (.exit 0)),(.block 1 (ag [(.ae [bn 11 7 9 Qm,aZ 12 11 14,aD 5 (.new 39 (bC Qm)),a8 5 12 14]),(.ae [ab 13 3,an 14 5 1,ar 15 14 1,bh 16 15,an 17 5 0,ar 18 17 1,aD 19 (.mm true 18 (aw 0)),an 20 5 1,ar 21 20 1,bh 22 21,aD 23 (.mm false 19 22),az 24 .sub 16 23,az 25 .add 13 24,ab 3 25])])),(.ae [az 26 .add 9 (aw 1),ab 9 26])])
def QIw:List (Nat × Md):=ij [3,7,8,9]
def QDb:af :=
 (ag [(.ae [ab 27 3,ab 2 27]),.ret])
def QJC:af :=
 (ag [(.ae [aD 1 (.box 56 0 4),ab 2 (aw 0)]),(.ae [ab 3 (aw 0)]),(ag [(.ae [an 6 1 1,ar 7 6 1,bh 8 7,ab 9 (aw 0)]),(.block 0 (.loop QIw QIh))]),QDb])
def QwW:List (bw × Md):=[(.t 2,.one .d)]
def QHR:Qb:=TQ 0 0 QwW K
def Q31:Qb:=ba (aU SD 0 QDb (QHR K)) (QHR K)
def QSe:Qb:=bf 0 (Q31 K)
def Hg(p:Ql)(n:Int)(x:Int):Prop:=Loop SD 0 QIw QIh (QSe K) ⟨[(3,(aO n)),(7,(bu Qm p.2.1)),(8,(aO ((p.2.1).length:Int))),(9,(aO x))],[],0⟩
theorem Qu0(p:Ql)(n:Int)(x:Int) (h :
 (aS (decide (x<((p.2.1).length:Int))) ((0<=x/\Int.toNat x<(p.2.1).length)/\(Hg K p (aI (n+(aI ((((aq QE p.2.1 (Int.toNat x)).2.1).length:Int)-(if(((aq QE p.2.1 (Int.toNat x)).2.1).length:Int)<(if((aq QE p.2.1 (Int.toNat x)).1)<0 then(0:Int) else((aq QE p.2.1 (Int.toNat x)).1)) then(((aq QE p.2.1 (Int.toNat x)).2.1).length:Int) else(if((aq QE p.2.1 (Int.toNat x)).1)<0 then(0:Int) else((aq QE p.2.1 (Int.toNat x)).1))))))) (aI (x+1)))) (K (Hf n)))):Hg K p n x :=
 Loop.of h
theorem QNy(p:Ql):aR Tryz.prog 216 [(.a (aV.cells QM p))] (Hf (Y5 p)):=by
 refine bD SD QJC QwW 0 0 28 SC kn (λK =>
 (Hg K p 0 0)) (λhb=>?_)
 have fF:(p.1).length<=9223372036854775807:=hb.1.1.1;have fi:(p.2.1).length<=9223372036854775807:=hb.1.2.1.1;have gn:(p.2.2.1).length<=9223372036854775807:=hb.1.2.2.1.1;have gp:(p.2.2.2).length<=9223372036854775807:=hb.1.2.2.2.1.1;refine Zd p.2.1 (λr k=>∀ y:Int,aI (y+(r.map Jx).sum)=(Y5 p)->Hg (λr'=>r'=Hf (Y5 p)) p (aI y) k) ?_ ?_ 0 (by simp[Y5])
 ·intro y he;refine Qu0 _ _ _ _ ⟨λh=>by simp at h,λ_=>au ?_⟩;simpa using he
 ·intro k x r hk aY hg ih y he;have du:x∈p.2.1:=List.mem_of_mem_drop (i:=k) (by rw[hk];exact List.mem_cons_self);have js:x.2.1.length<=9223372036854775807:=(hb.1.2.1.2 x du).2.1.1;refine Qu0 _ _ _ _ ⟨λ_=>?_,λh=>by simp at h;omega⟩;rw[Int.toNat_natCast,hg,Qy (x:=(k:Int)+1) (by omega) (by omega),Q25 js,vW];refine⟨⟨by omega,aY⟩,ih _ ?_⟩;rw[<- he,List.map_cons,List.sum_cons,Int.add_assoc]
theorem QUm:Qf Tryz.prog SC:=Qh λx _=>QNy x.1
def SE(t:Bool):aJ:=cd (bH t)
def Hh:aP:=Qg 141 [(.a QM)] λx=>(none,SE (YS x.1))
def Q1J:aN:=⟨[SC],false⟩
def QSd:af :=
 (ag [(.ae [aD 1 (.box 56 0 4),ab 2 (bm false)]),(.ae [an 3 1 1,ar 4 3 1,bh 5 4,az 6 .gtr 5 (aw 0),ab 7 6,.bj 7 true [aZ 8 1 4,aL 9 216 [8],az 10 .eql 9 (aw 0)] 11 10,ab 2 11]),.ret])
def Q3D:List (bw × Md):=[(.t 2,.one .d)]
theorem QR8(p:Ql):aR Tryz.prog 141 [(.a (aV.cells QM p))] (SE (YS p)):=by
 refine bD Q1J QSd Q3D 0 0 12 Hh (kc QUm kn) (λK =>
 K (SE ((decide (((p.2.1).length:Int)>0))&&((Y5 p)==0)))) (λhb=>?_)
 exact au (by simp[YS])
theorem Qwq:Qf Tryz.prog Hh:=Qh λx _=>QR8 x.1
def SF(t:Bool):aJ:=cd (bH t)
def SG:aP:=Qg 215 [(.a QM)] λx=>(some (oC x.1),SF (YS x.1))
def QPU:aN:=⟨[Hc],false⟩
def Q2l:af :=
 (ag [(.ae [aD 1 (.box 56 0 4),ab 2 (bm false)]),(.ae [an 3 1 1,ar 4 3 1,bh 5 4,az 6 .gtr 5 (aw 0),ab 7 6,.bj 7 true [aZ 8 1 4,aL 9 139 [8],az 10 .eql 9 (aw 0)] 11 10,ab 2 11]),.ret])
def Q3G:List (bw × Md):=[(.t 2,.one .d)]
theorem QO6(p:Ql)(hp:oC p):aR Tryz.prog 215 [(.a (aV.cells QM p))] (SF (YS p)):=by
 refine bD QPU Q2l Q3G 0 0 12 SG (kc QGU kn) (λK =>
 (((decide (((p.2.1).length:Int)>0))=true->(oC p))/\K (SF ((decide (((p.2.1).length:Int)>0))&&((Y5 p)==0))))) (λhb=>?_)
 exact⟨λ_=>hp,au (by simp[YS])⟩
theorem Q2e:Qf Tryz.prog SG:=Qh λx h=>QO6 x.1 h
end
end Go.Proofs.YtdplaepmjogjjaaGreat.Am

set_option linter.all false
namespace Go.Proofs.YtdplaepmjogjjaaGreat.Am
open Go Sz
theorem SH{c:QC}{b:List Qi}(A:ql c b){ks:Nat->Nat}(V:Ok c b ks):oC (QZ c b ks):=by
 intro s hs;have h:=Qz8 A V;simp only[Zz,Bool.and_eq_true]at h;have h1:=Rt (Rz h.2.2 s hs).1;obtain⟨t,ht,rfl⟩:=List.mem_map.1 hs;have ht:t<bG c:=List.mem_range.1 ht;have h2:(Qx (df c b t (ks t))).length=bV c b t:=rfl;have h3:=QAD A ht;have h4:b.length<=5:=by
  have:=A.batch;simp only[Z5,Bool.and_eq_true,QW]at this;omega
 show bT (df c b t (ks t))<=_;omega
end Go.Proofs.YtdplaepmjogjjaaGreat.Am
namespace Go.Proofs.YtdplaepmjogjjaaGreat.Am
open Go Sz
end Go.Proofs.YtdplaepmjogjjaaGreat.Am
namespace Go.Proofs.YtdplaepmjogjjaaGreat.Am
open Go Sz
section
variable {c:QC} {b:List Qi} (A:ql c b)
include A
end
end Go.Proofs.YtdplaepmjogjjaaGreat.Am

namespace Go.Proofs.YtdplaepmjogjjaaGreat.Am
open Go Go.RowKit Go.Proofs.YtdplaepmjogjjaaGreat
set_option linter.all false
set_option maxHeartbeats 2000000
noncomputable section
variable (K:aJ->Prop)
def Hi(t:Ql):aJ:=f0 (.a (aV.cells QM t))
def SI:aP:=Qg 51 [(.a QM),(.c TI)] λx=>(some (Ro x.1 x.2.1),Hi (Jv x.1 x.2.1))
def SJ:aN:=⟨[GV,Sx],false⟩
def QF5:af :=
 (ag [(ag [(.ae [ab 9 6,ab 10 1,az 11 .lss 9 10,ab 12 11,.bj 12 true [ab 13 6,az 14 .lss 13 (aw 2000)] 15 14,ab 16 15,.bj 16 true [an 17 2 1,ar 18 17 1,bh 19 18,az 20 .gtr 19 (aw 0)] 21 20]),(.cond 21 .skip (.exit 0))]),(.block 1 (.draw [aZ 24 5 4,ab 25 6,an 26 2 1,ar 27 26 1,bh 28 27,az 29 .rem 25 28,aL 30 49 [24,29],a8 5 30 4] [])),(.ae [ab 22 6,az 23 .add 22 (aw 1),ab 6 23])])
def QDL:List (Nat × Md):=[(1,.one .d),(2,.b (da 4)),(4,.b (da 4)),(5,.b (da 4)),(6,.one .d)]
def QCy:af :=
 (ag [(.ae [aZ 31 5 4,a8 4 31 4]),.ret])
def QOf:af :=
 (ag [(.ae [aD 2 (.box 56 0 4),aD 4 (.new 56 (bC QM))]),(.ae [aZ 7 2 4,aL 8 143 [7],aD 5 (.new 56 (bC QM)),a8 5 8 4]),(ag [(.ae [ab 6 (aw 0)]),(.block 0 (.loop QDL QF5))]),QCy])
def QCI:List (bw × Md):=[(.l 4 4 true,.b (da 4))]
def QAS:Qb:=TQ 0 0 QCI K
def Q2v:Qb:=ba (aU SJ 0 QCy (QAS K)) (QAS K)
def QZI:Qb:=bf 0 (Q2v K)
def Hj(p:Ql)(n:Int)(i:Int)(x0:List Qi)(x1:List Qc)(x2:List Qd)(x3:List Qd):Prop:=Loop SJ 0 QDL QF5 (QZI K) ⟨[(1,(aO n)),(2,(.p 0 0 0)),(4,(.p 1 0 0)),(5,(.p 2 0 0)),(6,(aO i))],[(0,(.box (aV.cells QM p))),(1,(.box (aV.cells QM ([],[],[],[])))),(2,(.box (aV.cells QM (x0,x1,x2,x3))))],3⟩
theorem SK(p:Ql)(n:Int)(i:Int)(x0:List Qi)(x1:List Qc)(x2:List Qd)(x3:List Qd) (h :
 (aS (((decide (i<n))&&(decide (i<2000)))&&(decide (((p.2.1).length:Int)>0))) (((¬ (((p.2.1).length:Int):Int)=0)/\(uT (x0,x1,x2,x3) (Int.tmod i ((p.2.1).length:Int))))/\(Hj K p n (aI (i+1)) ((ZU (x0,x1,x2,x3) (Int.tmod i ((p.2.1).length:Int))).1) (List.take (((ZU (x0,x1,x2,x3) (Int.tmod i ((p.2.1).length:Int))).2.1).length) (List.drop 0 ((ZU (x0,x1,x2,x3) (Int.tmod i ((p.2.1).length:Int))).2.1))) (List.take (((ZU (x0,x1,x2,x3) (Int.tmod i ((p.2.1).length:Int))).2.2.1).length) (List.drop 0 ((ZU (x0,x1,x2,x3) (Int.tmod i ((p.2.1).length:Int))).2.2.1))) ((ZU (x0,x1,x2,x3) (Int.tmod i ((p.2.1).length:Int))).2.2.2))) (K (Hi (x0,x1,x2,x3))))):Hj K p n i x0 x1 x2 x3 :=
 Loop.of h
theorem QKo(p:Ql)(n:Int)(hp:Ro p n):aR Tryz.prog 51 [(.a (aV.cells QM p)),(.c TI n)] (Hi (Jv p n)):=by
 refine bD SJ QOf QCI 0 0 32 SI (kc QDy (kc Q14 kn)) (λK =>
 ((QA (α:=Ql) p)/\(Hj K p n 0 ((id (α:=Ql) p).1) (List.take (((id (α:=Ql) p).2.1).length) (List.drop 0 ((id (α:=Ql) p).2.1))) (List.take (((id (α:=Ql) p).2.2.1).length) (List.drop 0 ((id (α:=Ql) p).2.2.1))) (List.take (((id (α:=Ql) p).2.2.2).length) (List.drop 0 ((id (α:=Ql) p).2.2.2)))))) (λhb=>?_)
 have iN:Sz.sz p<=536870912:=hp;simp only[id,List.drop_zero,List.take_length];refine⟨by unfold QA;omega,?_⟩;by_cases h0:0<p.2.1.length
 case neg =>
  refine SK _ _ _ _ _ _ _ _ ⟨λh=>by simp at h;omega,λ_=>au ?_⟩;unfold Jv;rw[if_neg h0]
 have hM:(Jv p n)=ZH 0 (min n.toNat 2000) p:=by unfold Jv;rw[if_pos h0]
 have key:∀(rem k:Nat)(q:Ql),k+rem=min n.toNat 2000->q.2.1.length=p.2.1.length->Sz.sz q<=536870912+100*k->ZH k rem q=(Jv p n)->Hj (λr'=>r'=Hi (Jv p n)) p n (k:Int) q.1 q.2.1 q.2.2.1 q.2.2.2:=by
  intro rem
  induction rem with
  | zero =>
   intro k q h1 h2 h3 he;refine SK _ _ _ _ _ _ _ _ ⟨λh=>by simp at h;omega,λ_=>au ?_⟩;exact he
  | succ rem ih =>
   intro k q h1 h2 h3 he;have xO:=QDN q (Int.tmod (k:Int) (q.2.1.length:Int));have hc:(decide ((k:Int)<n)&&decide ((k:Int)<2000)&&decide ((p.2.1.length:Int)>0))=true:=by simp only[Bool.and_eq_true,decide_eq_true_eq];omega
   refine SK _ _ _ _ _ _ _ _ ⟨λ_=>?_,λh=>absurd (hc.symm.trans h) (by simp)⟩
   try simp only[uc]
   rw[dv (by omega),<- h2];exact⟨⟨by omega,by unfold uT;show Sz.sz q<=_;omega⟩,ih (k+1) (ZU q (Int.tmod (k:Int) (q.2.1.length:Int))) (by omega) (by rw[<- h2];exact QYG q _) (by omega) he⟩
 exact key (min n.toNat 2000) 0 p (by omega) rfl (by omega) hM.symm
theorem QK5:Qf Tryz.prog SI:=Qh λx h=>QKo x.1 x.2.1 h
def BZ(t:QL):aJ:=⟨(.a [(.r [(.sl [TI])] 0 0 ((t.1).length)),(aO t.2.1),(bH t.2.2)]),[(.sl 106 [(.sl [TI])] (.dp 0 true []) t.1)],[],false,[]⟩
def SL:aP:=Qg 142 [(.a QM)] λx=>(some (xa x.1),BZ (YJ x.1))
def SM:aN:=⟨[Hh,wI],true⟩
def QE4:af :=
 (ag [(.ae [az 15 .lss 14 13]),(.cond 15 .skip (.exit 0)),(.block 1 (ag [(.ae [bn 16 12 14 Qm,aZ 17 16 14,aD 5 (.new 39 (bC Qm)),a8 5 17 14]),(.draw [an 18 3 0,ar 19 18 1,an 20 5 11,an 21 20 0,ar 22 21 1,aL 23 103 [22],aD 24 (.app 19 23 106 [(.sl [TI])]),an 25 3 0,a8 25 24 1] [(0,5),(1,5)]),(.ae [an 26 3 2,ar 27 26 1,ab 28 27,.bj 28 false [an 29 5 11,an 30 29 2,ar 31 30 1] 32 31,an 33 3 2,a8 33 32 1]),(.ae [an 34 5 11,an 35 34 1,ar 36 35 1,an 37 3 1,a8 37 36 1])])),(.ae [az 38 .add 14 (aw 1),ab 14 38])])
def QBg:List (Nat × Md):=[(2,.b [.f,.d,.d]),(3,.b [.p 106,.d,.d]),(12,.one .d),(13,.one .d),(14,.one .d)]
def Qz0:af :=
 (ag [(.ae [aZ 39 3 3,a8 2 39 3]),.ret])
def QOe:af :=
 (ag [(.ae [aD 1 (.box 56 0 4),aD 2 (.new 37 (bC Q2))]),(ag [(.ae [aZ 6 1 4,aL 7 141 [6],bL 8 7]),(.cond 8 (ag [(.ae [aD 9 (.build (bC Q2) []),a8 2 9 3]),.ret]) .skip)]),(.ae [aD 10 (.build (bC Q2) []),aD 3 (.new 37 (bC Q2)),a8 3 10 3]),(ag [(.ae [an 11 1 1,ar 12 11 1,bh 13 12,ab 14 (aw 0)]),(.block 0 (.loop QBg QE4))]),Qz0])
def Qy2:List (bw × Md):=[(.l 2 3 true,.b [.p 106,.d,.d])]
def QyD:Qb:=TQ 0 0 Qy2 K
def QLq:Qb:=ba (aU SM 0 Qz0 (QyD K)) (QyD K)
def QUs:Qb:=bf 0 (QLq K)
def Hk(p:Ql)(x:Int)(g0:List (List Int))(g1:Int)(g2:Bool):Prop:=Loop SM 0 QBg QE4 (QUs K) ⟨[(2,(.p 0 0 0)),(3,(.p 2 0 0)),(12,(bu Qm p.2.1)),(13,(aO ((p.2.1).length:Int))),(14,(aO x))],[(0,(.box [(.n [(.sl [TI])]),(aO 0),(bH false)])),(1,(.sl 106 [(.sl [TI])] (.dp 0 true []) g0)),(2,(.box [(.r [(.sl [TI])] 1 0 g0.length),(aO g1),(bH g2)]))],3⟩
theorem QFA(p:Ql)(x:Int)(g0:List (List Int))(g1:Int)(g2:Bool) (h :
 let z2:=aq QE p.2.1 (Int.toNat x)
 let z3:=id (α:=List (List Int)) (z2.2.2.2.2.2.2.2.2.2.2.2.1)
 let z1:=List.take (z3.length) (List.drop 0 z3)
 (aS (decide (x<((p.2.1).length:Int))) ((0<=x/\Int.toNat x<(p.2.1).length)/\(((QA (α:=List (List Int)) (z2.2.2.2.2.2.2.2.2.2.2.2.1))/\((g0.length=g0.length\/g0.length+z1.length<=g0.length)/\g0.length+z1.length<=bP))/\(Hk K p (aI (x+1)) (List.take (g0.length+z1.length) ((List.take g0.length g0)++z1)) (z2.2.2.2.2.2.2.2.2.2.2.2.2.1) (g2||(z2.2.2.2.2.2.2.2.2.2.2.2.2.2))))) (K (BZ ((List.take g0.length g0),g1,g2))))):Hk K p x g0 g1 g2 :=
 Loop.of h
theorem Q0R(p:Ql)(hp:xa p):aR Tryz.prog 142 [(.a (aV.cells QM p))] (BZ (YJ p)):=by
 refine bD SM QOe Qy2 0 0 40 SL (kc Qwq (kc Ek kn)) (λK =>
 (aS (!(YS p)) (K (BZ (([]:List (List Int)),(0:Int),false))) (Hk K p 0 ([]:List (List Int)) 0 false))) (λhb=>?_)
 obtain⟨iN,fT⟩:=hp;have hs:Sz.sz p=Sz.sz p.1+Sz.sz p.2.1+Sz.sz p.2.2.1+Sz.sz p.2.2.2:=qp p;have hl:=Yk p.2.1;refine⟨λh=>au ?_,λh=>?_⟩
 ·unfold YJ;rw[if_neg (by simpa using h)]
 have hM:(YJ p)=((Qu p).flatMap Qt,(((Qu p).map Qo).getLast?).getD 0,(Qu p).any bg):=by unfold YJ;rw[if_pos (by simpa using h)]
 refine Zd p.2.1 (λr k=>∀(g0:List (List Int))(g1:Int)(g2:Bool),g0.length+Sz.sz r<=Sz.sz p.2.1->(g0++r.flatMap Qt,((r.map Qo).getLast?).getD g1,g2||r.any bg)=(YJ p)->Hk (λr'=>r'=BZ (YJ p)) p (k:Int) g0 g1 g2) ?_ ?_ [] 0 false (by simp) (by rw[hM];simp)
 ·intro g0 g1 g2 hz he;refine QFA _ _ _ _ _ _ ⟨λh=>by simp at h,λ_=>au ?_⟩;rw[<- he,List.take_length];simp
 ·intro k x r hk aY hg ih g0 g1 g2 hz he;have hx:=Z3 x;have vv:=Yk (Qt x);simp only[YZ]at hz;refine QFA _ _ _ _ _ _ ⟨λ_=>?_,λh=>by simp at h;omega⟩;rw[Int.toNat_natCast,hg,dv (by omega)];simp only[id,uc];rw[Lx];refine⟨⟨by omega,aY⟩,⟨by unfold QA;((try simp only[bT,Qx,aM,Qn,Qq,Qe,Qz,sX,sY,sG,sD,Qt,Qo,bg,QB,Qu,Qv,Qw]at *);omega),by simp[QY];((try simp only[bT,Qx,aM,Qn,Qq,Qe,Qz,sX,sY,sG,sD,Qt,Qo,bg,QB,Qu,Qv,Qw]at *);omega)⟩,ih _ _ _ (by simp only[List.length_append];((try simp only[bT,Qx,aM,Qn,Qq,Qe,Qz,sX,sY,sG,sD,Qt,Qo,bg,QB,Qu,Qv,Qw]at *);omega)) ?_⟩;rw[<- he];refine Prod.ext (by simp) (Prod.ext ?_ (by simp[Bool.or_assoc]));show(((r.map Qo).getLast?).getD (Qo x))=((((x::r).map Qo).getLast?).getD g1)
  cases r with
  | nil=>rfl
  | cons y r=>simp[List.getLast?_cons_cons,List.getLast?_cons]
theorem QNm:Qf Tryz.prog SL:=Qh λx h=>Q0R x.1 h
def xt(t:QL × Int):aJ:=⟨(.tp [(.a [(.r [(.sl [TI])] 0 0 ((t.1.1).length)),(aO t.1.2.1),(bH t.1.2.2)]),(aO t.2)]),[(.sl 106 [(.sl [TI])] (.dp 0 true []) t.1.1)],[],false,[]⟩
def SN:aP:=Qg 45 [(.a Q5),(.c (.sl Qp))] λx=>(none,xt (Yi x.1 x.2.1))
def SO:aN:=⟨[Eb,Ss,Hh,Sw,SL],true⟩
def QCG:af :=
 (ag [(ag [(.ae [ab 19 8,az 20 .lss 19 (aw 2000),ab 21 20,.bj 21 true [aZ 22 7 4,aL 23 141 [22],bL 24 23] 25 24]),(.cond 25 .skip (.exit 0))]),(.block 1 (.draw [aZ 28 7 4,ab 29 8,an 30 7 1,ar 31 30 1,bh 32 31,az 33 .rem 29 32,aL 34 50 [28,33],a8 7 34 4] [])),(.ae [ab 26 8,az 27 .add 26 (aw 1),ab 8 27])])
def QAm:List (Nat × Md):=[(4,.b [.f,.d,.d]),(7,.b [.f,.f,.f,.f]),(8,.one .d)]
def Qxt:af :=
 (ag [(.ae [aZ 35 7 4,aL 36 142 [35],a8 4 36 3,ab 5 (aw 0)]),.ret])
def QQV:af :=
 (ag [(.ae [aD 2 (.box 79 0 6),aD 4 (.new 37 (bC Q2)),ab 5 (aw 0)]),(.ae [aZ 9 2 6,ab 10 1,aL 11 125 [9,10],ab 6 11]),(ag [(.ae [ab 12 6,az 13 .neq 12 (aw 0)]),(.cond 13 (ag [(.ae [aD 14 (.build (bC Q2) []),ab 15 6,a8 4 14 3,ab 5 15]),.ret]) .skip)]),(.ae [aZ 16 2 6,ab 17 1,aL 18 38 [16,17],aD 7 (.new 56 (bC QM)),a8 7 18 4]),(ag [(.ae [ab 8 (aw 0)]),(.block 0 (.loop QAm QCG))]),Qxt])
def QCm:List (bw × Md):=[(.l 4 3 true,.b [.p 106,.d,.d]),(.t 5,.one .d)]
def QGx:Qb:=TQ 0 0 QCm K
def QKF:Qb:=ba (aU SO 0 Qxt (QGx K)) (QGx K)
def Q1o:Qb:=bf 0 (QKF K)
def B2(i:Int)(p0:List Qi)(p1:List Qc)(p2:List Qd)(p3:List Qd):Prop:=Loop SO 0 QAm QCG (Q1o K) ⟨[(4,(.p 0 0 0)),(7,(.p 5 0 0)),(8,(aO i))],[(0,(.box [(.n [(.sl [TI])]),(aO 0),(bH false)])),(1,(.sl 154 Qp (.dp 0 true []) p0)),(2,(.sl 39 Qm (.dp 0 true []) p1)),(3,(.sl 161 Qj (.dp 0 true []) p2)),(4,(.sl 161 Qj (.dp 0 true []) p3)),(5,(.box [(.r Qp 1 0 p0.length),(.r Qm 2 0 p1.length),(.r Qj 3 0 p2.length),(.r Qj 4 0 p3.length)]))],6⟩
theorem SP(i:Int)(p0:List Qi)(p1:List Qc)(p2:List Qd)(p3:List Qd) (h :
 let z3:=List.take p0.length (List.drop 0 p0)
 let z4:=List.take p1.length (List.drop 0 p1)
 let z5:=List.take p2.length (List.drop 0 p2)
 let z6:=List.take p3.length (List.drop 0 p3)
 let z1:=ZU (z3,z4,z5,z6) (Int.tmod i ((p1.length:Nat):Int))
 let z2:=YJ (z3,z4,z5,z6)
 (aS ((decide (i<2000))&&(!(YS (z3,z4,z5,z6)))) (((¬ (((p1.length:Nat):Int):Int)=0)/\(uT (z3,z4,z5,z6) (Int.tmod i ((p1.length:Nat):Int))))/\(B2 K (aI (i+1)) (List.take ((z1.1).length) (z1.1)) (List.take ((z1.2.1).length) (z1.2.1)) (List.take ((z1.2.2.1).length) (z1.2.2.1)) (List.take ((z1.2.2.2).length) (z1.2.2.2)))) ((xa (z3,z4,z5,z6))/\K (xt (((List.take ((z2.1).length) (z2.1)),z2.2.1,z2.2.2),(0:Int)))))):B2 K i p0 p1 p2 p3 :=
 Loop.of h
theorem QSg(c:QC)(b:List Qi):aR Tryz.prog 45 [(.a (aV.cells Q5 c)),(.c (.sl Qp) b)] (xt (Yi c b)):=by
 refine bD SO QQV QCm 0 0 37 SN (kc Qyf (kc QXC (kc Qwq (kc QVP (kc QNm kn))))) (λK =>
 (aS ((Zp c b) != 0) (K (xt ((([]:List (List Int)),(0:Int),false),(Zp c b)))) (B2 K 0 (List.take (((Ze c b).1).length) ((Ze c b).1)) (List.take (((Ze c b).2.1).length) ((Ze c b).2.1)) (List.take (((Ze c b).2.2.1).length) ((Ze c b).2.2.1)) (List.take (((Ze c b).2.2.2).length) ((Ze c b).2.2.2))))) (λhb=>?_)
 refine⟨λh=>au ?_,λh=>?_⟩
 ·unfold Yi;rw[if_neg (by simpa using h)]
 have h0:Zp c b=0:=by simpa using h
 have A:=Be h0;have hM:(Yi c b)=(oE (Q8 c) b,0):=by unfold Yi;rw[if_pos h0,h0]
 have ft:=Qwg A;have V0:=QCg A;have b7:=QtK c b;have kM:=nG A;have nZ:∀ k:Nat,∃ ks,Ok c b ks/\ZH 0 k (Ze c b)=QZ c b ks:=by
  intro k;obtain⟨ks,h1,h2,_⟩:=w8 A k 0 V0;exact⟨ks,h1,by rw[ft,h2]⟩
 have hsn:∀ k:Nat,ZH 0 (k+1) (Ze c b)=ZU (ZH 0 k (Ze c b)) (Int.tmod (k:Int) (ZH 0 k (Ze c b)).2.1.length):=by
  intro k;rw[Rl k 0 1,Nat.zero_add];rfl
 have mW:∀ q:Ql,(∃ ks,Ok c b ks/\q=QZ c b ks)->YS q=true->YJ q=oE (Q8 c) b:=by
  rintro q ⟨ks,cC,rfl⟩ hd
  rw[Rk A cC,decide_eq_true_eq]at hd;rw[QDJ A cC hd];exact QuU A
 obtain⟨N,hN⟩:∃ N:Nat,N=2000:=⟨_,rfl⟩
 have kV:YS (ZH 0 N (Ze c b))=true:=by
  have hL:=Ri A (ks:=λ_=>0);have hmul:bG c*left c b (λ_=>0)<=4*144:=Nat.mul_le_mul kM.2 hL;obtain⟨ks,h1,h2,h3⟩:=QHO A (left c b (λ_=>0)) N 0 V0 (Nat.le_refl _) (by omega);rw[ft,h2,Rk A h1,h3];rfl
 have fq:∀ k:Nat,k<=N->Sz.sz (ZH 0 k (Ze c b))<=1000000:=by
  intro k hk;have:=Rw k 0 (Ze c b);omega
 have fT:∀ k:Nat,oC (ZH 0 k (Ze c b)):=by
  intro k;obtain⟨ks,h1,h2⟩:=nZ k;rw[h2];exact SH A h1
 have hlen:∀ k:Nat,(ZH 0 k (Ze c b)).2.1.length=bG c:=by
  intro k;obtain⟨ks,_,h2⟩:=nZ k;rw[h2];exact rU ks
 have key:B2 (λr'=>r'=xt (Yi c b)) ((0:Nat):Int) ((ZH 0 0 (Ze c b)).1) ((ZH 0 0 (Ze c b)).2.1) ((ZH 0 0 (Ze c b)).2.2.1) ((ZH 0 0 (Ze c b)).2.2.2):=by
  refine JN N (λk=>B2 (λr'=>r'=xt (Yi c b)) (k:Int) ((ZH 0 k (Ze c b)).1) ((ZH 0 k (Ze c b)).2.1) ((ZH 0 k (Ze c b)).2.2.1) ((ZH 0 k (Ze c b)).2.2.2)) ?_ ?_
  ·have h1:=fq N (Nat.le_refl _);have h2:=mW _ (nZ N) kV;have h4:=fT N;generalize ZH 0 N (Ze c b)=q at h1 h2 h4;refine SP _ _ _ _ _ _ ?_
   conv=>zeta
   simp only[List.drop_zero,List.take_length];refine⟨λh=>by simp at h;omega,λ_=>⟨⟨show Sz.sz q<=_ by omega,h4⟩,au ?_⟩⟩;rw[hM];exact Prod.ext h2 rfl
  ·intro k hk ih;have h1:=fq k (by omega);have h2:=mW _ (nZ k);have h3:=hlen k;have h4:=fT k;rw[hsn]at ih;generalize ZH 0 k (Ze c b)=q at h1 h2 h3 h4 ih;by_cases hd:YS q=true
   ·refine SP _ _ _ _ _ _ ?_
    conv=>zeta
    simp only[List.drop_zero,List.take_length];refine⟨λh=>?_,λ_=>⟨⟨show Sz.sz q<=_ by omega,h4⟩,au ?_⟩⟩
    ·have h:(decide ((k:Int)<2000)&&!YS q)=true:=h;rw[hd]at h;simp at h
    ·rw[hM];exact Prod.ext (h2 hd) rfl
   ·have hd:YS q=false:=by simpa using hd
    refine SP _ _ _ _ _ _ ?_
    conv=>zeta
    simp only[List.drop_zero,List.take_length];refine⟨λ_=>⟨⟨by omega,show Sz.sz q<=_ by omega⟩,?_⟩,λh=>?_⟩
    ·rw[dv (by omega)];exact ih
    ·have h:(decide ((k:Int)<2000)&&!YS q)=false:=h;rw[hd]at h;simp at h;omega
 simp only[List.take_length];exact key
theorem Q00:Qf Tryz.prog SN:=Qh λx _=>QSg x.1 x.2.1
def B3(t:QL):aJ:=f0 (.a (aV.cells Q2 t))
def SQ:aP:=Qg 140 [(.a QM)] λx=>(some (xa x.1),B3 (YJ x.1))
def SR:aN:=⟨[SG,Eo],false⟩
def QGZ:af :=
 (ag [(ag [(.ae [ab 10 4,an 11 1 1,ar 12 11 1,bh 13 12,az 14 .lss 10 13]),(.cond 14 .skip (.exit 0))]),(.block 1 (ag [(.draw [an 17 3 0,ar 18 17 1,an 19 1 1,ar 20 19 1,ab 21 4,bn 22 20 21 Qm,an 23 22 11,an 24 23 0,ar 25 24 1,aL 26 156 [25],aD 27 (.app 18 26 106 [(.sl [TI])]),an 28 3 0,a8 28 27 1] [(0,9),(1,9)]),(.ae [an 29 3 2,ar 30 29 1,ab 31 30,.bj 31 false [an 32 1 1,ar 33 32 1,ab 34 4,bn 35 33 34 Qm,an 36 35 11,an 37 36 2,ar 38 37 1] 39 38,an 40 3 2,a8 40 39 1]),(.ae [an 41 1 1,ar 42 41 1,ab 43 4,bn 44 42 43 Qm,an 45 44 11,an 46 45 1,ar 47 46 1,an 48 3 1,a8 48 47 1])])),(.ae [ab 15 4,az 16 .add 15 (aw 1),ab 4 16])])
def QvC:List (Nat × Md):=[(1,.b (da 4)),(2,.b [.d,.d,.d]),(3,.b [.o 106,.d,.d]),(4,.one .d)]
def QDA:af :=
 (ag [(.ae [aZ 49 3 3,a8 2 49 3]),.ret])
def Q0M:af :=
 (ag [(.ae [aD 1 (.box 56 0 4),aD 2 (.new 37 (bC Q2))]),(.ae [aD 5 (.build (bC Q2) []),aD 3 (.new 37 (bC Q2)),a8 3 5 3]),(ag [(.ae [aZ 6 1 4,aL 7 215 [6],bL 8 7]),(.cond 8 (ag [(.ae [aZ 9 3 3,a8 2 9 3]),.ret]) .skip)]),(ag [(.ae [ab 4 (aw 0)]),(.block 0 (.loop QvC QGZ))]),QDA])
def QAa:List (bw × Md):=[(.l 2 3 true,.b [.d,.d,.d])]
def QBW:Qb:=TQ 0 0 QAa K
def Q3T:Qb:=ba (aU SR 0 QDA (QBW K)) (QBW K)
def QTZ:Qb:=bf 0 (Q3T K)
def Hl(p:Ql)(s:Int)(g0:List (List Int))(g1:Int)(g2:Bool):Prop:=Loop SR 0 QvC QGZ (QTZ K) ⟨[(1,(.p 0 0 0)),(2,(.p 1 0 0)),(3,(.p 3 0 0)),(4,(aO s))],[(0,(.box (aV.cells QM p))),(1,(.box (aV.cells Q2 ([],(0:Int),false)))),(2,(.sl 106 [(.sl [TI])] .ow g0)),(3,(.box [(.r [(.sl [TI])] 2 0 g0.length),(aO g1),(bH g2)]))],4⟩
theorem Qyr(p:Ql)(s:Int)(g0:List (List Int))(g1:Int)(g2:Bool) (h :
 (aS (decide (s<((p.2.1).length:Int))) (((0<=s/\Int.toNat s<(p.2.1).length)/\((QA (α:=List (List Int)) ((aq QE p.2.1 (Int.toNat s)).2.2.2.2.2.2.2.2.2.2.2.1))/\((g0.length=g0.length\/g0.length+(id (α:=List (List Int)) ((aq QE p.2.1 (Int.toNat s)).2.2.2.2.2.2.2.2.2.2.2.1)).length<=g0.length)/\g0.length+(id (α:=List (List Int)) ((aq QE p.2.1 (Int.toNat s)).2.2.2.2.2.2.2.2.2.2.2.1)).length<=bP)))/\(((!g2)=true->(0<=s/\Int.toNat s<(p.2.1).length))/\((0<=s/\Int.toNat s<(p.2.1).length)/\(Hl K p (aI (s+1)) (List.take (g0.length+(id (α:=List (List Int)) ((aq QE p.2.1 (Int.toNat s)).2.2.2.2.2.2.2.2.2.2.2.1)).length) ((List.take g0.length g0)++(id (α:=List (List Int)) ((aq QE p.2.1 (Int.toNat s)).2.2.2.2.2.2.2.2.2.2.2.1)))) ((aq QE p.2.1 (Int.toNat s)).2.2.2.2.2.2.2.2.2.2.2.2.1) (g2||((aq QE p.2.1 (Int.toNat s)).2.2.2.2.2.2.2.2.2.2.2.2.2)))))) (K (B3 ((List.take g0.length (List.drop 0 g0)),g1,g2))))):Hl K p s g0 g1 g2 :=
 Loop.of h
theorem QYz(p:Ql)(hp:xa p):aR Tryz.prog 140 [(.a (aV.cells QM p))] (B3 (YJ p)):=by
 refine bD SR Q0M QAa 0 0 50 SQ (kc Q2e (kc QEO kn)) (λK =>
 ((oC p)/\(aS (!(YS p)) (K (B3 ([],(0:Int),false))) (Hl K p 0 ([]:List (List Int)) 0 false)))) (λhb=>?_)
 obtain⟨iN,fT⟩:=hp;have hs:Sz.sz p=Sz.sz p.1+Sz.sz p.2.1+Sz.sz p.2.2.1+Sz.sz p.2.2.2:=qp p;have hl:=Yk p.2.1;refine⟨fT,λh=>au ?_,λh=>?_⟩
 ·unfold YJ;rw[if_neg (by simpa using h)]
 have hM:(YJ p)=((Qu p).flatMap Qt,(((Qu p).map Qo).getLast?).getD 0,(Qu p).any bg):=by unfold YJ;rw[if_pos (by simpa using h)]
 refine Zd p.2.1 (λr k=>∀(g0:List (List Int))(g1:Int)(g2:Bool),g0.length+Sz.sz r<=Sz.sz p.2.1->(g0++r.flatMap Qt,((r.map Qo).getLast?).getD g1,g2||r.any bg)=(YJ p)->Hl (λr'=>r'=B3 (YJ p)) p (k:Int) g0 g1 g2) ?_ ?_ [] 0 false (by simp) (by rw[hM];simp)
 ·intro g0 g1 g2 hz he;refine Qyr _ _ _ _ _ _ ⟨λh=>by simp at h,λ_=>au ?_⟩;rw[<- he,uc];simp
 ·intro k x r hk aY hg ih g0 g1 g2 hz he;have hx:=Z3 x;have vv:=Yk (Qt x);simp only[YZ]at hz;refine Qyr _ _ _ _ _ _ ⟨λ_=>?_,λh=>by simp at h;omega⟩;rw[Int.toNat_natCast,hg,dv (by omega)];simp only[id];rw[Lx];refine⟨⟨⟨by omega,aY⟩,by unfold QA;((try simp only[bT,Qx,aM,Qn,Qq,Qe,Qz,sX,sY,sG,sD,Qt,Qo,bg,QB,Qu,Qv,Qw]at *);omega),by simp[QY];((try simp only[bT,Qx,aM,Qn,Qq,Qe,Qz,sX,sY,sG,sD,Qt,Qo,bg,QB,Qu,Qv,Qw]at *);omega)⟩,λ_=>⟨by omega,aY⟩,⟨by omega,aY⟩,ih _ _ _ (by simp only[List.length_append];((try simp only[bT,Qx,aM,Qn,Qq,Qe,Qz,sX,sY,sG,sD,Qt,Qo,bg,QB,Qu,Qv,Qw]at *);omega)) ?_⟩;rw[<- he];refine Prod.ext (by simp) (Prod.ext ?_ (by simp[Bool.or_assoc]));show(((r.map Qo).getLast?).getD (Qo x))=((((x::r).map Qo).getLast?).getD g1)
  cases r with
  | nil=>rfl
  | cons y r=>simp[List.getLast?_cons_cons,List.getLast?_cons]
theorem QWa:Qf Tryz.prog SQ:=Qh λx h=>QYz x.1 h
def B4(t:QL × Int):aJ:=f0 (.tp [(.a (aV.cells Q2 t.1)),(aO t.2)])
def SS:aP:=Qg 44 [(.a Q5),(.c (.sl Qp))] λx=>(none,B4 (Yi x.1 x.2.1))
def SU:aN:=⟨[Ec,Su,Hc,SI,SQ],false⟩
def QA1:af :=
 (ag [(ag [(.ae [aZ 18 7 4,aL 19 139 [18],az 20 .gtr 19 (aw 0)]),(.cond 20 .skip (.exit 0))]),(.block 1 (.ae [aZ 21 7 4,an 22 7 1,ar 23 22 1,bh 24 23,aL 25 51 [21,24],a8 7 25 4]))])
def QHb:List (Nat × Md):=[(4,.b [.d,.d,.d]),(6,.one .d),(7,.b (da 4))]
def Qu9:af :=
 (ag [(.ae [aZ 26 7 4,aL 27 140 [26],ab 28 6,a8 4 27 3,ab 5 28]),.ret])
def QRc:af :=
 (ag [(.ae [aD 2 (.box 79 0 6),aD 4 (.new 37 (bC Q2)),ab 5 (aw 0)]),(.ae [aZ 8 2 6,ab 9 1,aL 10 117 [8,9],ab 6 10]),(ag [(.ae [ab 11 6,az 12 .neq 11 (aw 0)]),(.cond 12 (ag [(.ae [aD 13 (.build (bC Q2) []),ab 14 6,a8 4 13 3,ab 5 14]),.ret]) .skip)]),(.ae [aZ 15 2 6,ab 16 1,aL 17 35 [15,16],aD 7 (.new 56 (bC QM)),a8 7 17 4]),(.block 0 (.loop QHb QA1)),Qu9])
def QIm:List (bw × Md):=[(.l 4 3 true,.b [.d,.d,.d]),(.t 5,.one .d)]
def Qyd:Qb:=TQ 0 0 QIm K
def QSV:Qb:=ba (aU SU 0 Qu9 (Qyd K)) (Qyd K)
def Q0q:Qb:=bf 0 (QSV K)
def Hm(c:QC)(b:List Qi)(p0:List Qi)(p1:List Qc)(p2:List Qd)(p3:List Qd):Prop:=Loop SU 0 QHb QA1 (Q0q K) ⟨[(4,(.p 0 0 0)),(6,(aO (Zp c b))),(7,(.p 1 0 0))],[(0,(.box (aV.cells Q2 ([],(0:Int),false)))),(1,(.box (aV.cells QM (p0,p1,p2,p3))))],2⟩
theorem QIl(c:QC)(b:List Qi)(p0:List Qi)(p1:List Qc)(p2:List Qd)(p3:List Qd) (h :
 ((oC (p0,p1,p2,p3))/\(aS (decide ((Y5 (p0,p1,p2,p3))>0)) ((Ro (p0,p1,p2,p3) (p1.length:Int))/\(Hm K c b ((Jv (p0,p1,p2,p3) (p1.length:Int)).1) ((Jv (p0,p1,p2,p3) (p1.length:Int)).2.1) ((Jv (p0,p1,p2,p3) (p1.length:Int)).2.2.1) ((Jv (p0,p1,p2,p3) (p1.length:Int)).2.2.2))) ((xa (p0,p1,p2,p3))/\K (B4 ((YJ (p0,p1,p2,p3)),(Zp c b))))))):Hm K c b p0 p1 p2 p3 :=
 Loop.of h
theorem QMA(c:QC)(b:List Qi):aR Tryz.prog 44 [(.a (aV.cells Q5 c)),(.c (.sl Qp) b)] (B4 (Yi c b)):=by
 refine bD SU QRc QIm 0 0 29 SS (kc QGG (kc Q0D (kc QGU (kc QK5 (kc QWa kn))))) (λK =>
 (aS ((Zp c b) != 0) (K (B4 (([],(0:Int),false),(Zp c b)))) (Hm K c b ((Ze c b).1) (List.take (((Ze c b).2.1).length) (List.drop 0 ((Ze c b).2.1))) (List.take (((Ze c b).2.2.1).length) (List.drop 0 ((Ze c b).2.2.1))) ((Ze c b).2.2.2)))) (λhb=>?_)
 refine⟨λh=>au ?_,λh=>?_⟩
 ·unfold Yi;rw[if_neg (by simpa using h)]
 have h0:Zp c b=0:=by simpa using h
 have A:=Be h0;have hM:(Yi c b)=(oE (Q8 c) b,Zp c b):=by unfold Yi;rw[if_pos h0]
 have ft:=Qwg A;have V0:=QCg A;have b7:=QtK c b;have kM:=nG A;have key:∀(L:Nat)(ks:Nat->Nat),Ok c b ks->left c b ks<=L->L<=144->Sz.sz (QZ c b ks)<=10000+200000*(144-L)->Hm (λr'=>r'=B4 (Yi c b)) c b ((QZ c b ks).1) ((QZ c b ks).2.1) ((QZ c b ks).2.2.1) ((QZ c b ks).2.2.2):=by
  intro L
  induction L with
  | zero =>
   intro ks V hl hL hz;have e1:=Rj A V;have e2:YJ (QZ c b ks)=oE (Q8 c) b:=by rw[QDJ A V (by omega)];exact QuU A
   have e3:=SH A V;generalize QZ c b ks=q at e1 e2 e3 hz;refine QIl _ _ _ _ _ _ _ ⟨e3,λh=>?_,λ_=>⟨⟨show Sz.sz q<=_ by omega,e3⟩,au ?_⟩⟩
   ·have h:decide (Y5 q>0)=true:=h;simp at h;omega
   ·rw[hM];exact Prod.ext e2 rfl
  | succ L ih =>
   intro ks V hl hL hz;have e1:=Rj A V;have e3:=SH A V;by_cases h0:left c b ks=0
   ·exact ih ks V (by omega) (by omega) (by omega)
   ·obtain⟨iG,V',hr,_,aY⟩:=QwN A V 0 h0;have hlen:=rU (c:=c) (b:=b) ks;have e4:Jv (QZ c b ks) ((QZ c b ks).2.1.length:Int)=QZ c b iG:=by
     rw[show(QZ c b ks).2.1.length=bG c from hlen];unfold Jv;rw[if_pos (by rw[hlen];omega),Int.toNat_natCast,Nat.min_eq_left (by omega)];exact hr
    have pk:=Q3Z (QZ c b ks) ((QZ c b ks).2.1.length:Int);rw[e4]at pk;have SV:=ih iG V' (by omega) (by omega) (by omega);rw[<- e4]at SV;generalize QZ c b ks=q at e1 e3 hz SV;refine QIl _ _ _ _ _ _ _ ⟨e3,λ_=>⟨show Sz.sz q<=_ by omega,SV⟩,λh=>?_⟩;have h:decide (Y5 q>0)=false:=h;simp at h;omega
 have hk:=key 144 (λ_=>0) V0 (Ri A) (Nat.le_refl _) (by rw[<- ft];omega);rw[<- ft]at hk;simp only[List.drop_zero,List.take_length];exact hk
theorem Q32:Qf Tryz.prog SS:=Qh λx _=>QMA x.1 x.2.1
end
end Go.Proofs.YtdplaepmjogjjaaGreat.Am

namespace Go.Proofs.YtdplaepmjogjjaaGreat.Am
open Go Go.RowKit Go.Proofs.YtdplaepmjogjjaaGreat
set_option linter.all false
noncomputable section
variable (K:aJ->Prop)
def xu(t:Int × (List Int)):aJ:=⟨(aO t.1),[],[],true,[(.sl 0 [TI] (.dp 0 false []) t.2)]⟩
def xw:aP:=Qg 26 [(.d [TI]),(.c TI)] λx=>(none,xu (Zu (α:=List Int) x.1 x.2.1))
def SW:aN:=⟨[],true⟩
def QAg:af :=
 (ag [(ag [(.ae [ab 6 5,ab 7 0,bh 8 7,az 9 .lss 6 8]),(.cond 9 .skip (.exit 0))]),(.block 1 (ag [(.ae [ab 12 0,ab 13 5,ab 14 1,bn 15 12 13 [TI],a8 15 14 1]),(.ae [ab 16 1,az 17 .add 16 (aw 1),ab 1 17])])),(.ae [ab 10 5,az 11 .add 10 (aw 1),ab 5 11])])
def Qv2:List (Nat × Md):=[(0,.one .f),(1,.one .d),(5,.one .d)]
def QvT:af :=
 (ag [(.ae [ab 18 1,ab 4 18]),.ret])
def QKU:af :=
 (ag [(.ae [ab 4 (aw 0)]),(ag [(.ae [ab 5 (aw 0)]),(.block 0 (.loop Qv2 QAg))]),QvT])
def QBa:List (bw × Md):=[(.t 4,.one .d)]
def Qx8:Qb:=TQ 0 1 QBa K
def QZq:Qb:=ba (aU SW 1 QvT (Qx8 K)) (Qx8 K)
def QWk:Qb:=bf 0 (QZq K)
def Hn(a:List Int)(k1:Int)(i:Int)(a1:List Int):Prop:=Loop SW 1 Qv2 QAg (QWk K) ⟨[(0,(.r [TI] 0 0 a.length)),(1,(aO k1)),(5,(aO i))],[(0,(.sl 0 [TI] (.dp 0 false []) a1))],1⟩
theorem QGN(a:List Int)(k1:Int)(i:Int)(a1:List Int) (h :
 (aS (decide (i<((a.length:Nat):Int))) (((0<=i/\Int.toNat i<a.length)/\((0+(Int.toNat i))<a1.length))/\(Hn K a (aI (k1+1)) (aI (i+1)) ((a1).set (0+(Int.toNat i)) k1))) (K (xu (k1,a1))))):Hn K a k1 i a1 :=
 Loop.of h
theorem QNf(a:List Int)(k:Int):aR Tryz.prog 26 [(.ow 0 [TI] dw a),(.c TI k)] (xu (Zu (α:=List Int) a k)):=by
 refine bD SW QKU QBa 0 1 19 xw kn (λK =>
 (Hn K a k 0 a)) (λhb=>?_)
 have lX:a.length<=9223372036854775807:=hb.1.1;refine zX (A:=λkk ii ll=>Hn (λr'=>r'=xu (Zu (α:=List Int) a k)) a kk ii ll) (Q:=λz=>xu z=xu (Zu (α:=List Int) a k)) a k ?_ ?_ rfl
 ·intro kk pre post x hl hA;have aY:pre.length<a.length:=by omega
  have hw:aI (((pre.length:Nat):Int)+1)=((pre.length+1:Nat):Int):=by rw[Qy (by omega) (by omega)];omega
  refine QGN _ _ _ _ _ ?_;refine⟨λ_=>?_,λh=>absurd h (by simp;omega)⟩;simp only[Int.toNat_natCast,Nat.zero_add,zU,zV,p7,zT,hw,np,aY,ud,and_true,true_and,Int.natCast_nonneg];exact hA
 ·intro kk l hl hq;refine QGN _ _ _ _ _ ?_;exact⟨λh=>absurd h (by simp),λ_=>hq⟩
theorem Ho:Qf Tryz.prog xw:=Qh λx _=>QNf x.1 x.2.1
def u0(t:Int):aJ:=cd (aO t)
def SX:aP:=Qg 27 [(.c (.sl [TI])),(.c TI)] λx=>(some (Jt (α:=List Int) x.1 x.2.1),u0 (cF (α:=List Int) x.1 x.2.1))
def SY:aN:=⟨[],false⟩
def QC6:af :=
 (ag [(ag [(.ae [ab 6 5,ab 7 0,bh 8 7,az 9 .lss 6 8]),(.cond 9 .skip (.exit 0))]),(.block 1 (ag [(ag [(.ae [ab 12 0,ab 13 5,bn 14 12 13 [TI],ar 15 14 1,ab 16 1,az 17 .neq 15 16]),(.cond 17 (ag [(.ae [ab 4 (aw (-1))]),.ret]) .skip)]),(.ae [ab 18 1,az 19 .add 18 (aw 1),ab 1 19])])),(.ae [ab 10 5,az 11 .add 10 (aw 1),ab 5 11])])
def QxX:List (Nat × Md):=ij [0,1,5]
def QCv:af :=
 (ag [(.ae [ab 20 1,ab 4 20]),.ret])
def Q1q:af :=
 (ag [(.ae [ab 4 (aw 0)]),(ag [(.ae [ab 5 (aw 0)]),(.block 0 (.loop QxX QC6))]),QCv])
def Qxr:List (bw × Md):=[(.t 4,.one .d)]
def QwU:Qb:=TQ 0 0 Qxr K
def Q4l:Qb:=ba (aU SY 0 QCv (QwU K)) (QwU K)
def QUP:Qb:=bf 0 (Q4l K)
def Hp(a:List Int)(k1:Int)(i:Int):Prop:=Loop SY 0 QxX QC6 (QUP K) ⟨[(0,(bu [TI] a)),(1,(aO k1)),(5,(aO i))],[],0⟩
theorem QFC(a:List Int)(k1:Int)(i:Int) (h :
 (aS (decide (i<(a.length:Int))) ((0<=i/\Int.toNat i<a.length)/\(aS ((aq (0:Int) a (Int.toNat i)) != k1) (K (u0 (-1:Int))) (Hp K a (aI (k1+1)) (aI (i+1))))) (K (u0 k1)))):Hp K a k1 i :=
 Loop.of h
theorem Q0x(a:List Int)(k:Int)(hp:Jt (α:=List Int) a k):aR Tryz.prog 27 [(.c (.sl [TI]) a),(.c TI k)] (u0 (cF (α:=List Int) a k)):=by
 refine bD SY Q1q Qxr 0 0 21 SX kn (λK =>
 (Hp K a k 0)) (λhb=>?_)
 have lX:a.length<=9223372036854775807:=hb.1.1;refine XO (A:=λkk ii=>Hp (λr'=>r'=u0 (cF (α:=List Int) a k)) a kk ii) (Q:=λz=>u0 z=u0 (cF (α:=List Int) a k)) a k hp ?_ ?_ rfl
 ·intro kk pre post x ha ue qz jH;have aY:pre.length<a.length:=by rw[ha];simp
  have hg:∀ d,aq d a pre.length=x:=λd=>by rw[ha];exact p7 d pre post x
  have hw:aI (((pre.length:Nat):Int)+1)=((pre.length+1:Nat):Int):=by rw[Qy (by omega) (by omega)];omega
  refine QFC _ _ _ _ ?_;refine⟨λ_=>?_,λh=>absurd h (by simp;omega)⟩;simp only[Int.toNat_natCast,hg,hw,aY,ud,and_true,true_and,Int.natCast_nonneg];simp only[QYo,QZX,QZR,Prod.ext_iff]at qz jH;refine⟨λh=>qz (λe=>QS3 h (e).symm),λh0=>?_⟩;have e0:=(QVH h0).symm;exact jH e0
 ·intro kk hq;refine QFC _ _ _ _ ?_;exact⟨λh=>absurd h (by simp),λ_=>hq⟩
theorem QXt:Qf Tryz.prog SX:=Qh λx h=>Q0x x.1 x.2.1 h
def xx(t:Int × (List Bool)):aJ:=⟨(aO t.1),[],[],true,[(.sl 0 [.bool] (.dp 0 false []) t.2)]⟩
def SZ:aP:=Qg 135 [(.d [.bool]),(.c TI)] λx=>(none,xx (Zu (α:=List Bool) x.1 x.2.1))
def S5:aN:=⟨[],true⟩
def QuQ:af :=
 (ag [(ag [(.ae [ab 6 5,ab 7 0,bh 8 7,az 9 .lss 6 8]),(.cond 9 .skip (.exit 0))]),(.block 1 (ag [(.ae [ab 12 0,ab 13 5,ab 14 1,az 15 .rem 14 (aw 3),az 16 .eql 15 (aw 0),bn 17 12 13 [.bool],a8 17 16 1]),(.ae [ab 18 1,az 19 .add 18 (aw 1),ab 1 19])])),(.ae [ab 10 5,az 11 .add 10 (aw 1),ab 5 11])])
def QHe:List (Nat × Md):=[(0,.one .f),(1,.one .d),(5,.one .d)]
def QBx:af :=
 (ag [(.ae [ab 20 1,ab 4 20]),.ret])
def QNK:af :=
 (ag [(.ae [ab 4 (aw 0)]),(ag [(.ae [ab 5 (aw 0)]),(.block 0 (.loop QHe QuQ))]),QBx])
def QCQ:List (bw × Md):=[(.t 4,.one .d)]
def QxQ:Qb:=TQ 0 1 QCQ K
def QRA:Qb:=ba (aU S5 1 QBx (QxQ K)) (QxQ K)
def Q2Y:Qb:=bf 0 (QRA K)
def Hq(a:List Bool)(k1:Int)(i:Int)(a1:List Bool):Prop:=Loop S5 1 QHe QuQ (Q2Y K) ⟨[(0,(.r [.bool] 0 0 a.length)),(1,(aO k1)),(5,(aO i))],[(0,(.sl 0 [.bool] (.dp 0 false []) a1))],1⟩
theorem QxG(a:List Bool)(k1:Int)(i:Int)(a1:List Bool) (h :
 (aS (decide (i<((a.length:Nat):Int))) (((¬ ((3:Int):Int)=0)/\((0<=i/\Int.toNat i<a.length)/\((0+(Int.toNat i))<a1.length)))/\(Hq K a (aI (k1+1)) (aI (i+1)) ((a1).set (0+(Int.toNat i)) ((Int.tmod k1 (3:Int))==0)))) (K (xx (k1,a1))))):Hq K a k1 i a1 :=
 Loop.of h
theorem Q4x(a:List Bool)(k:Int):aR Tryz.prog 135 [(.ow 0 [.bool] dw a),(.c TI k)] (xx (Zu (α:=List Bool) a k)):=by
 refine bD S5 QNK QCQ 0 1 21 SZ kn (λK =>
 (Hq K a k 0 a)) (λhb=>?_)
 have lX:a.length<=9223372036854775807:=hb.1.1;refine zX (A:=λkk ii ll=>Hq (λr'=>r'=xx (Zu (α:=List Bool) a k)) a kk ii ll) (Q:=λz=>xx z=xx (Zu (α:=List Bool) a k)) a k ?_ ?_ rfl
 ·intro kk pre post x hl hA;have aY:pre.length<a.length:=by omega
  have hw:aI (((pre.length:Nat):Int)+1)=((pre.length+1:Nat):Int):=by rw[Qy (by omega) (by omega)];omega
  refine QxG _ _ _ _ _ ?_;refine⟨λ_=>?_,λh=>absurd h (by simp;omega)⟩;simp only[Int.toNat_natCast,Nat.zero_add,zU,zV,p7,zT,hw,np,aY,ud,and_true,true_and,Int.natCast_nonneg];exact hA
 ·intro kk l hl hq;refine QxG _ _ _ _ _ ?_;exact⟨λh=>absurd h (by simp),λ_=>hq⟩
theorem Q0N:Qf Tryz.prog SZ:=Qh λx _=>Q4x x.1 x.2.1
def xy(t:Int × (List (List Int))):aJ:=⟨(aO t.1),[],[],true,[(.sl 0 [(.sl [TI])] (.dp 0 false []) t.2)]⟩
def S6:aP:=Qg 82 [(.d [(.sl [TI])]),(.c TI)] λx=>(none,xy (Zu (α:=List (List Int)) x.1 x.2.1))
def S7:aN:=⟨[xw],true⟩
def QwC:af :=
 (ag [(ag [(.ae [ab 6 5,ab 7 0,bh 8 7,az 9 .lss 6 8]),(.cond 9 .skip (.exit 0))]),(.block 1 (.ae [ab 12 0,ab 13 5,bn 14 12 13 [(.sl [TI])],an 15 14 0,ar 16 15 1,ab 17 1,aL 18 26 [16,17],ab 1 18])),(.ae [ab 10 5,az 11 .add 10 (aw 1),ab 5 11])])
def QyK:List (Nat × Md):=[(0,.one .f),(1,.one .d),(5,.one .d)]
def QvG:af :=
 (ag [(.ae [ab 19 1,ab 4 19]),.ret])
def Q0T:af :=
 (ag [(.ae [ab 4 (aw 0)]),(ag [(.ae [ab 5 (aw 0)]),(.block 0 (.loop QyK QwC))]),QvG])
def Qvf:List (bw × Md):=[(.t 4,.one .d)]
def QB4:Qb:=TQ 0 1 Qvf K
def Q4n:Qb:=ba (aU S7 1 QvG (QB4 K)) (QB4 K)
def QNd:Qb:=bf 0 (Q4n K)
def Hr(a:List (List Int))(k1:Int)(i:Int)(a1:List (List Int)):Prop:=Loop S7 1 QyK QwC (QNd K) ⟨[(0,(.r [(.sl [TI])] 0 0 a.length)),(1,(aO k1)),(5,(aO i))],[(0,(.sl 0 [(.sl [TI])] (.dp 0 false []) a1))],1⟩
theorem QG6(a:List (List Int))(k1:Int)(i:Int)(a1:List (List Int)) (h :
 (aS (decide (i<((a.length:Nat):Int))) (((0<=i/\Int.toNat i<a.length)/\(((0+(Int.toNat i))<a1.length)/\((0+(Int.toNat i))<a1.length)))/\(Hr K a ((nn ([]:List Int) (0+(Int.toNat i)) (λe_=>e_) (λe_ y_=>y_) (Zu (α:=List Int)) (k1,a1)).1) (aI (i+1)) ((nn ([]:List Int) (0+(Int.toNat i)) (λe_=>e_) (λe_ y_=>y_) (Zu (α:=List Int)) (k1,a1)).2))) (K (xy (k1,a1))))):Hr K a k1 i a1 :=
 Loop.of h
theorem Q3g(a:List (List Int))(k:Int):aR Tryz.prog 82 [(.ow 0 [(.sl [TI])] dw a),(.c TI k)] (xy (Zu (α:=List (List Int)) a k)):=by
 refine bD S7 Q0T Qvf 0 1 20 S6 (kc Ho kn) (λK =>
 (Hr K a k 0 a)) (λhb=>?_)
 have lX:a.length<=9223372036854775807:=hb.1.1;refine zX (A:=λkk ii ll=>Hr (λr'=>r'=xy (Zu (α:=List (List Int)) a k)) a kk ii ll) (Q:=λz=>xy z=xy (Zu (α:=List (List Int)) a k)) a k ?_ ?_ rfl
 ·intro kk pre post x hl hA;have aY:pre.length<a.length:=by omega
  have hw:aI (((pre.length:Nat):Int)+1)=((pre.length+1:Nat):Int):=by rw[Qy (by omega) (by omega)];omega
  refine QG6 _ _ _ _ _ ?_;refine⟨λ_=>?_,λh=>absurd h (by simp;omega)⟩;simp only[Int.toNat_natCast,Nat.zero_add,zU,zV,p7,zT,hw,np,aY,ud,and_true,true_and,Int.natCast_nonneg];exact hA
 ·intro kk l hl hq;refine QG6 _ _ _ _ _ ?_;exact⟨λh=>absurd h (by simp),λ_=>hq⟩
theorem Q0y:Qf Tryz.prog S6:=Qh λx _=>Q3g x.1 x.2.1
def u1(t:Int):aJ:=cd (aO t)
def S8:aP:=Qg 86 [(.c (.sl [(.sl [TI])])),(.c TI)] λx=>(some (Jt (α:=List (List Int)) x.1 x.2.1),u1 (cF (α:=List (List Int)) x.1 x.2.1))
def S9:aN:=⟨[SX],false⟩
def Qum:af :=
 (ag [(ag [(.ae [ab 6 5,ab 7 0,bh 8 7,az 9 .lss 6 8]),(.cond 9 .skip (.exit 0))]),(.block 1 (ag [(.ae [ab 12 0,ab 13 5,bn 14 12 13 [(.sl [TI])],an 15 14 0,ar 16 15 1,ab 17 1,aL 18 27 [16,17],ab 1 18]),(.ae [ab 19 1,az 20 .lss 19 (aw 0)]),(.cond 20 (ag [(.ae [ab 4 (aw (-1))]),.ret]) .skip)])),(.ae [ab 10 5,az 11 .add 10 (aw 1),ab 5 11])])
def Qzo:List (Nat × Md):=ij [0,1,5]
def QI9:af :=
 (ag [(.ae [ab 21 1,ab 4 21]),.ret])
def QL0:af :=
 (ag [(.ae [ab 4 (aw 0)]),(ag [(.ae [ab 5 (aw 0)]),(.block 0 (.loop Qzo Qum))]),QI9])
def QtF:List (bw × Md):=[(.t 4,.one .d)]
def Qzs:Qb:=TQ 0 0 QtF K
def QP4:Qb:=ba (aU S9 0 QI9 (Qzs K)) (Qzs K)
def QNW:Qb:=bf 0 (QP4 K)
def Hs(a:List (List Int))(k1:Int)(i:Int):Prop:=Loop S9 0 Qzo Qum (QNW K) ⟨[(0,(bu [(.sl [TI])] a)),(1,(aO k1)),(5,(aO i))],[],0⟩
theorem QCM(a:List (List Int))(k1:Int)(i:Int) (h :
 (aS (decide (i<(a.length:Int))) (((0<=i/\Int.toNat i<a.length)/\(Jt (α:=List Int) (aq ([]:List Int) a (Int.toNat i)) k1))/\(aS (decide ((cF (α:=List Int) (aq ([]:List Int) a (Int.toNat i)) k1)<0)) (K (u1 (-1:Int))) (Hs K a (cF (α:=List Int) (aq ([]:List Int) a (Int.toNat i)) k1) (aI (i+1))))) (K (u1 k1)))):Hs K a k1 i :=
 Loop.of h
theorem QYS(a:List (List Int))(k:Int)(hp:Jt (α:=List (List Int)) a k):aR Tryz.prog 86 [(.c (.sl [(.sl [TI])]) a),(.c TI k)] (u1 (cF (α:=List (List Int)) a k)):=by
 refine bD S9 QL0 QtF 0 0 22 S8 (kc QXt kn) (λK =>
 (Hs K a k 0)) (λhb=>?_)
 have lX:a.length<=9223372036854775807:=hb.1.1;refine XO (A:=λkk ii=>Hs (λr'=>r'=u1 (cF (α:=List (List Int)) a k)) a kk ii) (Q:=λz=>u1 z=u1 (cF (α:=List (List Int)) a k)) a k hp ?_ ?_ rfl
 ·intro kk pre post x ha ue qz jH;have aY:pre.length<a.length:=by rw[ha];simp
  have hg:∀ d,aq d a pre.length=x:=λd=>by rw[ha];exact p7 d pre post x
  have hw:aI (((pre.length:Nat):Int)+1)=((pre.length+1:Nat):Int):=by rw[Qy (by omega) (by omega)];omega
  refine QCM _ _ _ _ ?_;refine⟨λ_=>?_,λh=>absurd h (by simp;omega)⟩;simp only[Int.toNat_natCast,hg,hw,aY,ud,and_true,true_and,Int.natCast_nonneg];refine⟨ue,λh=>qz (λe=>XL ue (of_decide_eq_true h) (e)),λh0=>?_⟩;obtain⟨e0,h0⟩:=XM (of_decide_eq_false h0);rw[h0];exact jH e0
 ·intro kk hq;refine QCM _ _ _ _ ?_;exact⟨λh=>absurd h (by simp),λ_=>hq⟩
theorem QLU:Qf Tryz.prog S8:=Qh λx h=>QYS x.1 x.2.1 h
def xz(t:Int × (List aE)):aJ:=⟨(aO t.1),[],[],true,[(.sl 0 aK (.dp 0 false []) t.2)]⟩
def Ta:aP:=Qg 80 [(.d aK),(.c TI)] λx=>(none,xz (Zu (α:=List aE) x.1 x.2.1))
def Tb:aN:=⟨[xw],true⟩
def QxE:af :=
 (ag [(ag [(.ae [ab 6 5,ab 7 0,bh 8 7,az 9 .lss 6 8]),(.cond 9 .skip (.exit 0))]),(.block 1 (ag [(.ae [ab 12 0,ab 13 5,ab 14 1,bn 15 12 13 aK,an 16 15 0,a8 16 14 1]),(.ae [ab 17 1,az 18 .add 17 (aw 1),ab 1 18]),(.ae [ab 19 0,ab 20 5,ab 21 1,bn 22 19 20 aK,an 23 22 1,a8 23 21 1]),(.ae [ab 24 1,az 25 .add 24 (aw 1),ab 1 25]),(.ae [ab 26 0,ab 27 5,ab 28 1,bn 29 26 27 aK,an 30 29 2,a8 30 28 1]),(.ae [ab 31 1,az 32 .add 31 (aw 1),ab 1 32]),(.ae [ab 33 0,ab 34 5,bn 35 33 34 aK,an 36 35 3,ar 37 36 1,ab 38 1,aL 39 26 [37,38],ab 1 39])])),(.ae [ab 10 5,az 11 .add 10 (aw 1),ab 5 11])])
def Qu5:List (Nat × Md):=[(0,.one .f),(1,.one .d),(5,.one .d)]
def QxC:af :=
 (ag [(.ae [ab 40 1,ab 4 40]),.ret])
def QSb:af :=
 (ag [(.ae [ab 4 (aw 0)]),(ag [(.ae [ab 5 (aw 0)]),(.block 0 (.loop Qu5 QxE))]),QxC])
def QvH:List (bw × Md):=[(.t 4,.one .d)]
def QuN:Qb:=TQ 0 1 QvH K
def QSi:Qb:=ba (aU Tb 1 QxC (QuN K)) (QuN K)
def QNH:Qb:=bf 0 (QSi K)
def Ht(a:List aE)(k1:Int)(i:Int)(a1:List aE):Prop:=Loop Tb 1 Qu5 QxE (QNH K) ⟨[(0,(.r aK 0 0 a.length)),(1,(aO k1)),(5,(aO i))],[(0,(.sl 0 aK (.dp 0 false []) a1))],1⟩
theorem QFc(a:List aE)(k1:Int)(i:Int)(a1:List aE) (h :
 let z2:=zS bY (0+(Int.toNat i)) (λe_ k_=>(k_,e_.2.1,e_.2.2.1,e_.2.2.2)) (k1,a1)
 let z4:=zS bY (0+(Int.toNat i)) (λe_ k_=>(e_.1,k_,e_.2.2.1,e_.2.2.2)) z2
 let z1:=zS bY (0+(Int.toNat i)) (λe_ k_=>(e_.1,e_.2.1,k_,e_.2.2.2)) z4
 let z3:=nn bY (0+(Int.toNat i)) (λe_=>e_.2.2.2) (λe_ y_=>(e_.1,e_.2.1,e_.2.2.1,y_)) (Zu (α:=List Int)) z1
 (aS (decide (i<((a.length:Nat):Int))) (((0<=i/\Int.toNat i<a.length)/\((0+(Int.toNat i))<a1.length))/\(((0<=i/\Int.toNat i<a.length)/\((0+(Int.toNat i))<(z2.2).length))/\(((0<=i/\Int.toNat i<a.length)/\((0+(Int.toNat i))<(z4.2).length))/\(((0<=i/\Int.toNat i<a.length)/\(((0+(Int.toNat i))<(z1.2).length)/\((0+(Int.toNat i))<(z1.2).length)))/\(Ht K a (z3.1) (aI (i+1)) (z3.2)))))) (K (xz (k1,a1))))):Ht K a k1 i a1 :=
 Loop.of h
theorem QTj(a:List aE)(k:Int):aR Tryz.prog 80 [(.ow 0 aK dw a),(.c TI k)] (xz (Zu (α:=List aE) a k)):=by
 refine bD Tb QSb QvH 0 1 41 Ta (kc Ho kn) (λK =>
 (Ht K a k 0 a)) (λhb=>?_)
 have lX:a.length<=9223372036854775807:=hb.1.1;refine zX (A:=λkk ii ll=>Ht (λr'=>r'=xz (Zu (α:=List aE) a k)) a kk ii ll) (Q:=λz=>xz z=xz (Zu (α:=List aE) a k)) a k ?_ ?_ rfl
 ·intro kk pre post x hl hA;have aY:pre.length<a.length:=by omega
  have hw:aI (((pre.length:Nat):Int)+1)=((pre.length+1:Nat):Int):=by rw[Qy (by omega) (by omega)];omega
  refine QFc _ _ _ _ _ ?_
  conv=>zeta
  refine⟨λ_=>?_,λh=>absurd h (by simp;omega)⟩;simp only[Int.toNat_natCast,Nat.zero_add,zU,zV,p7,zT,hw,np,aY,ud,and_true,true_and,Int.natCast_nonneg];exact hA
 ·intro kk l hl hq;refine QFc _ _ _ _ _ ?_
  conv=>zeta
  exact⟨λh=>absurd h (by simp),λ_=>hq⟩
theorem QLl:Qf Tryz.prog Ta:=Qh λx _=>QTj x.1 x.2.1
def xA(t:Int × (List Qi)):aJ:=⟨(aO t.1),[],[],true,[(.sl 0 Qp (.dp 0 false []) t.2)]⟩
def Tc:aP:=Qg 42 [(.d Qp),(.c TI)] λx=>(none,xA (Zu (α:=List Qi) x.1 x.2.1))
def Td:aN:=⟨[xw],true⟩
def QCf:af :=
 (ag [(ag [(.ae [ab 6 5,ab 7 0,bh 8 7,az 9 .lss 6 8]),(.cond 9 .skip (.exit 0))]),(.block 1 (ag [(.ae [ab 12 0,ab 13 5,bn 14 12 13 Qp,an 15 14 0,ar 16 15 1,ab 17 1,aL 18 26 [16,17],ab 1 18]),(.ae [ab 19 0,ab 20 5,bn 21 19 20 Qp,an 22 21 1,ar 23 22 1,ab 24 1,aL 25 26 [23,24],ab 1 25])])),(.ae [ab 10 5,az 11 .add 10 (aw 1),ab 5 11])])
def Qw1:List (Nat × Md):=[(0,.one .f),(1,.one .d),(5,.one .d)]
def QG0:af :=
 (ag [(.ae [ab 26 1,ab 4 26]),.ret])
def QUg:af :=
 (ag [(.ae [ab 4 (aw 0)]),(ag [(.ae [ab 5 (aw 0)]),(.block 0 (.loop Qw1 QCf))]),QG0])
def Quo:List (bw × Md):=[(.t 4,.one .d)]
def Qx5:Qb:=TQ 0 1 Quo K
def QQK:Qb:=ba (aU Td 1 QG0 (Qx5 K)) (Qx5 K)
def QM9:Qb:=bf 0 (QQK K)
def Hu(a:List Qi)(k1:Int)(i:Int)(a1:List Qi):Prop:=Loop Td 1 Qw1 QCf (QM9 K) ⟨[(0,(.r Qp 0 0 a.length)),(1,(aO k1)),(5,(aO i))],[(0,(.sl 0 Qp (.dp 0 false []) a1))],1⟩
theorem Qy9(a:List Qi)(k1:Int)(i:Int)(a1:List Qi) (h :
 (aS (decide (i<((a.length:Nat):Int))) (((0<=i/\Int.toNat i<a.length)/\(((0+(Int.toNat i))<a1.length)/\((0+(Int.toNat i))<a1.length)))/\(((0<=i/\Int.toNat i<a.length)/\(((0+(Int.toNat i))<((nn QP (0+(Int.toNat i)) (λe_=>e_.1) (λe_ y_=>(y_,e_.2)) (Zu (α:=List Int)) (k1,a1)).2).length)/\((0+(Int.toNat i))<((nn QP (0+(Int.toNat i)) (λe_=>e_.1) (λe_ y_=>(y_,e_.2)) (Zu (α:=List Int)) (k1,a1)).2).length)))/\(Hu K a ((nn QP (0+(Int.toNat i)) (λe_=>e_.2) (λe_ y_=>(e_.1,y_)) (Zu (α:=List Int)) (nn QP (0+(Int.toNat i)) (λe_=>e_.1) (λe_ y_=>(y_,e_.2)) (Zu (α:=List Int)) (k1,a1))).1) (aI (i+1)) ((nn QP (0+(Int.toNat i)) (λe_=>e_.2) (λe_ y_=>(e_.1,y_)) (Zu (α:=List Int)) (nn QP (0+(Int.toNat i)) (λe_=>e_.1) (λe_ y_=>(y_,e_.2)) (Zu (α:=List Int)) (k1,a1))).2)))) (K (xA (k1,a1))))):Hu K a k1 i a1 :=
 Loop.of h
theorem QPK(a:List Qi)(k:Int):aR Tryz.prog 42 [(.ow 0 Qp dw a),(.c TI k)] (xA (Zu (α:=List Qi) a k)):=by
 refine bD Td QUg Quo 0 1 27 Tc (kc Ho kn) (λK =>
 (Hu K a k 0 a)) (λhb=>?_)
 have lX:a.length<=9223372036854775807:=hb.1.1;refine zX (A:=λkk ii ll=>Hu (λr'=>r'=xA (Zu (α:=List Qi) a k)) a kk ii ll) (Q:=λz=>xA z=xA (Zu (α:=List Qi) a k)) a k ?_ ?_ rfl
 ·intro kk pre post x hl hA;have aY:pre.length<a.length:=by omega
  have hw:aI (((pre.length:Nat):Int)+1)=((pre.length+1:Nat):Int):=by rw[Qy (by omega) (by omega)];omega
  refine Qy9 _ _ _ _ _ ?_;refine⟨λ_=>?_,λh=>absurd h (by simp;omega)⟩;simp only[Int.toNat_natCast,Nat.zero_add,zU,zV,p7,zT,hw,np,aY,ud,and_true,true_and,Int.natCast_nonneg];exact hA
 ·intro kk l hl hq;refine Qy9 _ _ _ _ _ ?_;exact⟨λh=>absurd h (by simp),λ_=>hq⟩
theorem QOd:Qf Tryz.prog Tc:=Qh λx _=>QPK x.1 x.2.1
def Te(t:Int × (List aE)):aJ:=⟨(aO t.1),[],[],true,[(.sl 0 aK (.dp 0 false []) t.2)]⟩
def Tf:aP:=Qg 134 [(.s [(.sl aK)]),(.c TI)] λx=>(none,Te (Yh (α:=List aE) x.1 x.2.1))
def QVv:aN:=⟨[Ta],true⟩
def QZg:af :=
 (ag [(.ae [aD 2 (.box 77 0 1),ab 4 (aw 0)]),(.ae [an 5 2 0,ar 6 5 1,ab 7 1,aL 8 80 [6,7],ab 1 8]),(.ae [ab 9 1,ab 4 9]),.ret])
def QWs:List (bw × Md):=[(.t 4,.one .d)]
theorem QUn(a:List aE)(k:Int):aR Tryz.prog 134 [(.a [(.ow 0 aK dw a)]),(.c TI k)] (Te (Yh (α:=List aE) a k)):=by
 refine bD QVv QZg QWs 0 1 10 Tf (kc QLl kn) (λK =>
 ((a.length=a.length)/\K (Te ((Zu (α:=List aE) a k).1,(Zu (α:=List aE) a k).2)))) (λhb=>?_)
 have kH:(a).length<=9223372036854775807:=hb.1.1.1;repeat' apply And.intro
 all_goals first | rfl | exact au rfl
theorem QMZ:Qf Tryz.prog Tf:=Qh λx _=>QUn x.1 x.2.1
def Tg(t:Int × QL):aJ:=⟨(aO t.1),[],[],true,[(.sl 0 [(.sl [TI])] (.dp 0 false []) t.2.1)]⟩
def Th:aP:=Qg 47 [(.s Q2),(.c TI)] λx=>(none,Tg (Yh (α:=QL) x.1 x.2.1))
def QZj:aN:=⟨[S6],true⟩
def QQ3:af :=
 (ag [(.ae [aD 2 (.box 37 0 3),ab 4 (aw 0)]),(.ae [an 5 2 0,ar 6 5 1,ab 7 1,aL 8 82 [6,7],ab 1 8]),(.ae [ab 9 1,ab 4 9]),.ret])
def QZ8:List (bw × Md):=[(.t 4,.one .d)]
theorem QMk(a:QL)(k:Int):aR Tryz.prog 47 [(.a [(.ow 0 [(.sl [TI])] dw a.1),(.c TI a.2.1),(.c .bool a.2.2)]),(.c TI k)] (Tg (Yh (α:=QL) a k)):=by
 refine bD QZj QQ3 QZ8 0 1 10 Th (kc Q0y kn) (λK =>
 (((a.1).length=(a.1).length)/\K (Tg ((Zu (α:=List (List Int)) a.1 k).1,((Zu (α:=List (List Int)) a.1 k).2,a.2.1,a.2.2))))) (λhb=>?_)
 have kH:(a.1).length<=9223372036854775807:=hb.1.1.1;repeat' apply And.intro
 all_goals first | rfl | exact au rfl
theorem QP6:Qf Tryz.prog Th:=Qh λx _=>QMk x.1 x.2.1
def Hv(t:Int):aJ:=cd (aO t)
def Ti:aP:=Qg 48 [(.a Q2),(.c TI)] λx=>(some (mn (α:=QL) x.1 x.2.1),Hv (eJ (α:=QL) x.1 x.2.1))
def Q0j:aN:=⟨[S8],false⟩
def QZd:af :=
 (ag [(.ae [aD 2 (.box 37 0 3),ab 4 (aw 0)]),(.ae [an 5 2 0,ar 6 5 1,ab 7 1,aL 8 86 [6,7],ab 1 8]),(ag [(.ae [ab 9 1,az 10 .lss 9 (aw 0)]),(.cond 10 (ag [(.ae [ab 4 (aw (-1))]),.ret]) .skip)]),(.ae [ab 11 1,ab 4 11]),.ret])
def QYV:List (bw × Md):=[(.t 4,.one .d)]
theorem QTo(a:QL)(k:Int)(hp:mn (α:=QL) a k):aR Tryz.prog 48 [(.a (aV.cells Q2 a)),(.c TI k)] (Hv (eJ (α:=QL) a k)):=by
 refine bD Q0j QZd QYV 0 0 12 Ti (kc QLU kn) (λK =>
 ((Jt (α:=List (List Int)) a.1 k)/\(aS (decide ((cF (α:=List (List Int)) a.1 k)<0)) (K (Hv (-1:Int))) (K (Hv (cF (α:=List (List Int)) a.1 k)))))) (λhb=>?_)
 have kH:(a.1).length<=9223372036854775807:=hb.1.1.1;have sI:=(Ds hp).1;have Tj:=(Ds hp).2;have gC:=(Ds Tj).1;have qf:=(Ds Tj).2;simp only[QUk,Q0z,Q2A,QPq]at sI Tj gC qf;refine⟨(XN sI),λh=>au (QYn (λe=>XL (XN sI) (of_decide_eq_true h) (congrArg (λz=>z.1) e))).symm,λg0=>?_⟩;obtain⟨e0,h0⟩:=XM (of_decide_eq_false g0);rw[h0];exact au (XK (x:=a) (k:=k) (Prod.ext e0 (Prod.ext rfl rfl))).symm
theorem QKe:Qf Tryz.prog Ti:=Qh λx h=>QTo x.1 x.2.1 h
def Tk(t:Int × QC):aJ:=⟨(aO t.1),[],[],true,[(.sl 0 aK (.dp 0 false []) t.2.1),(.sl 0 [TI] (.dp 0 false []) t.2.2.1),(.sl 0 [.bool] (.dp 0 false []) t.2.2.2.2.1),(.sl 0 [TI] (.dp 0 false []) t.2.2.2.2.2.1),(.sl 0 [TI] (.dp 0 false []) t.2.2.2.2.2.2)]⟩
def Tl:aP:=Qg 41 [(.s Q5),(.c TI)] λx=>(none,Tk (Yh (α:=QC) x.1 x.2.1))
def Q4k:aN:=⟨[Tf,xw,SZ],true⟩
def QVm:af :=
 (ag [(.ae [aD 2 (.box 79 0 6),ab 4 (aw 0)]),(.ae [an 5 2 0,aZ 6 5 1,ab 7 1,aL 8 134 [6,7],ab 1 8]),(.ae [an 9 2 1,ar 10 9 1,ab 11 1,aL 12 26 [10,11],ab 1 12]),(.ae [an 13 2 3,ar 14 13 1,ab 15 1,aL 16 135 [14,15],ab 1 16]),(.ae [an 17 2 4,ar 18 17 1,ab 19 1,aL 20 26 [18,19],ab 1 20]),(.ae [an 21 2 5,ar 22 21 1,ab 23 1,aL 24 26 [22,23],ab 1 24]),(.ae [ab 25 1,ab 4 25]),.ret])
def Q3Q:List (bw × Md):=[(.t 4,.one .d)]
theorem Q2K(a:QC)(k:Int):aR Tryz.prog 41 [(.a [(.ow 0 aK dw a.1),(.ow 0 [TI] dw a.2.1),(.c TI a.2.2.1),(.ow 0 [.bool] dw a.2.2.2.1),(.ow 0 [TI] dw a.2.2.2.2.1),(.ow 0 [TI] dw a.2.2.2.2.2)]),(.c TI k)] (Tk (Yh (α:=QC) a k)):=by
 refine bD Q4k QVm Q3Q 0 5 26 Tl (kc QMZ (kc Ho (kc Q0N kn))) (λK =>
 let z3:=Zu (α:=List Int) a.2.1 ((Yh (α:=List aE) a.1 k).1)
 let z1:=Zu (α:=List Bool) a.2.2.2.1 (z3.1)
 let z4:=Zu (α:=List Int) a.2.2.2.2.1 (z1.1)
 let z2:=Zu (α:=List Int) a.2.2.2.2.2 (z4.1)
 (((a.1).length=(a.1).length)/\(((a.2.1).length=(a.2.1).length)/\(((a.2.2.2.1).length=(a.2.2.2.1).length)/\(((a.2.2.2.2.1).length=(a.2.2.2.2.1).length)/\(((a.2.2.2.2.2).length=(a.2.2.2.2.2).length)/\K (Tk (z2.1,((Yh (α:=List aE) a.1 k).2,z3.2,a.2.2.1,z1.2,z4.2,z2.2))))))))) (λhb=>?_)
 have kH:(a.1).length<=9223372036854775807:=hb.1.1.1;have Tm:(a.2.1).length<=9223372036854775807:=hb.1.2.1.1;have Tn:(a.2.2.2.1).length<=9223372036854775807:=hb.1.2.2.2.1.1;have To:(a.2.2.2.2.1).length<=9223372036854775807:=hb.1.2.2.2.2.1.1;have Tp:(a.2.2.2.2.2).length<=9223372036854775807:=hb.1.2.2.2.2.2.1.1
 conv=>zeta
 repeat' apply And.intro
 all_goals first | rfl | exact au rfl
theorem QRk:Qf Tryz.prog Tl:=Qh λx _=>Q2K x.1 x.2.1
end
end Go.Proofs.YtdplaepmjogjjaaGreat.Am

namespace Go.Proofs.YtdplaepmjogjjaaGreat.Am
open Go Go.RowKit Go.Proofs.YtdplaepmjogjjaaGreat
set_option linter.all false
set_option maxHeartbeats 2000000
noncomputable section
variable (K:aJ->Prop)
def JH(t:Bool):aJ:=cd (bH t)
def QT1:aP:=Qg 8 [(.a Q5),(.c (.sl Qp))] λx=>(none,JH (K4 x.1 x.2.1))
def QUh:aN:=⟨[Mt,LK,Mv,LU,SS,SN,L5,Mw,L7,Tl,Tc,Th,Ti],false⟩
def Q1w:af :=
 (ag [(.ae [aD 2 (.box 72 0 6),ab 4 (bm false)]),(.ae [ab 5 (aw 1048576)]),(.ae [aZ 17 2 6,ab 18 5,aL 19 33 [17,18],ab 5 19]),(ag [(.ae [ab 20 5,az 21 .lss 20 (aw 0)]),(.cond 21 (ag [(.ae [ab 4 (bm true)]),.ret]) .skip)]),(.ae [ab 22 1,ab 23 5,aL 24 34 [22,23],ab 5 24]),(ag [(.ae [ab 25 5,az 26 .lss 25 (aw 0)]),(.cond 26 (ag [(.ae [ab 4 (bm true)]),.ret]) .skip)]),(.ae [aZ 28 2 6,aL 29 36 [28],ab 30 1,aL 31 37 [30],aL 32 44 [29,31],ab 27 32,bF 33 27 0,bF 34 27 1,aD 6 (.new 37 (bC Q2)),a8 6 33 3,ab 7 34]),(.ae [aZ 35 2 6,aL 36 36 [35],aD 8 (.new 79 (bC Q5)),a8 8 36 6]),(.ae [ab 37 1,aL 38 37 [37],ab 9 38]),(.ae [aZ 40 8 6,ab 41 9,aL 42 45 [40,41],ab 39 42,bF 43 39 0,bF 44 39 1,aD 10 (.new 37 (bC Q2)),a8 10 43 3,ab 11 44]),(ag [(.ae [aZ 45 10 3,aZ 46 6 3,aL 47 46 [45,46],bL 48 47,ab 49 48,.bj 49 false [ab 50 11,ab 51 7,az 52 .neq 50 51] 53 52]),(.cond 53 (ag [(.ae [ab 4 (bm false)]),.ret]) .skip)]),(ag [(.draw [aZ 54 8 6,aZ 55 2 6,aL 56 36 [55],aL 57 39 [54,56],bL 58 57] [(0,2)]),(.cond 58 (ag [(.ae [ab 4 (bm false)]),.ret]) .skip)]),(ag [(.ae [ab 59 9,ab 60 1,aL 61 37 [60],aL 62 40 [59,61],bL 63 62]),(.cond 63 (ag [(.ae [ab 4 (bm false)]),.ret]) .skip)]),(.ae [ab 12 (aw 1)]),(.ae [aZ 64 8 6,ab 65 12,aL 66 41 [64,65],ab 12 66]),(.ae [ab 67 9,ab 68 12,aL 69 42 [67,68],ab 12 69]),(ag [(.ae [ab 70 12,az 71 .lss 70 (aw 0),ab 72 71,.bj 72 false [aZ 73 10 3,aZ 74 6 3,aL 75 46 [73,74],bL 76 75] 77 76,ab 78 77,.bj 78 false [ab 79 11,ab 80 7,az 81 .neq 79 80] 82 81]),(.cond 82 (ag [(.ae [ab 4 (bm false)]),.ret]) .skip)]),(.ae [ab 13 (aw 1)]),(.ae [aZ 83 10 3,ab 84 13,aL 85 47 [83,84],ab 13 85]),(.ae [ab 14 (aw 1)]),(.ae [aZ 86 10 3,ab 87 14,aL 88 48 [86,87],ab 14 88]),(ag [(.ae [ab 89 14,az 90 .lss 89 (aw 0)]),(.cond 90 (ag [(.ae [ab 4 (bm false)]),.ret]) .skip)]),(ag [(.ae [ab 91 14,ab 92 13,az 93 .neq 91 92]),(.cond 93 (ag [(.ae [ab 4 (bm false)]),.ret]) .skip)]),(.ae [aZ 95 2 6,aL 96 36 [95],ab 97 1,aL 98 37 [97],aL 99 45 [96,98],ab 94 99,bF 100 94 0,bF 101 94 1,aD 15 (.new 37 (bC Q2)),a8 15 100 3,ab 16 101]),(ag [(.ae [aZ 102 15 3,aZ 103 6 3,aL 104 46 [102,103],bL 105 104,ab 106 105,.bj 106 false [ab 107 16,ab 108 7,az 109 .neq 107 108] 110 109]),(.cond 110 (ag [(.ae [ab 4 (bm false)]),.ret]) .skip)]),(.ae [ab 14 (aw 1)]),(.ae [aZ 111 10 3,ab 112 14,aL 113 48 [111,112],ab 14 113]),(ag [(.ae [ab 114 14,az 115 .lss 114 (aw 0)]),(.cond 115 (ag [(.ae [ab 4 (bm false)]),.ret]) .skip)]),(ag [(.ae [ab 116 14,ab 117 13,az 118 .neq 116 117]),(.cond 118 (ag [(.ae [ab 4 (bm false)]),.ret]) .skip)]),(.ae [ab 4 (bm true)]),.ret])
def QPF:List (bw × Md):=[(.t 4,.one .d)]
theorem fG(aC:QC)(aB:List Qi):aR Tryz.prog 8 [(.a (aV.cells Q5 aC)),(.c (.sl Qp) aB)] (JH (K4 aC aB)):=by
 refine bD QUh Q1w QPF 0 0 119 QT1 (kc QNT (kc QKZ (kc QKN (kc Q2F (kc Q32 (kc Q00 (kc QZw (kc QJB (kc Q1e (kc QRk (kc QOd (kc QP6 (kc QKe kn))))))))))))) (λK =>
 let z2:=id (α:=QC) aC
 let z5:=id (α:=List Qi) aB
 let z7:=List.take ((z2.2.2.2.2.1).length) (List.drop 0 (z2.2.2.2.2.1))
 let z8:=List.take ((z2.2.2.2.2.2).length) (List.drop 0 (z2.2.2.2.2.2))
 let z9:=List.take ((z2.2.2.2.1).length) (List.drop 0 (z2.2.2.2.1))
 let gP:=List.take ((z2.2.1).length) (List.drop 0 (z2.2.1))
 let gm:=List.take ((z2.1).length) (List.drop 0 (z2.1))
 let eF:=bS (α:=QC) aC (1048576:Int)
 let iJ:=cP (α:=List Qi) aB
 let ik:=List.take (z5.length) (List.drop 0 z5)
 let z1:=Yi (gm,gP,z2.2.2.1,z9,z7,z8) ik
 let z4:=bK (α:=QL) ((List.take (((z1.1).1).length) (List.drop 0 ((z1.1).1))),(z1.1).2.1,(z1.1).2.2) (z1.1)
 let iI:=Yh (α:=QL) (z1.1) (1:Int)
 let z3:=List.take (((z1.1).1).length) (List.drop 0 ((iI.2).1))
 let z6:=eJ (α:=QL) (z3,(z1.1).2.1,(z1.1).2.2) (1:Int)
 let ia:=cP (α:=QC) aC
 let lV:=mn (α:=QL) (z3,(z1.1).2.1,(z1.1).2.2) (1:Int)
 ((cS (α:=QC) aC (1048576:Int))/\(aS (decide (eF<(0:Int))) (K (JH true)) ((cS (α:=List Qi) aB eF)/\(aS (decide ((bS (α:=List Qi) aB eF)<(0:Int))) (K (JH true)) ((ia/\iJ)/\(ia/\(iJ/\(aS ((!z4)||((z1.2) != (z1.2))) (K (JH false)) (ia/\(aS (!(bK (α:=QC) (gm,gP,z2.2.2.1,z9,z7,z8) (gm,gP,z2.2.2.1,z9,z7,z8))) (K (JH false)) (iJ/\(aS (!(bK (α:=List Qi) ik ik)) (K (JH false)) ((((z2.1).length=(z2.1).length)/\(((z2.2.1).length=(z2.2.1).length)/\(((z2.2.2.2.1).length=(z2.2.2.2.1).length)/\(((z2.2.2.2.2.1).length=(z2.2.2.2.2.1).length)/\((z2.2.2.2.2.2).length=(z2.2.2.2.2.2).length)))))/\((z5.length=z5.length)/\(aS (((decide (((Zu (α:=List Qi) z5 ((Yh (α:=QC) z2 (1:Int)).1)).1)<(0:Int)))||(!z4))||((z1.2) != (z1.2))) (K (JH false)) ((((z1.1).1).length=((z1.1).1).length)/\(lV/\(aS (decide (z6<(0:Int))) (K (JH false)) (aS (z6 != (iI.1)) (K (JH false)) ((ia/\iJ)/\(aS ((!z4)||((z1.2) != (z1.2))) (K (JH false)) (lV/\(aS (decide (z6<(0:Int))) (K (JH false)) (aS (z6 != (iI.1)) (K (JH false)) (K (JH true))))))))))))))))))))))))))) (λhb=>?_)
 refine⟨zF,λ_=>rfl,λB5=>?_⟩;have B6:=WU (of_decide_eq_false B5) (Int.le_refl _);refine⟨vV (zF),λ_=>rfl,λTq=>?_⟩;have B7:=WU (of_decide_eq_false Tq) (Q3h (of_decide_eq_false B5) (Int.le_refl _));have jr:Sz.sz (Yi aC aB).1<=4294967296:=by
  have h1:∀(l:List Qi)(g:QL),Sz.sz (zN aC.1 l g).1<=Sz.sz g.1:=by
   intro l
   induction l with
   | nil=>intro g;exact Nat.le_refl _
   | cons x r ih =>
    intro g;have h2:=ih (Z6 g (zM aC.1 x));have h3:=Rs g.1 (zM aC.1 x).1;exact Nat.le_trans h2 h3
  have hd:∀ g:QL,Sz.sz g=Sz.sz g.1:=by intro g;simp only[Q9,Q1,ZJ];omega
  unfold Yi
  split
  ·show Sz.sz (oE aC.1 aB)<=_;unfold oE
   split
   ·rename_i h;have hm:QS aC.1=true:=by simp only[Z5,Bool.and_eq_true]at h;exact h.1.1
    have h4:=Dq hm (XJ hm);have h5:=h1 aB (ZA aC.1);rw[hd];rw[hd]at h4;omega
   ·simp[t6,Q9]
  ·simp[t6,Q9]
 have ka0:=XS (x:=aC) (k:=(1:Int)) (b:=1) (c:=1048576) ⟨by omega,by omega⟩ (QSs aC) (show Sz.sz aC<=1048576 from B6) (by omega);have ka1:=QS8 (x:=aB) (k:=(Yh aC (1:Int)).1) (b:=16777217) (c:=1048576) ⟨ka0.2.1,by have:=ka0.2.2;omega⟩ (Q0V aB) (show Sz.sz aB<=1048576 from B7) (by omega);have kn:¬ ((Zu aB (Yh aC (1:Int)).1).1<0):=by have:=ka1.2.1;omega
 have kr0:=XS (x:=(Yi aC aB).1) (k:=(1:Int)) (b:=1) (c:=4294967296) ⟨by omega,by omega⟩ (Q2B _) jr (by omega);obtain⟨kp0,kh0⟩:=Q2N kr0.1;have kn0:¬ ((Yh (Yi aC aB).1 (1:Int)).1<0):=by have:=kr0.2.1;omega
 have B8:List.take (((Yi aC aB).1).1).length ((Yh (Yi aC aB).1 (1:Int)).2.1)=(Yh (Yi aC aB).1 (1:Int)).2.1:=QNA _ _;have ke0:((Yh (Yi aC aB).1 (1:Int)).2.1,((Yi aC aB).1).2.1,((Yi aC aB).1).2.2)=(Yh (Yi aC aB).1 (1:Int)).2:=rfl;simp only[id_eq,List.drop_zero,List.take_length,Prod.eta];simp[aS,bK,QOx,K4,QPJ,QYU,QR1,B6,B7,kn,kp0,kh0,kn0,B8,ke0]
end
end Go.Proofs.YtdplaepmjogjjaaGreat.Am

