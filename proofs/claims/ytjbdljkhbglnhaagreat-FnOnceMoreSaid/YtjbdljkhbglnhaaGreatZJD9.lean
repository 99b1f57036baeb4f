/- -/
import Derived.Test.YtjbdljkhbglnhaaGreatZJD2
import Derived.Test.YtjbdljkhbglnhaaGreatZJD1
import Derived.Test.YtjbdljkhbglnhaaGreatZJPL
import Derived.Test.YtjbdljkhbglnhaaGreatZJPP
import Derived.Test.YtjbdljkhbglnhaaGreatZJP4
import Derived.Test.YtjbdljkhbglnhaaGreatZJKO
namespace Go.Proofs.YtjbdljkhbglnhaaGreat.Am
open Go Go.RowKit Go.Proofs.YtjbdljkhbglnhaaGreat
set_option linter.all false
set_option maxHeartbeats 2000000
noncomputable section
variable (K:TRes→Prop)
def Jx (t:Qb × (List Int) × (((List Int) × Int × Int))):TRes:=⟨(.tp [(.a (Tup.cells Qn t.1)),(zcs [TI] t.2.1)]),[],[[(zcs [(.int .u8)] t.2.2.1),(zci t.2.2.2.1),(zci t.2.2.2.2)]],true,[]⟩
def QA (x0:((List Int) × Int × Int)):Qb × (List Int) × (((List Int) × Int × Int)):=Classical.epsilon fun t:Qb × (List Int) × (((List Int) × Int × Int))=>(Qba x0 t)∧TCon Tryz.prog 180 [(.bx [(.c (.sl [(.int .u8)]) x0.1),(.c TI x0.2.1),(.c TI x0.2.2)])] (Jx t)
def QgT:TRow:=Qg 180 [(.b [(.sl [(.int .u8)]),TI,TI])] fun x=>(some (QF x.1),Jx (QA x.1))
def QhX:List TRow:=[Qh1,QcW,Qkw,Qic,Qkc,Qbt,Y6,QkF,Qi8,Qk0,Qlj]
def Qrj:TCode :=
 (zsq [(zsq [(.reg [zmv 27 8,zbi 28 .gtr 27 (zki 0)]),(.cond 28 .skip (.exit 0))]),(.block 1 (zsq [(.draw [zLd 31 6 14,zmv 32 0,zca 33 108 [32,(zki 4)],zmv 34 0,zLd 35 4 1,zca 36 153 [35],zca 37 105 [34,36],zmv 38 7,zca 39 172 [31,33,37,38],zst 6 39 14] [(0,2),(2,4),(0,5),(0,6)]),(.reg [zmv 40 0,zca 41 106 [40,(zki 3)]]),(.cond 41 (zsq [(.reg [zmv 42 0,zLd 43 4 1,zca 44 154 [43],zca 45 105 [42,44],zfa 46 6 9,zst 46 45 1]),(.reg [zmv 47 0,zca 48 108 [47,(zki 4)],zmv 9 48]),(.reg [zLd 49 6 14,zmv 50 9,zca 51 174 [49,50],zmv 52 9,zmv 53 7,zca 54 175 [51,52,53],zst 6 54 14])]) .skip)])),(.reg [zmv 29 8,zbi 30 .sub 29 (zki 1),zmv 8 30])])
def Qtd:List (Nat × Md):=[(0,.b [.d,.d,.d]),(2,.b (zds 14)),(4,.b [.d]),(6,.b (zds 14)),(7,.one .d),(8,.one .d)]
def Qr3:TCode :=
 (zsq [(.reg [zLd 55 6 14,zmv 56 7,zst 2 55 14,zmv 3 56]),.ret])
def QH4:TCode :=
 (zsq [(.reg [zop 2 (.new 63 (z0s Qn)),zmv 3 (.k (.n [TI]))]),(.reg [zmv 10 0,zca 11 198 [10],zop 4 (.new 26 [(.n ctOp)]),zst 4 11 1]),(.reg [zmv 12 0,zca 13 106 [12,(zki 2)],zmv 5 13]),(.draw [zfa 14 4 0,zld 15 14 1,zca 16 82 [(zki 2),(zki 2),(zki 1),(zki 3),(zkb false)],zmv 17 5,zmv 18 0,zca 19 106 [18,(zki 2)],zca 20 94 [15,16,17,19],zop 6 (.new 63 (z0s Qn)),zst 6 20 14] [(0,2),(1,2),(0,5),(1,5),(0,7),(1,7),(2,7),(5,7),(6,7)]),(.reg [zmv 21 0,zLd 22 4 1,zca 23 154 [22],zca 24 105 [21,23],zmv 7 24]),(zsq [(.reg [zmv 25 0,zca 26 108 [25,(zki 4)],zmv 8 26]),(.block 0 (.loop Qtd Qrj))]),Qr3])
def QlL:List (ARv × Md):=[(.l 2 14 true,.b (zds 14)),(.t 3,.one .d)]
def Qpd:Qc:=TQ 1 0 QlL K
def QAB:Qc:=Qseq (tawp QhX 1 Qr3 (Qpd K)) (Qpd K)
def Qwi:Qc:=Qblk 0 (QAB K)
def Qdm (c:((List Int) × Int × Int)) (n:Int) (c0:List Int) (c1:Int) (c2:Int) (s0:Int) (s1:List TIns) (s2:List TOp') (s3:Bool) (s4:Bool) (s5:List Q5) (s6:List (List Int)) (s7:List Int) (s8:List Int) (s9:List Int) (s10:List Int) (s11:List (List Int)) (s12:Int) (s13:Bool):Prop:=let z2:=List.take (((QR c).1).length) (List.drop 0 ((QR c).1))
 let z1:=Zi ((Q1 ((Q1 ((QR c).2) (2:Int)).2) (2:Int)).2) (QP z2)
 Loop QhX 1 Qtd Qrj (Qwi K) ⟨[(0,(.p 0 0 0)),(2,(.p 1 0 0)),(4,(.p 2 0 0)),(6,(.p 3 0 0)),(7,(zcs [TI] (List.take ((z1.1).length) (List.drop 0 (z1.1))))),(8,(zci n))],[(0,(.box [(zcs [(.int .u8)] c0),(zci c1),(zci c2)])),(1,(.box (Tup.cells Qn ((0:Int),[],[],false,false,[],[],[],[],[],[],[],(0:Int),false)))),(2,(.box [(zcs ctOp z2)])),(3,(.box (Tup.cells Qn (s0,s1,s2,s3,s4,s5,s6,s7,s8,s9,s10,s11,s12,s13))))],4⟩
theorem Qor (c:((List Int) × Int × Int)) (n:Int) (c0:List Int) (c1:Int) (c2:Int) (s0:Int) (s1:List TIns) (s2:List TOp') (s3:Bool) (s4:Bool) (s5:List Q5) (s6:List (List Int)) (s7:List Int) (s8:List Int) (s9:List Int) (s10:List Int) (s11:List (List Int)) (s12:Int) (s13:Bool) (h :
 let z3:=List.take (((QR c).1).length) (List.drop 0 ((QR c).1))
 let z10:=Qm (c0,c1,c2) (4:Int)
 let z8:=Zi (z10.2) (QV z3)
 let z4:=Q1 (z8.2) (3:Int)
 let z9:=Zi (z4.2) (QP z3)
 let z7:=Qm (z9.2) (4:Int)
 let z11:=Zi ((Q1 ((Q1 ((QR c).2) (2:Int)).2) (2:Int)).2) (QP z3)
 let z5:=List.take ((z11.1).length) (List.drop 0 (z11.1))
 let z12:=List.take ((z8.1).length) (List.drop 0 (z8.1))
 let z1:=ZM (s0,s1,s2,s3,s4,s5,s6,s7,s8,s9,s10,s11,s12,s13) (z10.1) z12 z5
 let z13:=List.take ((z9.1).length) (List.drop 0 (z9.1))
 let z6:=Z1 (z1.1,z1.2.1,z1.2.2.1,z1.2.2.2.1,z1.2.2.2.2.1,z1.2.2.2.2.2.1,z1.2.2.2.2.2.2.1,z1.2.2.2.2.2.2.2.1,z1.2.2.2.2.2.2.2.2.1,z13,z1.2.2.2.2.2.2.2.2.2.2.1,z1.2.2.2.2.2.2.2.2.2.2.2.1,z1.2.2.2.2.2.2.2.2.2.2.2.2.1,z1.2.2.2.2.2.2.2.2.2.2.2.2.2) (z7.1)
 let z2:=Zg z6 (z7.1) z5
 (zif (decide (n>(0:Int))) (((Zq (c0,c1,c2) (4:Int))∧((Yb (z10.2) (QV z3))∧(JH (s0,s1,s2,s3,s4,s5,s6,s7,s8,s9,s10,s11,s12,s13) (z10.1) z12 z5)))∧((Zq (z8.2) (3:Int))∧(zif (z4.1) ((Yb (z4.2) (QP z3))∧((Zq (z9.2) (4:Int))∧(((Qa6 (z1.1,z1.2.1,z1.2.2.1,z1.2.2.2.1,z1.2.2.2.2.1,z1.2.2.2.2.2.1,z1.2.2.2.2.2.2.1,z1.2.2.2.2.2.2.2.1,z1.2.2.2.2.2.2.2.2.1,z13,z1.2.2.2.2.2.2.2.2.2.2.1,z1.2.2.2.2.2.2.2.2.2.2.2.1,z1.2.2.2.2.2.2.2.2.2.2.2.2.1,z1.2.2.2.2.2.2.2.2.2.2.2.2.2) (z7.1))∧(JR z6 (z7.1) z5))∧(Qdm K c (w64 (n-(1:Int))) ((z7.2).1) ((z7.2).2.1) ((z7.2).2.2) (z2.1) (z2.2.1) (z2.2.2.1) (z2.2.2.2.1) (z2.2.2.2.2.1) (z2.2.2.2.2.2.1) (z2.2.2.2.2.2.2.1) (z2.2.2.2.2.2.2.2.1) (z2.2.2.2.2.2.2.2.2.1) (z2.2.2.2.2.2.2.2.2.2.1) (z2.2.2.2.2.2.2.2.2.2.2.1) (z2.2.2.2.2.2.2.2.2.2.2.2.1) (z2.2.2.2.2.2.2.2.2.2.2.2.2.1) (z2.2.2.2.2.2.2.2.2.2.2.2.2.2))))) (Qdm K c (w64 (n-(1:Int))) ((z4.2).1) ((z4.2).2.1) ((z4.2).2.2) (z1.1) (z1.2.1) (z1.2.2.1) (z1.2.2.2.1) (z1.2.2.2.2.1) (z1.2.2.2.2.2.1) (z1.2.2.2.2.2.2.1) (z1.2.2.2.2.2.2.2.1) (z1.2.2.2.2.2.2.2.2.1) (z1.2.2.2.2.2.2.2.2.2.1) (z1.2.2.2.2.2.2.2.2.2.2.1) (z1.2.2.2.2.2.2.2.2.2.2.2.1) (z1.2.2.2.2.2.2.2.2.2.2.2.2.1) (z1.2.2.2.2.2.2.2.2.2.2.2.2.2))))) (K (Jx ((s0,s1,s2,s3,s4,s5,s6,s7,s8,s9,s10,s11,s12,s13),z5,(c0,c1,c2)))))):Qdm K c n c0 c1 c2 s0 s1 s2 s3 s4 s5 s6 s7 s8 s9 s10 s11 s12 s13 :=
 Loop.of (by kernel_rfl) h
theorem QAT (c:((List Int) × Int × Int)) (h :
 let z3:=List.take (((QR c).1).length) (List.drop 0 ((QR c).1))
 let z4:=Q1 ((QR c).2) (2:Int)
 let z5:=ZR (2:Int) (2:Int) (1:Int) (3:Int) false
 let z7:=Q1 (z4.2) (2:Int)
 let z1:=Ja z3 (List.take (z5.length) (List.drop 0 z5)) (z4.1) (z7.1)
 let z2:=Zi (z7.2) (QP z3)
 let z6:=Qm (z2.2) (4:Int)
 ((QF c)∧((Zq ((QR c).2) (2:Int))∧(((Zq (z4.2) (2:Int))∧(Qfq z3 (List.take (z5.length) (List.drop 0 z5)) (z4.1) (z7.1)))∧((Yb (z7.2) (QP z3))∧((Zq (z2.2) (4:Int))∧(Qdm K c (z6.1) ((z6.2).1) ((z6.2).2.1) ((z6.2).2.2) (z1.1) (z1.2.1) (z1.2.2.1) (z1.2.2.2.1) (z1.2.2.2.2.1) (z1.2.2.2.2.2.1) (z1.2.2.2.2.2.2.1) (z1.2.2.2.2.2.2.2.1) (z1.2.2.2.2.2.2.2.2.1) (z1.2.2.2.2.2.2.2.2.2.1) (z1.2.2.2.2.2.2.2.2.2.2.1) (z1.2.2.2.2.2.2.2.2.2.2.2.1) (z1.2.2.2.2.2.2.2.2.2.2.2.2.1) (z1.2.2.2.2.2.2.2.2.2.2.2.2.2)))))))):Hold (tawp QhX (1+0) QH4 (TQ 1 0 QlL K) (Qe [(.bx [(.c (.sl [(.int .u8)]) c.1),(.c TI c.2.1),(.c TI c.2.2)])])) :=
 Hold.of (by kernel_rfl) h
theorem QoR (c:((List Int) × Int × Int)) (hp:QF c):∃ t:Qb × (List Int) × (((List Int) × Int × Int)),(Qba c t)∧TCon Tryz.prog 180 [(.bx [(.c (.sl [(.int .u8)]) c.1),(.c TI c.2.1),(.c TI c.2.2)])] (Jx t):=by
 refine YB (tcx (n:=57) (sg:=QgT.sg) Qi (TOk.cons QET (TOk.cons QhG (TOk.cons QBn (TOk.cons Qvo (TOk.cons QIi (TOk.cons Qgh (TOk.cons Jy (TOk.cons QDh (TOk.cons QAD (TOk.cons QAj (TOk.cons QJL TOk.nil))))))))))) (by kernel_rfl) (by kernel_rfl) (QAT (fun r'=>∃ t,(Qba c t)∧r'=Jx t) c ?_))
 conv=>zeta
 have hc:QF c:=hp
 have b1:=QAR c hc
 have hM:=b1.1
 have io:=Qmd hM
 have o1:=Qcw (QR c).2 2 b1.2.2
 have o2:=Qcw (Q1 (QR c).2 2).2 2 o1
 have hv:Yb (Q1 (Q1 (QR c).2 2).2 2).2 (QP (QR c).1):=⟨o2,by omega⟩
 have b2:=QaK _ _ hv
 have b3:=Yi (Zi (Q1 (Q1 (QR c).2 2).2 2).2 (QP (QR c).1)).2 4 b2.2.2
 have hn1:=b3.1
 have hn2:=b3.2.1 (by omega)
 have hpl:=Qvb (ds:=2) (n:=2) (s:=1) (M:=3) false (by omega) (by omega) (by omega) (by omega) (by omega) (by omega) (by omega)
 have hmsz:=Qu5 hM
 have hnew:=QGO (QR c).1 (ZR 2 2 1 3 false) (Q1 (QR c).2 2).1 (Q1 (Q1 (QR c).2 2).2 2).1
 have hps:Qfq (QR c).1 (ZR 2 2 1 3 false) (Q1 (QR c).2 2).1 (Q1 (Q1 (QR c).2 2).2 2).1:=⟨by omega,by omega⟩
 simp only [QaU]
 refine ⟨hc,b1.2.2,⟨o1,hps⟩,hv,b2.2.2,?_⟩
 obtain ⟨tt,htt⟩:∃ v,(Zi (Q1 (Q1 (QR c).2 2).2 2).2 (QP (QR c).1)).1=v:=⟨_,rfl⟩
 have htl:tt.length≤6:=by rw [← htt,b2.1];omega
 have key:∀ (k:Nat) (t:TCur) (s:Qb),QF t→k≤3→sOps s=(QR c).1→(Qr s).length=(QR c).1.length→Sz.sz s≤700+400*(3-k) →
   Qdm (fun r'=>∃ t,(Qba c t)∧r'=Jx t) c (k:Int) t.1 t.2.1 t.2.2 s.1 s.2.1 s.2.2.1 s.2.2.2.1 s.2.2.2.2.1 s.2.2.2.2.2.1 s.2.2.2.2.2.2.1 s.2.2.2.2.2.2.2.1 s.2.2.2.2.2.2.2.2.1 s.2.2.2.2.2.2.2.2.2.1 s.2.2.2.2.2.2.2.2.2.2.1 s.2.2.2.2.2.2.2.2.2.2.2.1 s.2.2.2.2.2.2.2.2.2.2.2.2.1 s.2.2.2.2.2.2.2.2.2.2.2.2.2:=by
  intro k
  induction k with
  | zero =>
   intro t s ht hk h1 h2 h3
   refine Qor (fun r'=>∃ t,(Qba c t)∧r'=Jx t) c _ _ _ _ _ _ _ _ _ _ _ _ _ _ _ _ _ _ ?_
   conv=>zeta
   simp only [QaU,Prod.eta]
   rw [htt]
   exact ⟨fun h=>by simp at h,fun _=>ZD ⟨by rw [h1];exact hM,by rw [h1];exact h2,by show Sz.sz s≤3000;omega,htl,ht⟩⟩
  | succ k ih =>
   intro t s ht hk h1 h2 h3
   have c1:=(Yi t 4 ht).2.2.2
   have hv1:Yb (Qm t 4).2 (QV (QR c).1):=⟨c1,by omega⟩
   have c2:=(QaK _ _ hv1).2.2
   have c3:=Qcw (Zi (Qm t 4).2 (QV (QR c).1)).2 3 c2
   refine Qor (fun r'=>∃ t,(Qba c t)∧r'=Jx t) c _ _ _ _ _ _ _ _ _ _ _ _ _ _ _ _ _ _ ?_
   conv=>zeta
   simp only [QaU,Prod.eta]
   rw [htt]
   obtain ⟨y,hy⟩:∃ y,ZM s (Qm t 4).1 (Zi (Qm t 4).2 (QV (QR c).1)).1 tt=y:=⟨_,rfl⟩
   have f1:=QDd s (Qm t 4).1 (Zi (Qm t 4).2 (QV (QR c).1)).1 tt
   have f2:=Qjh s (Qm t 4).1 (Zi (Qm t 4).2 (QV (QR c).1)).1 tt
   rw [hy] at f1 f2
   rw [hy,Qs (x:=((k+1:Nat):Int)-1) (by omega) (by omega),show ((k+1:Nat):Int)-1=k by omega]
   refine ⟨fun _=>⟨⟨ht,hv1,by show Sz.sz s≤_;omega⟩,c2,fun _=>?_,fun _=>?_⟩,fun h=>by simp at h <;> omega⟩
   ·have hv2:Yb (Q1 (Zi (Qm t 4).2 (QV (QR c).1)).2 3).2 (QP (QR c).1):=⟨c3,by omega⟩
    have c4:=QaK _ _ hv2
    have c5:=(Yi (Zi (Q1 (Zi (Qm t 4).2 (QV (QR c).1)).2 3).2 (QP (QR c).1)).2 4 c4.2.2).2.2.2
    refine ⟨hv2,c4.2.2,?_⟩
    obtain ⟨gv,hgv⟩:∃ v,(Zi (Q1 (Zi (Qm t 4).2 (QV (QR c).1)).2 3).2 (QP (QR c).1)).1=v:=⟨_,rfl⟩
    have hgl:gv.length≤6:=by rw [← hgv,c4.1];omega
    rw [hgv]
    obtain ⟨y2,hy2⟩:∃ z:Qb,(y.1,y.2.1,y.2.2.1,y.2.2.2.1,y.2.2.2.2.1,y.2.2.2.2.2.1,y.2.2.2.2.2.2.1,y.2.2.2.2.2.2.2.1,y.2.2.2.2.2.2.2.2.1,gv,y.2.2.2.2.2.2.2.2.2.2.1,y.2.2.2.2.2.2.2.2.2.2.2.1,y.2.2.2.2.2.2.2.2.2.2.2.2.1,y.2.2.2.2.2.2.2.2.2.2.2.2.2)=z:=⟨_,rfl⟩
    have g1:sOps y2=sOps y∧Qr y2=Qr y:=by rw [← hy2];exact ⟨rfl,rfl⟩
    have g2:Sz.sz y2≤Sz.sz y+6:=by
     have e1:=ZB y
     have e2:=ZF gv
     rw [← hy2,ZB]
     ((try simp only [sPc,Qx,sOps,Qq,Qt,Qd,QB,sX,sY,sG,sD,Qr,Qw,sSat,QG,QJ,QH,QI] at *);omega)
    rw [hy2]
    obtain ⟨kk,hkk⟩:∃ v,(Qm (Zi (Q1 (Zi (Qm t 4).2 (QV (QR c).1)).2 3).2 (QP (QR c).1)).2 4).1=v:=⟨_,rfl⟩
    rw [hkk]
    have r1:=Qy6 y2 kk
    have r2:=Qsc y2 kk
    have w1:=QIt (Z1 y2 kk) kk tt (by rw [r1.1,r1.2,g1.1,g1.2,f1.1,f1.2,h1,h2])
    have w2:=Qyb (Z1 y2 kk) kk tt
    refine ⟨⟨by show Sz.sz y2≤_;omega,by show Sz.sz (Z1 y2 kk)≤_;omega⟩,?_⟩
    exact ih _ (Zg (Z1 y2 kk) kk tt) c5 (by omega) (by rw [w1.1,r1.1,g1.1,f1.1,h1]) (by rw [w1.2,r1.1,g1.1,f1.1,h1]) (by omega)
   ·exact ih _ y c3 (by omega) (by rw [f1.1,h1]) (by rw [f1.2,h2]) (by omega)
 have hnew1:sOps (Ja (QR c).1 (ZR 2 2 1 3 false) (Q1 (QR c).2 2).1 (Q1 (Q1 (QR c).2 2).2 2).1)=(QR c).1:=by
  unfold Ja;rw [if_pos hM]
 have hnew2:(Qr (Ja (QR c).1 (ZR 2 2 1 3 false) (Q1 (QR c).2 2).1 (Q1 (Q1 (QR c).2 2).2 2).1)).length=(QR c).1.length:=by
  unfold Ja;rw [if_pos hM];exact (Qms hM).1
 have h:=key (Qm (Zi (Q1 (Q1 (QR c).2 2).2 2).2 (QP (QR c).1)).2 4).1.toNat (Qm (Zi (Q1 (Q1 (QR c).2 2).2 2).2 (QP (QR c).1)).2 4).2 _ b3.2.2.2 (by omega) hnew1 hnew2 (by omega)
 rw [Int.toNat_of_nonneg hn1] at h
 exact h
theorem QDF (c:((List Int) × Int × Int)) (hp:QF c):Qba c (QA c):=(Classical.epsilon_spec (QoR c hp)).1
theorem QDU (c:((List Int) × Int × Int)) (hp:QF c):TCon Tryz.prog 180 [(.bx [(.c (.sl [(.int .u8)]) c.1),(.c TI c.2.1),(.c TI c.2.2)])] (Jx (QA c)):=(Classical.epsilon_spec (QoR c hp)).2
theorem QIZ:Qh Tryz.prog QgT:=Qk fun x h=>QDU x.1 h
def Jo (t:Qb × (List Int) × (((List Int) × Int × Int))):TRes:=⟨(.tp [(.a (Tup.cells Qn t.1)),(zcs [TI] t.2.1)]),[],[[(zcs [(.int .u8)] t.2.2.1),(zci t.2.2.2.1),(zci t.2.2.2.2)]],true,[]⟩
def Y1 (x0:((List Int) × Int × Int)):Qb × (List Int) × (((List Int) × Int × Int)):=Classical.epsilon fun t:Qb × (List Int) × (((List Int) × Int × Int))=>(QfN x0 t)∧TCon Tryz.prog 104 [(.bx [(.c (.sl [(.int .u8)]) x0.1),(.c TI x0.2.1),(.c TI x0.2.2)])] (Jo t)
def Qjb:TRow:=Qg 104 [(.b [(.sl [(.int .u8)]),TI,TI])] fun x=>(some (QF x.1),Jo (Y1 x.1))
def QIF:List TRow:=[QgT,Y6,QbT,QeW]
def QDJ:TCode :=
 (zsq [(.reg [zop 2 (.new 63 (z0s Qn)),zmv 3 (.k (.n [TI]))]),(.reg [zmv 7 0,zca 8 180 [7],zmv 6 8,zex 9 6 0,zex 10 6 1,zop 4 (.new 63 (z0s Qn)),zst 4 9 14,zmv 5 10]),(zsq [(.reg [zmv 11 0,zca 12 108 [11,(zki 14)]]),(.block 0 (zsq [(.reg [zbi 14 .eql 12 (zki 0),zmv 13 14]),(.cond 13 (.reg [zmv 15 0,zop 16 (.bsl 3 [TI] [(zki (-1)),(zki 99)]),zca 17 145 [15,16],zfa 18 4 0,zst 18 17 1]) (zsq [(.reg [zbi 20 .eql 12 (zki 1),zmv 19 20]),(.cond 19 (.reg [zmv 21 0,zca 22 107 [21],zfa 23 4 7,zst 23 22 1]) (zsq [(.reg [zbi 25 .eql 12 (zki 2),zmv 24 25]),(.cond 24 (.reg [zfa 26 4 4,zld 27 26 1,zno 28 27,zfa 29 4 4,zst 29 28 1]) (zsq [(.reg [zbi 31 .eql 12 (zki 3),zmv 30 31]),(.cond 30 (.reg [zfa 32 4 11,zfa 33 32 0,zld 34 33 1,zfa 35 4 11,zfa 36 35 0,zld 37 36 1,zle 38 37,zbi 39 .sub 38 (zki 1),zop 40 (.slc 34 none (some 39) [(.sl [TI])]),zfa 41 4 11,zfa 42 41 0,zst 42 40 1]) .skip)]))]))]))]))]),(.reg [zLd 43 4 14,zmv 44 5,zst 2 43 14,zmv 3 44]),.ret])
def QHM:List (ARv × Md):=[(.l 2 14 true,.b (zds 14)),(.t 3,.one .d)]
theorem QzD (c:((List Int) × Int × Int)) (h :
 let z1:=Qm ((QA c).2.2) (14:Int)
 ((QF c)∧((Zq ((QA c).2.2) (14:Int))∧(zif ((z1.1)==(0:Int)) ((YA (z1.2) ([(-1:Int),(99:Int)]))∧K (Jo (((ZQ (z1.2) ([(-1:Int),(99:Int)])).1,((QA c).1).2.1,((QA c).1).2.2.1,((QA c).1).2.2.2.1,((QA c).1).2.2.2.2.1,((QA c).1).2.2.2.2.2.1,((QA c).1).2.2.2.2.2.2.1,((QA c).1).2.2.2.2.2.2.2.1,((QA c).1).2.2.2.2.2.2.2.2.1,((QA c).1).2.2.2.2.2.2.2.2.2.1,((QA c).1).2.2.2.2.2.2.2.2.2.2.1,((QA c).1).2.2.2.2.2.2.2.2.2.2.2.1,((QA c).1).2.2.2.2.2.2.2.2.2.2.2.2.1,((QA c).1).2.2.2.2.2.2.2.2.2.2.2.2.2),(QA c).2.1,((ZQ (z1.2) ([(-1:Int),(99:Int)])).2)))) (zif ((z1.1)==(1:Int)) ((QF (z1.2))∧K (Jo ((((QA c).1).1,((QA c).1).2.1,((QA c).1).2.2.1,((QA c).1).2.2.2.1,((QA c).1).2.2.2.2.1,((QA c).1).2.2.2.2.2.1,((QA c).1).2.2.2.2.2.2.1,(Jc (z1.2)).1,((QA c).1).2.2.2.2.2.2.2.2.1,((QA c).1).2.2.2.2.2.2.2.2.2.1,((QA c).1).2.2.2.2.2.2.2.2.2.2.1,((QA c).1).2.2.2.2.2.2.2.2.2.2.2.1,((QA c).1).2.2.2.2.2.2.2.2.2.2.2.2.1,((QA c).1).2.2.2.2.2.2.2.2.2.2.2.2.2),(QA c).2.1,((Jc (z1.2)).2)))) (zif ((z1.1)==(2:Int)) (K (Jo ((((QA c).1).1,((QA c).1).2.1,((QA c).1).2.2.1,((QA c).1).2.2.2.1,(!(((QA c).1).2.2.2.2.1)),((QA c).1).2.2.2.2.2.1,((QA c).1).2.2.2.2.2.2.1,((QA c).1).2.2.2.2.2.2.2.1,((QA c).1).2.2.2.2.2.2.2.2.1,((QA c).1).2.2.2.2.2.2.2.2.2.1,((QA c).1).2.2.2.2.2.2.2.2.2.2.1,((QA c).1).2.2.2.2.2.2.2.2.2.2.2.1,((QA c).1).2.2.2.2.2.2.2.2.2.2.2.2.1,((QA c).1).2.2.2.2.2.2.2.2.2.2.2.2.2),(QA c).2.1,(z1.2)))) (zif ((z1.1)==(3:Int)) (((0:Int)≤(0:Int)∧(0:Int)≤w64 (((((QA c).1).2.2.2.2.2.2.2.2.2.2.2.1).length:Int)-(1:Int))∧w64 (((((QA c).1).2.2.2.2.2.2.2.2.2.2.2.1).length:Int)-(1:Int))≤((((QA c).1).2.2.2.2.2.2.2.2.2.2.2.1).length:Int))∧K (Jo ((((QA c).1).1,((QA c).1).2.1,((QA c).1).2.2.1,((QA c).1).2.2.2.1,((QA c).1).2.2.2.2.1,((QA c).1).2.2.2.2.2.1,((QA c).1).2.2.2.2.2.2.1,((QA c).1).2.2.2.2.2.2.2.1,((QA c).1).2.2.2.2.2.2.2.2.1,((QA c).1).2.2.2.2.2.2.2.2.2.1,((QA c).1).2.2.2.2.2.2.2.2.2.2.1,(List.take (Int.toNat (w64 (((((QA c).1).2.2.2.2.2.2.2.2.2.2.2.1).length:Int)-(1:Int)))-Int.toNat (0:Int)) (List.drop (Int.toNat (0:Int)) (((QA c).1).2.2.2.2.2.2.2.2.2.2.2.1))),((QA c).1).2.2.2.2.2.2.2.2.2.2.2.2.1,((QA c).1).2.2.2.2.2.2.2.2.2.2.2.2.2),(QA c).2.1,(z1.2)))) (K (Jo (((QA c).1),(QA c).2.1,(z1.2))))))))))):Hold (tawp QIF (1+0) QDJ (TQ 1 0 QHM K) (Qe [(.bx [(.c (.sl [(.int .u8)]) c.1),(.c TI c.2.1),(.c TI c.2.2)])])) :=
 Hold.of (by kernel_rfl) h
theorem Qtx (c:((List Int) × Int × Int)) (hp:QF c):∃ t:Qb × (List Int) × (((List Int) × Int × Int)),(QfN c t)∧TCon Tryz.prog 104 [(.bx [(.c (.sl [(.int .u8)]) c.1),(.c TI c.2.1),(.c TI c.2.2)])] (Jo t):=by
 refine YB (tcx (n:=45) (sg:=Qjb.sg) Qi (TOk.cons QIZ (TOk.cons Jy (TOk.cons Qe2 (TOk.cons QrN TOk.nil)))) (by kernel_rfl) (by kernel_rfl) (QzD (fun r'=>∃ t,(QfN c t)∧r'=Jo t) c ?_))
 conv=>zeta
 have hc:QF c:=hp
 obtain ⟨h1,h2,h3,h4,h5⟩:=QDF c hc
 have hc2:=(Yi (QA c).2.2 14 h5).2.2.2
 have hx:=Qqa _ hc2
 obtain ⟨s,hs⟩:∃ s,(QA c).1=s:=⟨_,rfl⟩
 rw [hs] at h1 h2 h3 ⊢
 have hml:=Zw h1
 have hss:=ZB s
 refine ⟨hc,h5,fun _=>?_,fun _=>⟨fun _=>?_,fun _=>⟨fun _=>?_,fun _=>⟨fun _=>?_,fun _=>?_⟩⟩⟩⟩
 ·have hpk:YA (Qm (QA c).2.2 14).2 [-1,99]:=⟨hc2,by simp,by simp⟩
  exact ⟨hpk,ZD ⟨h1,by show Sz.sz _≤_;rw [ZB];((try simp only [sPc,Qx,sOps,Qq,Qt,Qd,QB,sX,sY,sG,sD,Qr,Qw,sSat,QG,QJ,QH,QI] at *);omega),h4,(QcO _ _ hpk).2⟩⟩
 ·have hx1:=hx.1
  have hx2:=ZF (Jc (Qm (QA c).2.2 14).2).1
  exact ⟨hc2,ZD ⟨h1,by show Sz.sz _≤_;rw [ZB];((try simp only [sPc,Qx,sOps,Qq,Qt,Qd,QB,sX,sY,sG,sD,Qr,Qw,sSat,QG,QJ,QH,QI] at *);omega),h4,hx.2⟩⟩
 ·exact ZD ⟨h1,by show Sz.sz _≤_;rw [ZB];((try simp only [sPc,Qx,sOps,Qq,Qt,Qd,QB,sX,sY,sG,sD,Qr,Qw,sSat,QG,QJ,QH,QI] at *);omega),h4,hc2⟩
 ·have hr:s.2.2.2.2.2.2.2.2.2.2.2.1.length=s.2.2.1.length:=h2
  have hml2:1≤s.2.2.1.length∧s.2.2.1.length≤8:=hml
  refine ⟨⟨by omega,by rw [Qs (by omega) (by omega)];omega,by rw [Qs (by omega) (by omega)];omega⟩,ZD ⟨h1,?_,h4,hc2⟩⟩
  generalize Int.toNat (w64 ((s.2.2.2.2.2.2.2.2.2.2.2.1.length:Int)-1))-Int.toNat 0=n
  have h6:=Qi6 (List.drop (Int.toNat 0) s.2.2.2.2.2.2.2.2.2.2.2.1) n
  have h7:=QqO s.2.2.2.2.2.2.2.2.2.2.2.1 (Int.toNat 0)
  show Sz.sz _≤_
  rw [ZB]
  ((try simp only [sPc,Qx,sOps,Qq,Qt,Qd,QB,sX,sY,sG,sD,Qr,Qw,sSat,QG,QJ,QH,QI] at *);omega)
 ·exact ZD ⟨h1,by show Sz.sz s≤3100;omega,h4,hc2⟩
theorem QBb (c:((List Int) × Int × Int)) (hp:QF c):QfN c (Y1 c):=(Classical.epsilon_spec (Qtx c hp)).1
theorem QDT (c:((List Int) × Int × Int)) (hp:QF c):TCon Tryz.prog 104 [(.bx [(.c (.sl [(.int .u8)]) c.1),(.c TI c.2.1),(.c TI c.2.2)])] (Jo (Y1 c)):=(Classical.epsilon_spec (Qtx c hp)).2
theorem QCL:Qh Tryz.prog Qjb:=Qk fun x h=>QDT x.1 h
def J1 (t:Qb × Int × (List Int) × (List Int)):TRes:=zra (.tp [(.a (Tup.cells Qn t.1)),(zci t.2.1),(zcs [TI] t.2.2.1),(zcs [TI] t.2.2.2)])
def Qdd (x0:List Int):Qb × Int × (List Int) × (List Int):=Classical.epsilon fun t:Qb × Int × (List Int) × (List Int)=>(Qcb x0 t)∧TCon Tryz.prog 40 [(.c (.sl [(.int .u8)]) x0)] (J1 t)
def Qj8:TRow:=Qg 40 [(.c (.sl [(.int .u8)]))] fun x=>(some (YQ x.1),J1 (Qdd x.1))
def Qmq:List TRow:=[Qjg,Qjb,Qbt,QcW,QeW,Y6]
def Qqn:TCode :=
 (zsq [(.draw [zLd 28 7 14,zmv 29 6,zca 30 108 [29,(zki 5)],zmv 31 9,zmv 32 8,zst 2 28 14,zmv 3 30,zmv 4 31,zmv 5 32] [(0,2)]),.ret])
def QvQ:List (Nat × Md):=[(2,.b (zds 14)),(6,.b [.d,.d,.d]),(7,.b (zds 14)),(8,.one .d),(9,.one .d)]
def QHu:TCode:=.wk QvQ Qqn
def QDl:TCode :=
 (zsq [(.reg [zop 2 (.new 63 (z0s Qn)),zmv 3 (zki 0),zmv 4 (.k (.n [TI])),zmv 5 (.k (.n [TI]))]),(.reg [zmv 10 0,zca 11 69 [10],zmv 6 11]),(.reg [zmv 13 6,zca 14 104 [13],zmv 12 14,zex 15 12 0,zex 16 12 1,zop 7 (.new 63 (z0s Qn)),zst 7 15 14,zmv 8 16]),(.reg [zmv 17 6,zfa 18 7 2,zld 19 18 1,zia 20 19 (zki 0) ctOp,zfa 21 20 1,zld 22 21 1,zca 23 105 [17,22],zmv 9 23]),(zsq [(.reg [zmv 24 6,zca 25 106 [24,(zki 12)]]),(.cond 25 (.reg [zmv 26 6,zca 27 107 [26],zmv 9 27]) .skip)]),QHu])
def Qph:List (ARv × Md):=[(.l 2 14 true,.b (zds 14)),(.t 3,.one .d),(.t 4,.one .d),(.t 5,.one .d)]
def Qy3:Qc:=TQ 0 0 Qph K
@[irreducible] def Qeo (code:List Int) (x:List Int) (c0:List Int) (c1:Int) (c2:Int):Prop:=tawp Qmq 0 Qqn (Qy3 K) ⟨[(2,(.p 0 0 0)),(6,(.p 1 0 0)),(7,(.p 2 0 0)),(8,(zcs [TI] ((Y1 (YZ code)).2.1))),(9,(zcs [TI] x))],[(0,(.box (Tup.cells Qn ((0:Int),[],[],false,false,[],[],[],[],[],[],[],(0:Int),false)))),(1,(.box [(zcs [(.int .u8)] c0),(zci c1),(zci c2)])),(2,(.box (Tup.cells Qn ((Y1 (YZ code)).1))))],3⟩
theorem QGx (code:List Int) (x:List Int) (c0:List Int) (c1:Int) (c2:Int) (h :
 ((Zq (c0,c1,c2) (5:Int))∧K (J1 (((Y1 (YZ code)).1),(Qm (c0,c1,c2) (5:Int)).1,x,(Y1 (YZ code)).2.1)))):Hold (Qeo K code x c0 c1 c2) :=
 Hold.of (by kernel_rfl) h
theorem QE7 (code:List Int) (h :
 let z3:=Y1 (YZ code)
 let z4:=gtd dOp ((z3.1).2.2.1) (Int.toNat (0:Int))
 let z1:=Zi (z3.2.2) (z4.2.1)
 let z2:=Q1 (z1.2) (12:Int)
 ((YQ code)∧((QF (YZ code))∧((((0:Int)≤(0:Int)∧Int.toNat (0:Int)<((z3.1).2.2.1).length)∧(Yb (z3.2.2) (z4.2.1)))∧((Zq (z1.2) (12:Int))∧(zif (z2.1) ((QF (z2.2))∧(Qeo K code ((Jc (z2.2)).1) (((Jc (z2.2)).2).1) (((Jc (z2.2)).2).2.1) (((Jc (z2.2)).2).2.2))) (Qeo K code (List.take ((z1.1).length) (List.drop 0 (z1.1))) ((z2.2).1) ((z2.2).2.1) ((z2.2).2.2)))))))):Hold (tawp Qmq (0+0) QDl (TQ 0 0 Qph K) (Qe [(.c (.sl [(.int .u8)]) code)])) :=
 Hold.of (by kernel_rfl) h
theorem Ql8 (code:List Int) (hp:YQ code):∃ t:Qb × Int × (List Int) × (List Int),(Qcb code t)∧TCon Tryz.prog 40 [(.c (.sl [(.int .u8)]) code)] (J1 t):=by
 refine YB (tcx (n:=33) (sg:=Qj8.sg) Qi (TOk.cons QyY (TOk.cons QCL (TOk.cons Qgh (TOk.cons QhG (TOk.cons QrN (TOk.cons Jy TOk.nil)))))) (by kernel_rfl) (by kernel_rfl) (QE7 (fun r'=>∃ t,(Qcb code t)∧r'=J1 t) code ?_))
 conv=>zeta
 have h0:=Qwj code hp
 obtain ⟨h1,h2,h3,h4⟩:=QBb _ h0
 obtain ⟨s,hs⟩:∃ s,(Y1 (YZ code)).1=s:=⟨_,rfl⟩
 rw [hs] at h1 h2 ⊢
 have hml:1≤s.2.2.1.length∧s.2.2.1.length≤8:=Zw h1
 have hop:=JT (Qeu (m:=s.2.2.1) h1 (k:=0) (by omega))
 have hv:Yb (Y1 (YZ code)).2.2 (gtd dOp s.2.2.1 0).2.1:=⟨h4,by omega⟩
 have b1:=(QaK _ _ hv).2.2
 have b2:=Qcw (Zi (Y1 (YZ code)).2.2 (gtd dOp s.2.2.1 0).2.1).2 12 b1
 have hx:=Qqa _ b2
 have key:∀ (x:List Int) (t:TCur),QF t→Qeo (fun r'=>∃ t,(Qcb code t)∧r'=J1 t) code x t.1 t.2.1 t.2.2:=by
  intro x t ht
  refine (QGx (fun r'=>∃ t,(Qcb code t)∧r'=J1 t) code _ _ _ _ ?_).h
  rw [hs]
  exact ⟨ht,ZD ⟨h1,h2⟩⟩
 refine ⟨hp,h0,⟨⟨by omega,by show 0<s.2.2.1.length;omega⟩,hv⟩,b1,fun _=>⟨b2,key _ _ hx.2⟩,fun _=>key _ _ b2⟩
theorem QCV (code:List Int) (hp:YQ code):Qcb code (Qdd code):=(Classical.epsilon_spec (Ql8 code hp)).1
theorem QGk (code:List Int) (hp:YQ code):TCon Tryz.prog 40 [(.c (.sl [(.int .u8)]) code)] (J1 (Qdd code)):=(Classical.epsilon_spec (Ql8 code hp)).2
theorem QC4:Qh Tryz.prog Qj8:=Qk fun x h=>QGk x.1 h
end
end Go.Proofs.YtjbdljkhbglnhaaGreat.Am

