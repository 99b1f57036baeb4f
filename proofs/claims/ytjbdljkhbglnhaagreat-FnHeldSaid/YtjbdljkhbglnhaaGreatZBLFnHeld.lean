/-
  Written by program: the code of functions, what it asks, and that it comes to what the models say.
-/
import Derived.Test.YtjbdljkhbglnhaaGreatZBD1
import Derived.Test.YtjbdljkhbglnhaaGreatZBD6
import Derived.Test.YtjbdljkhbglnhaaGreatZBP7
import Derived.Test.YtjbdljkhbglnhaaGreatZBPQ
import Derived.Test.YtjbdljkhbglnhaaGreatZBD7
import Derived.Test.YtjbdljkhbglnhaaGreatZBPR
import Derived.Test.YtjbdljkhbglnhaaGreatZBPD
import Derived.Test.YtjbdljkhbglnhaaGreatZBPC
import Derived.Test.YtjbdljkhbglnhaaGreatZBP3
import Derived.Test.YtjbdljkhbglnhaaGreatZBP6
import Derived.Test.YtjbdljkhbglnhaaGreatZBKL
namespace Go.Proofs.YtjbdljkhbglnhaaGreat.Am
open Go Go.RowKit Go.Proofs.YtjbdljkhbglnhaaGreat
set_option linter.all false
set_option maxHeartbeats 2000000
noncomputable section
variable (K:TRes→Prop)
def Jh (t:Bool):TRes:=zre (zcb t)
def QEL:TRow:=Qi 7 [(.c (.sl [(.int .u8)]))] fun x=>(none,Jh (QaC x.1))
def Qbd:List TRow:=[Qjs,QjH,QmU,Qmc,Qmb,QlH,Ql0,Qmh,Qlr,Qlt,QlU,QiV,Qe4]
def Qn0:TCode :=
 (zsq [(.draw [zfa 90 5 1,zld 91 90 1,zle 92 91,zmv 93 8,zle 94 93,zbi 95 .neq 92 94,zmv 96 95,.grp 96 false [zmv 97 8,zmv 98 9,zia 99 97 98 [TI],zld 100 99 1,zmv 101 10,zbi 102 .gtr 100 101] 103 102,zmv 104 103,.grp 104 false [zfa 105 5 1,zld 106 105 1,zmv 107 9,zia 108 106 107 Qv,zLd 109 108 14,zca 110 45 [109],zLd 111 3 6,zmv 112 9,zmv 113 4,zle 114 113,zca 115 54 [111,112,114],zbi 116 .gtr 110 115] 117 116] [(20,21),(20,24)]),(.cond 117 (zsq [(.reg [zmv 2 (zkb false)]),.ret]) .skip)])
def QPf:List (Nat × Md):=[(3,.b (zds 6)),(4,.one .d),(5,.b (zds 4)),(6,.one .d),(7,.one .d),(8,.one .d),(9,.one .d),(10,.one .d)]
def QOY:TCode:=.wk QPf Qn0
def Qrd:TCode :=
 (.reg [zmv 76 9,zbi 77 .add 76 (zki 1),zmv 9 77])
def Qlf:TCode :=
 (zsq [(zsq [(.reg [zmv 72 9,zmv 73 8,zle 74 73,zbi 75 .lss 72 74]),(.cond 75 .skip (.exit 2))]),(.block 3 (zsq [(.reg [zmv 78 4,zle 79 78,zmv 10 79]),(zsq [(.reg [zfa 80 3 2,zld 81 80 1,zbi 82 .eql 81 (zki 2)]),(.cond 82 (.reg [zmv 83 4,zle 84 83,zmv 85 8,zle 86 85,zmv 87 9,zbi 88 .sub 86 87,zop 89 (.mm false 84 88),zmv 10 89]) .skip)]),QOY])),Qrd])
def Qhp:List (Nat × Md):=[(3,.b (zds 6)),(4,.one .d),(5,.b (zds 4)),(6,.one .d),(7,.one .d),(8,.one .d),(9,.one .d)]
def Qto:TCode :=
 (.reg [zmv 34 7,zbi 35 .add 34 (zki 1),zmv 7 35])
def QlY:TCode :=
 (zsq [(zsq [(.reg [zmv 30 7,zmv 31 6,zle 32 31,zbi 33 .lss 30 32]),(.cond 33 .skip (.exit 0))]),(.block 1 (zsq [(.draw [zLd 36 5 4,zmv 37 6,zmv 38 7,zia 39 37 38 [TI],zld 40 39 1,zca 41 33 [36,40],zst 5 41 4] []),(.reg [zLd 42 5 4,zca 43 49 [42],zmv 8 43]),(zsq [(.reg [zLd 44 3 6,zLd 45 5 4,zca 46 50 [44,45],zno 47 46,zmv 48 47,.grp 48 false [zLd 49 3 6,zLd 50 5 4,zca 51 51 [49,50],zno 52 51] 53 52,zmv 54 53,.grp 54 false [zLd 55 5 4,zca 56 52 [55],zno 57 56] 58 57,zmv 59 58,.grp 59 false [zLd 60 5 4,zca 61 53 [60],zno 62 61] 63 62,zmv 64 63,.grp 64 false [zmv 65 8,zle 66 65,zfa 67 3 3,zld 68 67 1,zle 69 68,zbi 70 .neq 66 69] 71 70]),(.cond 71 (zsq [(.reg [zmv 2 (zkb false)]),.ret]) .skip)]),(.reg [zmv 9 (zki 0)]),(.block 2 (.loop Qhp Qlf))])),Qto])
def Qir:List (Nat × Md):=[(3,.b (zds 6)),(4,.one .d),(5,.b (zds 4)),(6,.one .d),(7,.one .d)]
def QyJ:TCode :=
 (zsq [(.reg [zmv 2 (zkb true)]),.ret])
def QN1:TCode :=
 (zsq [(.reg [zmv 2 (zkb false)]),(zsq [(.reg [zmv 11 0,zca 12 13 [11]]),(.cond 12 (zsq [(.reg [zmv 2 (zkb true)]),.ret]) .skip)]),(.reg [zmv 14 0,zca 15 14 [14],zmv 13 15,zex 16 13 0,zex 17 13 1,zop 3 (.new 30 (z0s QK)),zst 3 16 6,zmv 4 17]),(zsq [(.reg [zLd 18 3 6,zmv 19 4,zca 20 16 [18,19],zbi 21 .neq 20 (zki 0)]),(.cond 21 (zsq [(.reg [zmv 2 (zkb true)]),.ret]) .skip)]),(.reg [zLd 22 3 6,zmv 23 4,zca 24 15 [22,23],zop 5 (.new 37 (z0s QX)),zst 5 24 4]),(.reg [zmv 25 0,zfa 26 3 3,zld 27 26 1,zle 28 27,zca 29 18 [25,28],zmv 6 29]),(zsq [(.reg [zmv 7 (zki 0)]),(.block 0 (.loop Qir QlY))]),QyJ])
def Qwm:List (ARv × Md):=[(.t 2,.one .d)]
def Qy8:Qb:=TQ 0 0 Qwm K
def QGr:Qb:=Qseq (tawp Qbd 0 QyJ (Qy8 K)) (Qy8 K)
def Qnn:Qb:=Qblk 0 (QGr K)
def Qs8:Qb:=Qseq (fun s'=>Loop Qbd 0 Qir QlY (Qnn K) (gc 0 Qir s')) (Qnn K)
def QM3:Qb:=Qseq (tawp Qbd 0 Qto (Qs8 K)) (Qs8 K)
def QNS:Qb:=Qblk 1 (QM3 K)
def QjW:Qb:=Qblk 2 (QNS K)
def Qt7:Qb:=Qseq (fun s'=>Loop Qbd 0 Qhp Qlf (QjW K) (gc 0 Qhp s')) (QjW K)
def QCZ:Qb:=Qseq (tawp Qbd 0 Qrd (Qt7 K)) (Qt7 K)
def QLO:Qb:=Qblk 3 (QCZ K)
def QfO (code:List Int) (most:Int) (s:Int) (i:Int) (p0:List Qg) (p1:List Qc) (p2:List Qd) (p3:List Qd):Prop:=tawp Qbd 0 Qn0 (QLO K) ⟨[(3,(.p 0 0 0)),(4,(zcs QB ((ZE code).2))),(5,(.p 1 0 0)),(6,(zcs [TI] (Ju code ((((ZE code).1).2.2.2.1).length:Int)))),(7,(zci i)),(8,(zcs [TI] (Y9 (ZS (p0,p1,p2,p3) (gtd (0:Int) (Ju code ((((ZE code).1).2.2.2.1).length:Int)) (Int.toNat i)))))),(9,(zci s)),(10,(zci most))],[(0,(.box (Tup.cells QK ((ZE code).1)))),(1,(.box (Tup.cells QX (ZS (p0,p1,p2,p3) (gtd (0:Int) (Ju code ((((ZE code).1).2.2.2.1).length:Int)) (Int.toNat i))))))],2⟩
def QgK (code:List Int) (s:Int) (i:Int) (p0:List Qg) (p1:List Qc) (p2:List Qd) (p3:List Qd):Prop:=Loop Qbd 0 Qhp Qlf (QjW K) ⟨[(3,(.p 0 0 0)),(4,(zcs QB ((ZE code).2))),(5,(.p 1 0 0)),(6,(zcs [TI] (Ju code ((((ZE code).1).2.2.2.1).length:Int)))),(7,(zci i)),(8,(zcs [TI] (Y9 (ZS (p0,p1,p2,p3) (gtd (0:Int) (Ju code ((((ZE code).1).2.2.2.1).length:Int)) (Int.toNat i)))))),(9,(zci s))],[(0,(.box (Tup.cells QK ((ZE code).1)))),(1,(.box (Tup.cells QX (ZS (p0,p1,p2,p3) (gtd (0:Int) (Ju code ((((ZE code).1).2.2.2.1).length:Int)) (Int.toNat i))))))],2⟩
def Qgn (code:List Int) (i:Int) (p0:List Qg) (p1:List Qc) (p2:List Qd) (p3:List Qd):Prop:=Loop Qbd 0 Qir QlY (Qnn K) ⟨[(3,(.p 0 0 0)),(4,(zcs QB ((ZE code).2))),(5,(.p 1 0 0)),(6,(zcs [TI] (Ju code ((((ZE code).1).2.2.2.1).length:Int)))),(7,(zci i))],[(0,(.box (Tup.cells QK ((ZE code).1)))),(1,(.box (Tup.cells QX (p0,p1,p2,p3))))],2⟩
theorem QJX (code:List Int) (most:Int) (s:Int) (i:Int) (p0:List Qg) (p1:List Qc) (p2:List Qd) (p3:List Qd) (h :
 let z1:=ZS (p0,p1,p2,p3) (gtd (0:Int) (Ju code ((((ZE code).1).2.2.2.1).length:Int)) (Int.toNat i))
 let z2:=Y9 z1
 ((((!(((z1.2.1).length:Int) != (z2.length:Int)))=true→((0:Int)≤s∧Int.toNat s<z2.length))∧((!((((z1.2.1).length:Int) != (z2.length:Int))||(decide ((gtd (0:Int) z2 (Int.toNat s))>most))))=true→((0:Int)≤s∧Int.toNat s<(z1.2.1).length)))∧(zif (((((z1.2.1).length:Int) != (z2.length:Int))||(decide ((gtd (0:Int) z2 (Int.toNat s))>most)))||(decide ((ZJ (gtd QW (z1.2.1) (Int.toNat s)))>(Zs ((ZE code).1) s (((ZE code).2).length:Int))))) (K (Jh false)) (QgK K code (w64 (s+(1:Int))) i p0 p1 p2 p3)))):Hold (QfO K code most s i p0 p1 p2 p3) :=
 Hold.of (by kernel_rfl) h
theorem Qt8 (code:List Int) (s:Int) (i:Int) (p0:List Qg) (p1:List Qc) (p2:List Qd) (p3:List Qd) (h :
 let z2:=ZE code
 let z1:=ZS (p0,p1,p2,p3) (gtd (0:Int) (Ju code (((z2.1).2.2.2.1).length:Int)) (Int.toNat i))
 let z3:=w64 (((Y9 z1).length:Int)-s)
 (zif (decide (s<((Y9 z1).length:Int))) (zif (((z2.1).2.2.1)==(2:Int)) (QfO K code (if z3<((z2.2).length:Int) then z3 else ((z2.2).length:Int)) s i p0 p1 p2 p3) (QfO K code ((z2.2).length:Int) s i p0 p1 p2 p3)) (Qgn K code (w64 (i+(1:Int))) (z1.1) (z1.2.1) (z1.2.2.1) (z1.2.2.2)))):QgK K code s i p0 p1 p2 p3 :=
 Loop.of (by kernel_rfl) h
theorem Qwp (code:List Int) (i:Int) (p0:List Qg) (p1:List Qc) (p2:List Qd) (p3:List Qd) (h :
 let z3:=ZE code
 let z2:=Ju code (((z3.1).2.2.2.1).length:Int)
 let z1:=ZS (p0,p1,p2,p3) (gtd (0:Int) z2 (Int.toNat i))
 (zif (decide (i<(z2.length:Int))) ((((0:Int)≤i∧Int.toNat i<z2.length)∧(QgV (p0,p1,p2,p3) (gtd (0:Int) z2 (Int.toNat i))))∧((QC (α:=Qn) z1)∧(zif (((((!(YJ (z3.1) z1))||(!(YJ (z3.1) z1)))||(!(ZR z1)))||(!(ZR z1)))||(((Y9 z1).length:Int) != (((z3.1).2.2.2.1).length:Int))) (K (Jh false)) (QgK K code 0 i p0 p1 p2 p3)))) (K (Jh true)))):Qgn K code i p0 p1 p2 p3 :=
 Loop.of (by kernel_rfl) h
theorem QCz (code:List Int) (h :
 (zif (Qer code) (K (Jh true)) ((Qai code)∧(zif ((Zl ((ZE code).1) ((ZE code).2)) != (0:Int)) (K (Jh true)) (Qgn K code 0 ((Yt ((ZE code).1) ((ZE code).2)).1) ((Yt ((ZE code).1) ((ZE code).2)).2.1) ((Yt ((ZE code).1) ((ZE code).2)).2.2.1) ((Yt ((ZE code).1) ((ZE code).2)).2.2.2)))))):Hold (tawp Qbd (0+0) QN1 (TQ 0 0 Qwm K) (Qf [(.c (.sl [(.int .u8)]) code)])) :=
 Hold.of (by kernel_rfl) h
theorem l_FnHeld_h (code:List Int):TCon Tryz.prog 7 [(.c (.sl [(.int .u8)]) code)] (Jh (QaC code)):=by
 refine Qr rfl fun hb=>tcg (n:=118) (sg:=QEL.sg) Qk (TOk.cons QzG (TOk.cons QIL (TOk.cons QPT (TOk.cons QJk (TOk.cons QA5 (TOk.cons QGQ (TOk.cons QPN (TOk.cons QI2 (TOk.cons QGz (TOk.cons QAw (TOk.cons QN9 (TOk.cons QvK (TOk.cons Qnq TOk.nil))))))))))))) (by kernel_rfl) (by kernel_rfl) (QCz _ code ?_)
 have hl_code:code.length≤9223372036854775807:=hb.1.1
 refine ⟨fun _=>R_eq rfl,fun hb=>?_⟩
 have hn:=QD4 hb
 obtain ⟨⟨c,b⟩,hr⟩:∃ r,ZE code=r:=⟨_,rfl⟩
 rw [hr]
 simp only
 refine ⟨hn,fun h=>R_eq rfl,fun h=>?_⟩
 have h0:Zl c b=0:=by simpa using h
 have A:=Qjp h0
 have h1:=QNB c b
 have hns:=QdQ A
 have hrl:(c.2.2.2.1.length:Int)=(nSt c:Nat):=by rw [QKF A]
 have hpk:=QO7 code (c.2.2.2.1.length:Int)
 obtain ⟨l,hl⟩:∃ l,Ju code (c.2.2.2.1.length:Int)=l:=⟨_,rfl⟩
 rw [hl] at hpk
 have hpk:l.length≤60:=hpk
 have hb5:=QAR A
 have key:∀ (rem k:Nat) (q:Qn),k+rem=l.length→(∃ ks,Ok c b ks∧q=Zd c b ks)→Sz.sz q≤300000+100*k→Qgn (fun r'=>r'=Jh (QaC code)) code (k:Int) q.1 q.2.1 q.2.2.1 q.2.2.2:=by
  intro rem
  induction rem with
  | zero =>
   intro k q h2 hq hz
   refine Qwp (fun r'=>r'=Jh (QaC code)) code _ _ _ _ _ ?_
   conv=>zeta
   rw [hr]
   simp only
   rw [hl]
   exact ⟨fun h=>by simp at h;omega,fun _=>R_eq rfl⟩
  | succ rem ih =>
   intro k q h2 hq hz
   obtain ⟨ks,V,hq⟩:=hq
   obtain ⟨ks',V',hk',_⟩:=QCg A V (gtd 0 l k)
   have hps:=QDS q (gtd 0 l k)
   have ih':=ih (k+1) (ZS q (gtd 0 l k)) (by omega) ⟨ks',V',by rw [hq,hk']⟩ (by omega)
   have hlen:(Zd c b ks').2.1.length=nSt c:=Qc1 ks'
   have hk'':ZS q (gtd 0 l k)=Zd c b ks':=by rw [hq,hk']
   have hsl:(Y9 (Zd c b ks')).length=nSt c:=by rw [QuB A];simp
   have hw1:=QJ1 A V'
   have hw2:=QNV A V'
   rw [hk''] at ih' hps
   refine Qwp (fun r'=>r'=Jh (QaC code)) code _ _ _ _ _ ?_
   conv=>zeta
   rw [hr]
   simp only
   rw [hl,Int.toNat_natCast]
   rw [show ((q.1,q.2.1,q.2.2.1,q.2.2.2):Qn)=q from rfl,hk'',hw1,hw2,hsl,hrl]
   refine ⟨fun _=>⟨⟨⟨by omega,by omega⟩,by unfold QgV;omega⟩,by unfold QC;omega,fun h=>by simp at h,fun _=>?_⟩,fun h=>by simp at h;omega⟩
   refine Qap (nSt c) (fun s=>QgK (fun r'=>r'=Jh (QaC code)) code (s:Int) (k:Int) q.1 q.2.1 q.2.2.1 q.2.2.2) ?_ ?_
   ·refine Qt8 (fun r'=>r'=Jh (QaC code)) code _ _ _ _ _ _ ?_
    conv=>zeta
    rw [hr]
    simp only
    rw [hl,Int.toNat_natCast,sc1 (k:=k) (by omega)]
    rw [show ((q.1,q.2.1,q.2.2.1,q.2.2.2):Qn)=q from rfl,hk'',hsl]
    exact ⟨fun h=>by simp at h,fun _=>ih'⟩
   ·intro s hs ih2
    have hcnt:=QGa A V' hs
    have hst:gtd QW (Zd c b ks').2.1 s=stAt c b s (ks' s):=Qlc ks' hs
    have hled:=(Qst A hs (V'.le s hs)).1
    have hgs:gtd 0 (Y9 (Zd c b ks')) s=((F c b s (ks' s)-G c b s (ks' s):Nat):Int):=by
     rw [QuB A];exact Qgc _ _ _ hs
    have k6:∀ most:Int,most=cntS c b s→QfO (fun r'=>r'=Jh (QaC code)) code most (s:Int) (k:Int) q.1 q.2.1 q.2.2.1 q.2.2.2:=by
     intro most hmost
     refine (QJX (fun r'=>r'=Jh (QaC code)) code _ _ _ _ _ _ _ ?_).h
     conv=>zeta
     rw [hr]
     simp only
     rw [hl,Int.toNat_natCast,Int.toNat_natCast,sc1 (k:=s) (by omega)]
     rw [show ((q.1,q.2.1,q.2.2.1,q.2.2.2):Qn)=q from rfl,hk'',hsl,hlen,hgs,hst]
     refine ⟨⟨fun _=>⟨by omega,by omega⟩,fun _=>⟨by omega,by omega⟩⟩,fun h=>?_,fun _=>ih2⟩
     simp at h;omega
    refine Qt8 (fun r'=>r'=Jh (QaC code)) code _ _ _ _ _ _ ?_
    conv=>zeta
    rw [hr]
    simp only
    rw [hl,Int.toNat_natCast,sc1 (k:=k) (by omega)]
    rw [show ((q.1,q.2.1,q.2.2.1,q.2.2.2):Qn)=q from rfl,hk'',hsl,Qp (x:=((nSt c:Nat):Int)-s) (by omega) (by omega)]
    refine ⟨fun _=>⟨fun h=>k6 _ ?_,fun h=>k6 _ ?_⟩,fun h=>by simp at h;omega⟩
    ·have h:c.2.2.1=2:=by simpa using h
     unfold cntS iMin
     rw [if_pos h]
    ·have h:¬ c.2.2.1=2:=by simpa using h
     unfold cntS
     rw [if_neg h]
 exact key l.length 0 (Yt c b) (by omega) ⟨_,QCu A,QGI A⟩ (by omega)
end
end Go.Proofs.YtjbdljkhbglnhaaGreat.Am

