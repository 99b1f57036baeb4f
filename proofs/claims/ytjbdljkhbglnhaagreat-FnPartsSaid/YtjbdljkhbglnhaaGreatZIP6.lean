/- -/
import Derived.Test.YtjbdljkhbglnhaaGreatZIP5
import Derived.Test.YtjbdljkhbglnhaaGreatZIP1
namespace Go.Proofs.YtjbdljkhbglnhaaGreat.Am
open Go Go.RowKit Go.Proofs.YtjbdljkhbglnhaaGreat
set_option linter.all false
set_option maxHeartbeats 2000000
noncomputable section
variable (K:TRes→Prop)
def Qcw (t:Int):TRes:=zre (zci t)
def Qhl:TRow:=Qk 156 [(.a ZW),(.c TI)] fun x=>(none,Qcw (Yv x.1 x.2.1))
def QpT:List TRow:=[Qer]
def QsP:TCode :=
 (zsq [(zsq [(.reg [zmv 19 8,zmv 20 6,zbi 21 .lss 19 20]),(.cond 21 .skip (.exit 0))]),(.block 1 (.reg [zmv 24 7,zfa 25 2 0,zfa 26 25 0,zld 27 26 1,zmv 28 8,zia 29 27 28 ctOp,zfa 30 29 1,zld 31 30 1,zbi 32 .add 24 31,zmv 7 32])),(.reg [zmv 22 8,zbi 23 .add 22 (zki 1),zmv 8 23])])
def QD2:List (Nat × Md):=[(2,.b (zds 6)),(5,.one .d),(6,.one .d),(7,.one .d),(8,.one .d)]
def Qre:TCode :=
 (zsq [(zsq [(.reg [zmv 33 6,zmv 34 5,zbi 35 .gtr 33 34]),(.cond 35 (.reg [zmv 36 7,zfa 37 2 0,zfa 38 37 0,zld 39 38 1,zmv 40 6,zbi 41 .sub 40 (zki 1),zia 42 39 41 ctOp,zfa 43 42 2,zld 44 43 1,zbi 45 .add 36 44,zmv 7 45]) .skip)]),(.reg [zmv 46 7,zmv 4 46]),.ret])
def QQ8:TCode :=
 (zsq [(.reg [zop 2 (.box 30 0 6),zmv 4 (zki 0)]),(.reg [zfa 10 2 0,zLd 11 10 1,zfa 12 2 1,zld 13 12 1,zmv 14 1,zca 15 93 [11,13,14],zmv 9 15,zex 16 9 0,zex 17 9 1,zmv 5 16,zmv 6 17]),(.reg [zmv 7 (zki 0)]),(zsq [(.reg [zmv 18 5,zmv 8 18]),(.block 0 (.loop QD2 QsP))]),Qre])
def QxF:List (ARv × Md):=[(.t 4,.one .d)]
def Qu4:Qb:=TQ 0 0 QxF K
def QH5:Qb:=Qseq (tawp QpT 0 Qre (Qu4 K)) (Qu4 K)
def QLK:Qb:=Qblk 0 (QH5 K)
def QjH (c:QM) (s:Int) (n:Int) (i:Int):Prop:=Loop QpT 0 QD2 QsP (QLK K) ⟨[(2,(.p 0 0 0)),(5,(zci ((QV c.1 c.2.1 s).1))),(6,(zci ((QV c.1 c.2.1 s).2))),(7,(zci n)),(8,(zci i))],[(0,(.box (Tup.cells ZW c)))],1⟩
theorem Qzu (c:QM) (s:Int) (n:Int) (i:Int) (h :
 (zif (decide (i<((QV c.1 c.2.1 s).2))) (((0:Int)≤i∧Int.toNat i<(c.1).length)∧(QjH K c s (w64 (n+((gtd dOp c.1 (Int.toNat i)).2.1))) (w64 (i+(1:Int))))) (zif (decide (((QV c.1 c.2.1 s).2)>((QV c.1 c.2.1 s).1))) (((0:Int)≤w64 (((QV c.1 c.2.1 s).2)-(1:Int))∧Int.toNat (w64 (((QV c.1 c.2.1 s).2)-(1:Int)))<(c.1).length)∧K (Qcw (w64 (n+((gtd dOp c.1 (Int.toNat (w64 (((QV c.1 c.2.1 s).2)-(1:Int))))).2.2.1))))) (K (Qcw n))))):QjH K c s n i :=
 Loop.of (by kernel_rfl) h
theorem QH9 (c:QM) (s:Int) (h :
 (QjH K c s 0 ((QV c.1 c.2.1 s).1))):Hold (tawp QpT (0+0) QQ8 (TQ 0 0 QxF K) (Qi [(.a (Tup.cells ZW c)),(.c TI s)])) :=
 Hold.of (by kernel_rfl) h
theorem QE0 (c:QM) (s:Int):TCon Tryz.prog 156 [(.a (Tup.cells ZW c)),(.c TI s)] (Qcw (Yv c s)):=by
 refine Qo rfl fun hb=>tcg (n:=47) (sg:=Qhl.sg) Qm (TOk.cons Qgx TOk.nil) (by kernel_rfl) (by kernel_rfl) (QH9 _ c s ?_)
 have hl_c_0:(c.1).length≤9223372036854775807:=hb.1.1.1
 have hl_c_1:(c.2.1).length≤9223372036854775807:=hb.1.2.1.1
 have hl_c_3:(c.2.2.2.1).length≤9223372036854775807:=hb.1.2.2.2.1.1
 have hl_c_4:(c.2.2.2.2.1).length≤9223372036854775807:=hb.1.2.2.2.2.1.1
 have hl_c_5:(c.2.2.2.2.2).length≤9223372036854775807:=hb.1.2.2.2.2.2.1.1
 have hr:=Qfv c.1 c.2.1 s
 generalize hz:(if (QV c.1 c.2.1 s).1<(QV c.1 c.2.1 s).2 then (gtd dOp c.1 ((QV c.1 c.2.1 s).2.toNat-1)).2.2.1 else 0)=z
 have:=QzA c.1 _ _ hr.1 hr.2.1 hr.2.2.1 (fun r k=>∀ y:Int,w64 (y+(r.map fun o=>o.2.1).sum+z)=(Yv c s)→QjH (fun r'=>r'=Qcw (Yv c s)) c s (w64 y) k) ?_ ?_ 0 (by simp [Yv,hz])
 ·rw [show (((QV c.1 c.2.1 s).1.toNat:Nat):Int)=(QV c.1 c.2.1 s).1 by omega] at this
  exact this
 ·intro y he
  refine Qzu (fun r'=>r'=Qcw (Yv c s)) c s _ _ ⟨fun h=>by simp at h;omega,fun _=>⟨fun h=>?_,fun h=>R_eq ?_⟩⟩
  ·have hlt:(QV c.1 c.2.1 s).1<(QV c.1 c.2.1 s).2:=by simpa using h
   have e1:Int.toNat (w64 ((QV c.1 c.2.1 s).2-1))=(QV c.1 c.2.1 s).2.toNat-1∧(0:Int)≤w64 ((QV c.1 c.2.1 s).2-1):=by
    rw [Qp (by omega) (by omega)];omega
   refine ⟨⟨e1.2,by rw [e1.1];omega⟩,R_eq ?_⟩
   rw [if_pos hlt] at hz
   rw [e1.1,Qme,← he,← hz]
   simp
  ·rw [if_neg (by simpa using h)] at hz
   rw [← he,← hz]
   simp
 ·intro k x r h1 h2 hlt hg ih y he
  refine Qzu (fun r'=>r'=Qcw (Yv c s)) c s _ _ ⟨fun _=>?_,fun h=>by simp at h;omega⟩
  rw [Int.toNat_natCast,hg,Qp (x:=(k:Int)+1) (by omega) (by omega),Qme]
  refine ⟨⟨by omega,hlt⟩,ih _ ?_⟩
  rw [← he,List.map_cons,List.sum_cons]
  congr 1
  omega
theorem QzS:Ql Tryz.prog Qhl:=Qn fun x _=>QE0 x.1 x.2.1
def Qjd (t:Int):TRes:=zre (zci t)
def QmL:TRow:=Qk 155 [(.a ZW),(.c TI)] fun x=>(none,Qjd (YR x.1 x.2.1))
def QEn:List TRow:=[Qer,Qhl]
def QHa:TCode :=
 (zsq [(.reg [zop 2 (.box 30 0 6),zmv 4 (zki 0)]),(.reg [zfa 8 2 0,zLd 9 8 1,zfa 10 2 1,zld 11 10 1,zmv 12 1,zca 13 93 [9,11,12],zmv 7 13,zex 14 7 0,zex 15 7 1,zmv 5 14,zmv 6 15]),(zsq [(.reg [zmv 16 6,zmv 17 5,zbi 18 .gtr 16 17,zmv 19 18,.grp 19 true [zmv 20 1,zfa 21 2 3,zld 22 21 1,zle 23 22,zbi 24 .lss 20 23] 25 24,zmv 26 25,.grp 26 true [zfa 27 2 3,zld 28 27 1,zmv 29 1,zia 30 28 29 [.bool],zld 31 30 1] 32 31]),(.cond 32 (zsq [(.reg [zfa 33 2 0,zfa 34 33 0,zld 35 34 1,zmv 36 5,zia 37 35 36 ctOp,zfa 38 37 1,zld 39 38 1,zmv 4 39]),.ret]) .skip)]),(.reg [zLd 40 2 6,zmv 41 1,zca 42 156 [40,41],zmv 4 42]),.ret])
def QXO:List (ARv × Md):=[(.t 4,.one .d)]
theorem QF5 (c:QM) (s:Int) (h :
 ((((decide (((QV c.1 c.2.1 s).2)>((QV c.1 c.2.1 s).1)))&&(decide (s<((c.2.2.2.1).length:Int))))=true→((0:Int)≤s∧Int.toNat s<(c.2.2.2.1).length))∧(zif (((decide (((QV c.1 c.2.1 s).2)>((QV c.1 c.2.1 s).1)))&&(decide (s<((c.2.2.2.1).length:Int))))&&(gtd (false:Bool) c.2.2.2.1 (Int.toNat s))) (((0:Int)≤(QV c.1 c.2.1 s).1∧Int.toNat ((QV c.1 c.2.1 s).1)<(c.1).length)∧K (Qjd ((gtd dOp c.1 (Int.toNat ((QV c.1 c.2.1 s).1))).2.1))) (K (Qjd (Yv c s)))))):Hold (tawp QEn (0+0) QHa (TQ 0 0 QXO K) (Qi [(.a (Tup.cells ZW c)),(.c TI s)])) :=
 Hold.of (by kernel_rfl) h
theorem QI3 (c:QM) (s:Int):TCon Tryz.prog 155 [(.a (Tup.cells ZW c)),(.c TI s)] (Qjd (YR c s)):=by
 refine Qo rfl fun hb=>tcg (n:=43) (sg:=QmL.sg) Qm (TOk.cons Qgx (TOk.cons QzS TOk.nil)) (by kernel_rfl) (by kernel_rfl) (QF5 _ c s ?_)
 have hl_c_0:(c.1).length≤9223372036854775807:=hb.1.1.1
 have hl_c_1:(c.2.1).length≤9223372036854775807:=hb.1.2.1.1
 have hl_c_3:(c.2.2.2.1).length≤9223372036854775807:=hb.1.2.2.2.1.1
 have hl_c_4:(c.2.2.2.2.1).length≤9223372036854775807:=hb.1.2.2.2.2.1.1
 have hl_c_5:(c.2.2.2.2.2).length≤9223372036854775807:=hb.1.2.2.2.2.2.1.1
 have hr:=Qfv c.1 c.2.1 s
 refine ⟨fun h=>?_,fun h=>⟨⟨by omega,?_⟩,R_eq ?_⟩,fun h=>R_eq ?_⟩
 ·simp at h
  have:=hr.2.2.2.1 h.1
  omega
 ·simp at h;omega
 ·simp at h
  have h1:=hr.2.2.2.1 h.1.1
  have e1:Ju c s=true:=by simp [Ju,h];omega
  simp [YR,e1,Yo,Int.ne_of_lt h.1.1]
 ·by_cases e1:Ju c s=true
  ·simp only [Ju,Bool.and_eq_true,decide_eq_true_eq] at e1
   have hn:¬ (QV c.1 c.2.1 s).1<(QV c.1 c.2.1 s).2:=by
    intro hlt
    simp [hlt,e1] at h
   have e2:(QV c.1 c.2.1 s).1=(QV c.1 c.2.1 s).2:=by omega
   simp [YR,Ju,e1,Yo,e2,Yv,slice,QGq]
  ·simp [YR,e1]
theorem QEr:Ql Tryz.prog QmL:=Qn fun x _=>QI3 x.1 x.2.1
def Qdh (t:Int):TRes:=zre (zci t)
def QjS:TRow:=Qk 78 [(.a ZW),(.c TI),(.c TI)] fun x=>(none,Qdh (Yp x.1 x.2.1 x.2.2.1))
def QBr:List TRow:=[Qer,YN,QmL,Qhl]
def QvZ:TCode :=
 (zsq [(.draw [zmv 48 9,zLd 49 3 6,zmv 50 1,zca 51 155 [49,50],zbi 52 .mul 48 51,zfa 53 3 0,zfa 54 53 0,zld 55 54 1,zmv 56 7,zia 57 55 56 ctOp,zfa 58 57 1,zld 59 58 1,zfa 60 3 0,zfa 61 60 0,zld 62 61 1,zmv 63 8,zbi 64 .sub 63 (zki 1),zia 65 62 64 ctOp,zfa 66 65 2,zld 67 66 1,zop 68 (.mm true 59 67),zbi 69 .add 52 68,zmv 10 69] [(3,5),(3,6),(3,7),(3,9),(3,10),(3,11),(3,12),(3,13),(3,14),(3,17),(3,18),(3,19)]),(zsq [(.reg [zmv 70 1,zfa 71 3 3,zld 72 71 1,zle 73 72,zbi 74 .lss 70 73,zmv 75 74,.grp 75 true [zfa 76 3 3,zld 77 76 1,zmv 78 1,zia 79 77 78 [.bool],zld 80 79 1] 81 80]),(.cond 81 (.reg [zmv 82 10,zLd 83 3 6,zmv 84 1,zca 85 156 [83,84],zbi 86 .add 82 85,zmv 10 86]) .skip)]),(.reg [zmv 87 10,zmv 6 87]),.ret])
def QTT:List (Nat × Md):=[(1,.one .d),(3,.b (zds 6)),(7,.one .d),(8,.one .d),(9,.one .d)]
def QSr:TCode:=.wk QTT QvZ
def QUh:TCode :=
 (zsq [(.reg [zop 3 (.box 30 0 6),zmv 6 (zki 0)]),(.reg [zfa 12 3 0,zLd 13 12 1,zfa 14 3 1,zld 15 14 1,zmv 16 1,zca 17 93 [13,15,16],zmv 11 17,zex 18 11 0,zex 19 11 1,zmv 7 18,zmv 8 19]),(zsq [(.reg [zmv 20 8,zmv 21 7,zbi 22 .leq 20 21,zmv 23 22,.grp 23 false [zmv 24 2,zca 25 77 [24,(zki 1),(zki 5)],zno 26 25] 27 26,zmv 28 27,.grp 28 false [zfa 29 3 1,zld 30 29 1,zle 31 30,zbi 32 .add 31 (zki 1),zca 33 77 [32,(zki 1),(zki 4)],zno 34 33] 35 34]),(.cond 35 (zsq [(.reg [zmv 6 (zki 0)]),.ret]) .skip)]),(.reg [zmv 36 2,zmv 9 36]),(zsq [(.reg [zfa 37 3 2,zld 38 37 1,zbi 39 .eql 38 (zki 2)]),(.cond 39 (.reg [zmv 40 2,zfa 41 3 1,zld 42 41 1,zle 43 42,zbi 44 .add 43 (zki 1),zmv 45 1,zbi 46 .sub 44 45,zop 47 (.mm false 40 46),zmv 9 47]) .skip)]),QSr])
def QwZ:List (ARv × Md):=[(.t 6,.one .d)]
def QF2:Qb:=TQ 0 0 QwZ K
@[irreducible] def QgX (c:QM) (s:Int) (k:Int):Prop:=tawp QBr 0 QvZ (QF2 K) ⟨[(1,(zci s)),(3,(.p 0 0 0)),(7,(zci ((QV c.1 c.2.1 s).1))),(8,(zci ((QV c.1 c.2.1 s).2))),(9,(zci k))],[(0,(.box (Tup.cells ZW c)))],1⟩
theorem QV9 (c:QM) (s:Int) (k:Int) (h :
 let z2:=QV c.1 c.2.1 s
 let z3:=gtd dOp c.1 (Int.toNat (w64 ((z2.2)-(1:Int))))
 let z1:=w64 ((w64 (k*(YR c s)))+(if ((gtd dOp c.1 (Int.toNat (z2.1))).2.1)<(z3.2.2.1) then (z3.2.2.1) else ((gtd dOp c.1 (Int.toNat (z2.1))).2.1)))
 ((((0:Int)≤z2.1∧Int.toNat (z2.1)<(c.1).length)∧((0:Int)≤w64 ((z2.2)-(1:Int))∧Int.toNat (w64 ((z2.2)-(1:Int)))<(c.1).length))∧(((decide (s<((c.2.2.2.1).length:Int)))=true→((0:Int)≤s∧Int.toNat s<(c.2.2.2.1).length))∧(zif ((decide (s<((c.2.2.2.1).length:Int)))&&(gtd (false:Bool) c.2.2.2.1 (Int.toNat s))) (K (Qdh (w64 (z1+(Yv c s))))) (K (Qdh z1)))))):Hold (QgX K c s k) :=
 Hold.of (by kernel_rfl) h
theorem QKO (c:QM) (s:Int) (micro:Int) (h :
 (zif (((decide (((QV c.1 c.2.1 s).2)≤((QV c.1 c.2.1 s).1)))||(!(m_in micro (1:Int) (5:Int))))||(!(m_in (w64 (((c.2.1).length:Int)+(1:Int))) (1:Int) (4:Int)))) (K (Qdh (0:Int))) (zif (c.2.2.1==(2:Int)) (QgX K c s (if (w64 ((w64 (((c.2.1).length:Int)+(1:Int)))-s))<micro then (w64 ((w64 (((c.2.1).length:Int)+(1:Int)))-s)) else micro)) (QgX K c s micro)))):Hold (tawp QBr (0+0) QUh (TQ 0 0 QwZ K) (Qi [(.a (Tup.cells ZW c)),(.c TI s),(.c TI micro)])) :=
 Hold.of (by kernel_rfl) h
theorem QH2 (c:QM) (s:Int) (micro:Int):TCon Tryz.prog 78 [(.a (Tup.cells ZW c)),(.c TI s),(.c TI micro)] (Qdh (Yp c s micro)):=by
 refine Qo rfl fun hb=>tcg (n:=88) (sg:=QjS.sg) Qm (TOk.cons Qgx (TOk.cons Y5 (TOk.cons QEr (TOk.cons QzS TOk.nil)))) (by kernel_rfl) (by kernel_rfl) (QKO _ c s micro ?_)
 have hl_c_0:(c.1).length≤9223372036854775807:=hb.1.1.1
 have hl_c_1:(c.2.1).length≤9223372036854775807:=hb.1.2.1.1
 have hl_c_3:(c.2.2.2.1).length≤9223372036854775807:=hb.1.2.2.2.1.1
 have hl_c_4:(c.2.2.2.2.1).length≤9223372036854775807:=hb.1.2.2.2.2.1.1
 have hl_c_5:(c.2.2.2.2.2).length≤9223372036854775807:=hb.1.2.2.2.2.2.1.1
 have hr:=Qfv c.1 c.2.1 s
 have hs:=QdP (c:=c)
 refine ⟨fun h=>R_eq ?_,fun h=>?_⟩
 ·unfold Yp
  rw [if_neg]
  intro h2
  simp only [Bool.and_eq_true,QP,decide_eq_true_eq] at h2
  have hc:=hs.2.2.1.1 (by omega)
  have hst:=hs.2.2.2 hc
  have:=hr.2.2.2.2 ⟨hc,by omega,by omega⟩
  rw [← hst] at h
  have e:=Qp (x:=QZ c) (by omega) (by omega)
  rw [e] at h
  grind [m_in]
 ·have hlt:(QV c.1 c.2.1 s).1<(QV c.1 c.2.1 s).2:=by grind
  have hc:=hr.2.2.2.1 hlt
  have hst:=hs.2.2.2 hc.1
  have hz:Yo c s=((gtd dOp c.1 (QV c.1 c.2.1 s).1.toNat).2.1,(gtd dOp c.1 ((QV c.1 c.2.1 s).2.toNat-1)).2.2.1):=by
   unfold Yo;simp only [if_neg (Int.ne_of_lt hlt)]
  have e1:Int.toNat (w64 ((QV c.1 c.2.1 s).2-1))=(QV c.1 c.2.1 s).2.toNat-1∧(0:Int)≤w64 ((QV c.1 c.2.1 s).2-1):=by
   rw [Qp (by omega) (by omega)];omega
  have e2:w64 ((c.2.1.length:Int)+1)=QZ c:=by rw [hst];exact Qp (by omega) (by omega)
  have e3:w64 (QZ c-s)=QZ c-s:=Qp (by omega) (by omega)
  have hred:Ju c s=(decide (s<(c.2.2.2.1.length:Int))&&gtd false c.2.2.2.1 s.toNat):=by
   unfold Ju;rw [decide_eq_true hc.2.1,Bool.true_and]
  rw [e2] at h ⊢
  have hin:(m_in s 0 (QZ c-1)&&m_in micro 1 5&&decide (QZ c≤4))=true:=by grind [m_in]
  have key:∀ k:Int,Yp c s micro=w64 (w64 (w64 (k*YR c s)+iMax (Yo c s).1 (Yo c s).2)+if Ju c s then Yv c s else 0)→QgX (fun r'=>r'=Qdh (Yp c s micro)) c s k:=by
   intro k hk
   refine (QV9 (fun r'=>r'=Qdh (Yp c s micro)) c s _ ⟨⟨⟨by omega,by omega⟩,e1.2,by rw [e1.1];omega⟩,fun h=>⟨by omega,by simp at h;omega⟩,fun h=>R_eq ?_,fun h=>R_eq ?_⟩).h
   ·rw [hk,hred,h,e1.1,hz];rfl
   ·rw [hk,hred,h,e1.1,hz];simp [QOc];rfl
  rw [e3]
  refine ⟨fun h1=>key _ ?_,fun h1=>key _ ?_⟩
  ·simp only [Yp,hin,if_true]
   simp at h1
   rw [if_pos h1];rfl
  ·simp only [Yp,hin,if_true]
   simp at h1
   rw [if_neg h1]
theorem QAS:Ql Tryz.prog QjS:=Qn fun x _=>QH2 x.1 x.2.1 x.2.2.1
end
end Go.Proofs.YtjbdljkhbglnhaaGreat.Am

