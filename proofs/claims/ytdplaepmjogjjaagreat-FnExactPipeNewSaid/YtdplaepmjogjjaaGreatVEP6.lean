/- -/
import Derived.Test.YtdplaepmjogjjaaGreatVEP5
import Derived.Test.YtdplaepmjogjjaaGreatVEP1
namespace Go.Proofs.YtdplaepmjogjjaaGreat.Am
open Go Go.RowKit Go.Proofs.YtdplaepmjogjjaaGreat
set_option linter.all false
set_option maxHeartbeats 2000000
noncomputable section
variable (K:TRes→Prop)
def Qel (t:Int × Int):TRes:=zre (.tp [(zci t.1),(zci t.2)])
def QcG:TRow:=Qg 266 [(.a Qv),(.c TI)] fun x=>(none,Qel (Q4 x.1 x.2.1))
def Qur:TTab:=⟨[Qc9],false⟩
def QDT:TCode :=
 (zsq [(.reg [zop 2 (.box 79 0 6),zmv 4 (zki 0),zmv 5 (zki 0)]),(.reg [zfa 9 2 0,zLd 10 9 1,zfa 11 2 1,zld 12 11 1,zmv 13 1,zca 14 128 [10,12,13],zmv 8 14,zex 15 8 0,zex 16 8 1,zmv 6 15,zmv 7 16]),(zsq [(.reg [zmv 17 6,zmv 18 7,zbi 19 .eql 17 18]),(.cond 19 (zsq [(.reg [zmv 4 (zki 0),zmv 5 (zki 0)]),.ret]) .skip)]),(.draw [zfa 20 2 0,zfa 21 20 0,zld 22 21 1,zmv 23 6,zia 24 22 23 ctOp,zfa 25 24 1,zld 26 25 1,zfa 27 2 0,zfa 28 27 0,zld 29 28 1,zmv 30 7,zbi 31 .sub 30 (zki 1),zia 32 29 31 ctOp,zfa 33 32 2,zld 34 33 1,zmv 4 26,zmv 5 34] []),.ret])
def QBJ:List (ARv × Md):=[(.t 4,.one .d),(.t 5,.one .d)]
theorem QEf (c:Qf) (s:Int) (h :
 (zif (((Qo c.1 c.2.1 s).1)==((Qo c.1 c.2.1 s).2)) (K (Qel ((0:Int),(0:Int)))) ((((0:Int)≤(Qo c.1 c.2.1 s).1∧Int.toNat ((Qo c.1 c.2.1 s).1)<(c.1).length)∧((0:Int)≤w64 (((Qo c.1 c.2.1 s).2)-(1:Int))∧Int.toNat (w64 (((Qo c.1 c.2.1 s).2)-(1:Int)))<(c.1).length))∧K (Qel ((gtd dOp c.1 (Int.toNat ((Qo c.1 c.2.1 s).1))).2.1,(gtd dOp c.1 (Int.toNat (w64 (((Qo c.1 c.2.1 s).2)-(1:Int))))).2.2.1))))):Hold (tawp Qur (0+0) QDT (TQ 0 0 QBJ K) (Qe [(.a (Tup.cells Qv c)),(.c TI s)])) :=
 Hold.of (by kernel_rfl) h
theorem Qxc (c:Qf) (s:Int):TCon Tryz.prog 266 [(.a (Tup.cells Qv c)),(.c TI s)] (Qel (Q4 c s)):=by
 refine Ql rfl fun hb=>tcg (Γ:=Qur) (n:=35) (sg:=QcG.sg) Qk (TOkL.cons Qhc TOkL.nil) (by kernel_rfl) (by kernel_rfl) (QEf _ c s ?_)
 have hl_c_0:(c.1).length≤9223372036854775807:=hb.1.1.1
 have hl_c_1:(c.2.1).length≤9223372036854775807:=hb.1.2.1.1
 have hl_c_3:(c.2.2.2.1).length≤9223372036854775807:=hb.1.2.2.2.1.1
 have hl_c_4:(c.2.2.2.2.1).length≤9223372036854775807:=hb.1.2.2.2.2.1.1
 have hl_c_5:(c.2.2.2.2.2).length≤9223372036854775807:=hb.1.2.2.2.2.2.1.1
 have hr:=QaW c.1 c.2.1 s
 refine ⟨fun h=>R_eq (by simp at h;simp [Q4,h]),fun h=>?_⟩
 have hne:¬ (Qo c.1 c.2.1 s).1=(Qo c.1 c.2.1 s).2:=by simpa using h
 have e1:Int.toNat (w64 ((Qo c.1 c.2.1 s).2-1))=(Qo c.1 c.2.1 s).2.toNat-1∧(0:Int)≤w64 ((Qo c.1 c.2.1 s).2-1):=by
  rw [Qx (by omega) (by omega)];omega
 refine ⟨⟨⟨by omega,by omega⟩,e1.2,by rw [e1.1];omega⟩,R_eq ?_⟩
 rw [e1.1]
 simp [Q4,hne]
theorem QgS:Qi Tryz.prog QcG:=Qm fun x _=>Qxc x.1 x.2.1
def QjG (t:Bool):TRes:=zre (zcb t)
def QdB:TRow:=Qg 268 [(.a Qv),(.c TI)] fun x=>(none,QjG (ZI x.1 x.2.1))
def Qlk:TTab:=⟨[],false⟩
def QHI:TCode :=
 (zsq [(.reg [zop 2 (.box 79 0 6),zmv 4 (zkb false)]),(.reg [zmv 5 1,zbi 6 .geq 5 (zki 0),zmv 7 6,.grp 7 true [zmv 8 1,zfa 9 2 3,zld 10 9 1,zle 11 10,zbi 12 .lss 8 11] 13 12,zmv 14 13,.grp 14 true [zfa 15 2 3,zld 16 15 1,zmv 17 1,zia 18 16 17 [.bool],zld 19 18 1] 20 19,zmv 4 20]),.ret])
def QFS:List (ARv × Md):=[(.t 4,.one .d)]
theorem QHX (c:Qf) (s:Int) (h :
 ((((decide (s≥(0:Int)))&&(decide (s<((c.2.2.2.1).length:Int))))=true→((0:Int)≤s∧Int.toNat s<(c.2.2.2.1).length))∧K (QjG (((decide (s≥(0:Int)))&&(decide (s<((c.2.2.2.1).length:Int))))&&(gtd (false:Bool) c.2.2.2.1 (Int.toNat s)))))):Hold (tawp Qlk (0+0) QHI (TQ 0 0 QFS K) (Qe [(.a (Tup.cells Qv c)),(.c TI s)])) :=
 Hold.of (by kernel_rfl) h
theorem QzV (c:Qf) (s:Int):TCon Tryz.prog 268 [(.a (Tup.cells Qv c)),(.c TI s)] (QjG (ZI c s)):=by
 refine Ql rfl fun hb=>tcg (Γ:=Qlk) (n:=21) (sg:=QdB.sg) Qk TOkL.nil (by kernel_rfl) (by kernel_rfl) (QHX _ c s ?_)
 have hl_c_0:(c.1).length≤9223372036854775807:=hb.1.1.1
 have hl_c_1:(c.2.1).length≤9223372036854775807:=hb.1.2.1.1
 have hl_c_3:(c.2.2.2.1).length≤9223372036854775807:=hb.1.2.2.2.1.1
 have hl_c_4:(c.2.2.2.2.1).length≤9223372036854775807:=hb.1.2.2.2.2.1.1
 have hl_c_5:(c.2.2.2.2.2).length≤9223372036854775807:=hb.1.2.2.2.2.2.1.1
 refine ⟨fun h=>by simp at h;omega,R_eq (by simp [ZI])⟩
theorem Qm9:Qi Tryz.prog QdB:=Qm fun x _=>QzV x.1 x.2.1
def QaI (t:Int):TRes:=zre (zci t)
def QdO:TRow:=Qg 250 [(.a Qv),(.c TI)] fun x=>(none,QaI (Zb x.1 x.2.1))
def QdP:TTab:=⟨[QbG],false⟩
def Qq2:TCode :=
 (zsq [(zsq [(.reg [zmv 19 8,zmv 20 6,zbi 21 .lss 19 20]),(.cond 21 .skip (.exit 0))]),(.block 1 (.reg [zmv 24 7,zfa 25 2 0,zfa 26 25 0,zld 27 26 1,zmv 28 8,zia 29 27 28 ctOp,zfa 30 29 1,zld 31 30 1,zbi 32 .add 24 31,zmv 7 32])),(.reg [zmv 22 8,zbi 23 .add 22 (zki 1),zmv 8 23])])
def Qug:List (Nat × Md):=[(2,.b (zds 6)),(5,.one .d),(6,.one .d),(7,.one .d),(8,.one .d)]
def Qu6:TCode :=
 (zsq [(zsq [(.reg [zmv 33 6,zmv 34 5,zbi 35 .gtr 33 34]),(.cond 35 (.reg [zmv 36 7,zfa 37 2 0,zfa 38 37 0,zld 39 38 1,zmv 40 6,zbi 41 .sub 40 (zki 1),zia 42 39 41 ctOp,zfa 43 42 2,zld 44 43 1,zbi 45 .add 36 44,zmv 7 45]) .skip)]),(.reg [zmv 46 7,zmv 4 46]),.ret])
def QDE:TCode :=
 (zsq [(.reg [zop 2 (.box 79 0 6),zmv 4 (zki 0)]),(.reg [zfa 10 2 0,zLd 11 10 1,zfa 12 2 1,zld 13 12 1,zmv 14 1,zca 15 119 [11,13,14],zmv 9 15,zex 16 9 0,zex 17 9 1,zmv 5 16,zmv 6 17]),(.reg [zmv 7 (zki 0)]),(zsq [(.reg [zmv 18 5,zmv 8 18]),(.block 0 (.loop Qug Qq2))]),Qu6])
def QtC:List (ARv × Md):=[(.t 4,.one .d)]
def Qt6:Qb:=TQ 0 0 QtC K
def QEU:Qb:=Qseq (tawp QdP 0 Qu6 (Qt6 K)) (Qt6 K)
def QxA:Qb:=Qblk 0 (QEU K)
def QeF (c:Qf) (s:Int) (n:Int) (i:Int):Prop:=Loop QdP 0 Qug Qq2 (QxA K) ⟨[(2,(.p 0 0 0)),(5,(zci ((Qo c.1 c.2.1 s).1))),(6,(zci ((Qo c.1 c.2.1 s).2))),(7,(zci n)),(8,(zci i))],[(0,(.box (Tup.cells Qv c)))],1⟩
theorem Qmm (c:Qf) (s:Int) (n:Int) (i:Int) (h :
 (zif (decide (i<((Qo c.1 c.2.1 s).2))) (((0:Int)≤i∧Int.toNat i<(c.1).length)∧(QeF K c s (w64 (n+((gtd dOp c.1 (Int.toNat i)).2.1))) (w64 (i+(1:Int))))) (zif (decide (((Qo c.1 c.2.1 s).2)>((Qo c.1 c.2.1 s).1))) (((0:Int)≤w64 (((Qo c.1 c.2.1 s).2)-(1:Int))∧Int.toNat (w64 (((Qo c.1 c.2.1 s).2)-(1:Int)))<(c.1).length)∧K (QaI (w64 (n+((gtd dOp c.1 (Int.toNat (w64 (((Qo c.1 c.2.1 s).2)-(1:Int))))).2.2.1))))) (K (QaI n))))):QeF K c s n i :=
 Loop.of (by kernel_rfl) h
theorem QDb (c:Qf) (s:Int) (h :
 (QeF K c s 0 ((Qo c.1 c.2.1 s).1))):Hold (tawp QdP (0+0) QDE (TQ 0 0 QtC K) (Qe [(.a (Tup.cells Qv c)),(.c TI s)])) :=
 Hold.of (by kernel_rfl) h
theorem QAd (c:Qf) (s:Int):TCon Tryz.prog 250 [(.a (Tup.cells Qv c)),(.c TI s)] (QaI (Zb c s)):=by
 refine Ql rfl fun hb=>tcg (Γ:=QdP) (n:=47) (sg:=QdO.sg) Qk (TOkL.cons Qe9 TOkL.nil) (by kernel_rfl) (by kernel_rfl) (QDb _ c s ?_)
 have hl_c_0:(c.1).length≤9223372036854775807:=hb.1.1.1
 have hl_c_1:(c.2.1).length≤9223372036854775807:=hb.1.2.1.1
 have hl_c_3:(c.2.2.2.1).length≤9223372036854775807:=hb.1.2.2.2.1.1
 have hl_c_4:(c.2.2.2.2.1).length≤9223372036854775807:=hb.1.2.2.2.2.1.1
 have hl_c_5:(c.2.2.2.2.2).length≤9223372036854775807:=hb.1.2.2.2.2.2.1.1
 have hr:=QaW c.1 c.2.1 s
 generalize hz:(if (Qo c.1 c.2.1 s).1<(Qo c.1 c.2.1 s).2 then (gtd dOp c.1 ((Qo c.1 c.2.1 s).2.toNat-1)).2.2.1 else 0)=z
 have:=QmO c.1 _ _ hr.1 hr.2.1 hr.2.2.1 (fun r k=>∀ y:Int,w64 (y+(r.map fun o=>o.2.1).sum+z)=(Zb c s)→QeF (fun r'=>r'=QaI (Zb c s)) c s (w64 y) k) ?_ ?_ 0 (by simp [Zb,hz])
 ·rw [show (((Qo c.1 c.2.1 s).1.toNat:Nat):Int)=(Qo c.1 c.2.1 s).1 by omega] at this
  exact this
 ·intro y he
  refine Qmm (fun r'=>r'=QaI (Zb c s)) c s _ _ ⟨fun h=>by simp at h;omega,fun _=>⟨fun h=>?_,fun h=>R_eq ?_⟩⟩
  ·have hlt:(Qo c.1 c.2.1 s).1<(Qo c.1 c.2.1 s).2:=by simpa using h
   have e1:Int.toNat (w64 ((Qo c.1 c.2.1 s).2-1))=(Qo c.1 c.2.1 s).2.toNat-1∧(0:Int)≤w64 ((Qo c.1 c.2.1 s).2-1):=by
    rw [Qx (by omega) (by omega)];omega
   refine ⟨⟨e1.2,by rw [e1.1];omega⟩,R_eq ?_⟩
   rw [if_pos hlt] at hz
   rw [e1.1,Qft,← he,← hz]
   simp
  ·rw [if_neg (by simpa using h)] at hz
   rw [← he,← hz]
   simp
 ·intro k x r h1 h2 hlt hg ih y he
  refine Qmm (fun r'=>r'=QaI (Zb c s)) c s _ _ ⟨fun _=>?_,fun h=>by simp at h;omega⟩
  rw [Int.toNat_natCast,hg,Qx (x:=(k:Int)+1) (by omega) (by omega),Qft]
  refine ⟨⟨by omega,hlt⟩,ih _ ?_⟩
  rw [← he,List.map_cons,List.sum_cons]
  congr 1
  omega
theorem Qs4:Qi Tryz.prog QdO:=Qm fun x _=>QAd x.1 x.2.1
def Qbg (t:Int):TRes:=zre (zci t)
def QdM:TRow:=Qg 269 [(.a Qv),(.c TI)] fun x=>(none,Qbg (Zb x.1 x.2.1))
def QeS:TTab:=⟨[Qc9,QcG],false⟩
def QtR:TCode :=
 (zsq [(zsq [(.reg [zmv 26 9,zmv 27 6,zbi 28 .lss 26 27]),(.cond 28 .skip (.exit 0))]),(.block 1 (.reg [zmv 31 8,zfa 32 2 0,zfa 33 32 0,zld 34 33 1,zmv 35 9,zia 36 34 35 ctOp,zfa 37 36 1,zld 38 37 1,zbi 39 .add 31 38,zmv 8 39])),(.reg [zmv 29 9,zbi 30 .add 29 (zki 1),zmv 9 30])])
def Qso:List (Nat × Md):=[(2,.b (zds 6)),(6,.one .d),(8,.one .d),(9,.one .d)]
def Qt5:TCode :=
 (zsq [(.reg [zmv 40 8,zmv 4 40]),.ret])
def QCk:TCode :=
 (zsq [(.reg [zop 2 (.box 79 0 6),zmv 4 (zki 0)]),(.reg [zfa 11 2 0,zLd 12 11 1,zfa 13 2 1,zld 14 13 1,zmv 15 1,zca 16 128 [12,14,15],zmv 10 16,zex 17 10 0,zex 18 10 1,zmv 5 17,zmv 6 18]),(.reg [zLd 20 2 6,zmv 21 1,zca 22 266 [20,21],zmv 19 22,zex 23 19 0,zex 24 19 1,zmv 7 23,zmv 8 24]),(zsq [(.reg [zmv 25 5,zmv 9 25]),(.block 0 (.loop Qso QtR))]),Qt5])
def Qqw:List (ARv × Md):=[(.t 4,.one .d)]
def QsQ:Qb:=TQ 0 0 Qqw K
def QAb:Qb:=Qseq (tawp QeS 0 Qt5 (QsQ K)) (QsQ K)
def QFy:Qb:=Qblk 0 (QAb K)
def Qfw (c:Qf) (s:Int) (n:Int) (i:Int):Prop:=Loop QeS 0 Qso QtR (QFy K) ⟨[(2,(.p 0 0 0)),(6,(zci ((Qo c.1 c.2.1 s).2))),(8,(zci n)),(9,(zci i))],[(0,(.box (Tup.cells Qv c)))],1⟩
theorem QsT (c:Qf) (s:Int) (n:Int) (i:Int) (h :
 (zif (decide (i<((Qo c.1 c.2.1 s).2))) (((0:Int)≤i∧Int.toNat i<(c.1).length)∧(Qfw K c s (w64 (n+((gtd dOp c.1 (Int.toNat i)).2.1))) (w64 (i+(1:Int))))) (K (Qbg n)))):Qfw K c s n i :=
 Loop.of (by kernel_rfl) h
theorem QDQ (c:Qf) (s:Int) (h :
 (Qfw K c s ((Q4 c s).2) ((Qo c.1 c.2.1 s).1))):Hold (tawp QeS (0+0) QCk (TQ 0 0 Qqw K) (Qe [(.a (Tup.cells Qv c)),(.c TI s)])) :=
 Hold.of (by kernel_rfl) h
theorem QDn (c:Qf) (s:Int):TCon Tryz.prog 269 [(.a (Tup.cells Qv c)),(.c TI s)] (Qbg (Zb c s)):=by
 refine Ql rfl fun hb=>tcg (Γ:=QeS) (n:=41) (sg:=QdM.sg) Qk (TOkL.cons Qhc (TOkL.cons QgS TOkL.nil)) (by kernel_rfl) (by kernel_rfl) (QDQ _ c s ?_)
 have hl_c_0:(c.1).length≤9223372036854775807:=hb.1.1.1
 have hl_c_1:(c.2.1).length≤9223372036854775807:=hb.1.2.1.1
 have hl_c_3:(c.2.2.2.1).length≤9223372036854775807:=hb.1.2.2.2.1.1
 have hl_c_4:(c.2.2.2.2.1).length≤9223372036854775807:=hb.1.2.2.2.2.1.1
 have hl_c_5:(c.2.2.2.2.2).length≤9223372036854775807:=hb.1.2.2.2.2.2.1.1
 have hr:=QaW c.1 c.2.1 s
 generalize hz:(if (Qo c.1 c.2.1 s).1<(Qo c.1 c.2.1 s).2 then (gtd dOp c.1 ((Qo c.1 c.2.1 s).2.toNat-1)).2.2.1 else 0)=z
 have ez:(Q4 c s).2=z:=by
  rw [← hz]
  unfold Q4
  by_cases h:(Qo c.1 c.2.1 s).1=(Qo c.1 c.2.1 s).2
  ·simp [h]
  ·simp only [if_neg h];rw [if_pos (by omega)]
 have hzm:0≤z∧z≤6:=by
  rw [← hz]
  split
  ·rename_i h
   have hc:=(hr.2.2.2.1 h).1
   simp only [QE,QB,Bool.and_eq_true] at hc
   have:=Qg4 (Qeb hc.1.2 _ _ (QaX (i:=(Qo c.1 c.2.1 s).2.toNat-1) (by omega) dOp)).1
   omega
  ·omega
 have:=QmO c.1 _ _ hr.1 hr.2.1 hr.2.2.1 (fun r k=>∀ y:Int,w64 (y+(r.map fun o=>o.2.1).sum)=(Zb c s)→Qfw (fun r'=>r'=Qbg (Zb c s)) c s (w64 y) k) ?_ ?_ z (by simp only [Zb,hz];rw [Int.add_comm])
 ·rw [show (((Qo c.1 c.2.1 s).1.toNat:Nat):Int)=(Qo c.1 c.2.1 s).1 by omega,Qx (x:=z) (by omega) (by omega),← ez] at this
  exact this
 ·intro y he
  refine QsT (fun r'=>r'=Qbg (Zb c s)) c s _ _ ⟨fun h=>by simp at h;omega,fun _=>R_eq ?_⟩
  simpa using he
 ·intro k x r h1 h2 hlt hg ih y he
  refine QsT (fun r'=>r'=Qbg (Zb c s)) c s _ _ ⟨fun _=>?_,fun h=>by simp at h;omega⟩
  rw [Int.toNat_natCast,hg,Qx (x:=(k:Int)+1) (by omega) (by omega),Qft]
  refine ⟨⟨by omega,hlt⟩,ih _ ?_⟩
  rw [← he,List.map_cons,List.sum_cons,Int.add_assoc]
theorem QqM:Qi Tryz.prog QdM:=Qm fun x _=>QDn x.1 x.2.1
def QeJ (t:Int):TRes:=zre (zci t)
def Qir:TRow:=Qg 267 [(.a Qv),(.c TI)] fun x=>(none,QeJ (ZN x.1 x.2.1))
def Qlg:TTab:=⟨[QdB,QcG,QdM],false⟩
def QIl:TCode :=
 (zsq [(.reg [zop 2 (.box 79 0 6),zmv 4 (zki 0)]),(zsq [(.reg [zLd 7 2 6,zmv 8 1,zca 9 268 [7,8]]),(.cond 9 (zsq [(.reg [zLd 11 2 6,zmv 12 1,zca 13 266 [11,12],zmv 10 13,zex 14 10 0,zex 15 10 1,zmv 5 14,zmv 6 15]),(.reg [zmv 16 5,zmv 4 16]),.ret]) .skip)]),(.reg [zLd 17 2 6,zmv 18 1,zca 19 269 [17,18],zmv 4 19]),.ret])
def QHN:List (ARv × Md):=[(.t 4,.one .d)]
theorem QDI (c:Qf) (s:Int) (h :
 (zif (ZI c s) (K (QeJ ((Q4 c s).1))) (K (QeJ (Zb c s))))):Hold (tawp Qlg (0+0) QIl (TQ 0 0 QHN K) (Qe [(.a (Tup.cells Qv c)),(.c TI s)])) :=
 Hold.of (by kernel_rfl) h
theorem Qyw (c:Qf) (s:Int):TCon Tryz.prog 267 [(.a (Tup.cells Qv c)),(.c TI s)] (QeJ (ZN c s)):=by
 refine Ql rfl fun hb=>tcg (Γ:=Qlg) (n:=20) (sg:=Qir.sg) Qk (TOkL.cons Qm9 (TOkL.cons QgS (TOkL.cons QqM TOkL.nil))) (by kernel_rfl) (by kernel_rfl) (QDI _ c s ?_)
 have hl_c_0:(c.1).length≤9223372036854775807:=hb.1.1.1
 have hl_c_1:(c.2.1).length≤9223372036854775807:=hb.1.2.1.1
 have hl_c_3:(c.2.2.2.1).length≤9223372036854775807:=hb.1.2.2.2.1.1
 have hl_c_4:(c.2.2.2.2.1).length≤9223372036854775807:=hb.1.2.2.2.2.1.1
 have hl_c_5:(c.2.2.2.2.2).length≤9223372036854775807:=hb.1.2.2.2.2.2.1.1
 refine ⟨fun h=>R_eq (by simp [ZN,h]),fun h=>R_eq (by simp [ZN,h])⟩
theorem Qxu:Qi Tryz.prog Qir:=Qm fun x _=>Qyw x.1 x.2.1
def Qdp (t:Int):TRes:=zre (zci t)
def QkK:TRow:=Qg 249 [(.a Qv),(.c TI)] fun x=>(none,Qdp (ZN x.1 x.2.1))
def Qqe:TTab:=⟨[QbG,QdO],false⟩
def Qz5:TCode :=
 (zsq [(.reg [zop 2 (.box 79 0 6),zmv 4 (zki 0)]),(.reg [zfa 8 2 0,zLd 9 8 1,zfa 10 2 1,zld 11 10 1,zmv 12 1,zca 13 119 [9,11,12],zmv 7 13,zex 14 7 0,zex 15 7 1,zmv 5 14,zmv 6 15]),(zsq [(.reg [zmv 16 6,zmv 17 5,zbi 18 .gtr 16 17,zmv 19 18,.grp 19 true [zmv 20 1,zfa 21 2 3,zld 22 21 1,zle 23 22,zbi 24 .lss 20 23] 25 24,zmv 26 25,.grp 26 true [zfa 27 2 3,zld 28 27 1,zmv 29 1,zia 30 28 29 [.bool],zld 31 30 1] 32 31]),(.cond 32 (zsq [(.reg [zfa 33 2 0,zfa 34 33 0,zld 35 34 1,zmv 36 5,zia 37 35 36 ctOp,zfa 38 37 1,zld 39 38 1,zmv 4 39]),.ret]) .skip)]),(.reg [zLd 40 2 6,zmv 41 1,zca 42 250 [40,41],zmv 4 42]),.ret])
def QIb:List (ARv × Md):=[(.t 4,.one .d)]
theorem Qwg (c:Qf) (s:Int) (h :
 ((((decide (((Qo c.1 c.2.1 s).2)>((Qo c.1 c.2.1 s).1)))&&(decide (s<((c.2.2.2.1).length:Int))))=true→((0:Int)≤s∧Int.toNat s<(c.2.2.2.1).length))∧(zif (((decide (((Qo c.1 c.2.1 s).2)>((Qo c.1 c.2.1 s).1)))&&(decide (s<((c.2.2.2.1).length:Int))))&&(gtd (false:Bool) c.2.2.2.1 (Int.toNat s))) (((0:Int)≤(Qo c.1 c.2.1 s).1∧Int.toNat ((Qo c.1 c.2.1 s).1)<(c.1).length)∧K (Qdp ((gtd dOp c.1 (Int.toNat ((Qo c.1 c.2.1 s).1))).2.1))) (K (Qdp (Zb c s)))))):Hold (tawp Qqe (0+0) Qz5 (TQ 0 0 QIb K) (Qe [(.a (Tup.cells Qv c)),(.c TI s)])) :=
 Hold.of (by kernel_rfl) h
theorem Qyf (c:Qf) (s:Int):TCon Tryz.prog 249 [(.a (Tup.cells Qv c)),(.c TI s)] (Qdp (ZN c s)):=by
 refine Ql rfl fun hb=>tcg (Γ:=Qqe) (n:=43) (sg:=QkK.sg) Qk (TOkL.cons Qe9 (TOkL.cons Qs4 TOkL.nil)) (by kernel_rfl) (by kernel_rfl) (Qwg _ c s ?_)
 have hl_c_0:(c.1).length≤9223372036854775807:=hb.1.1.1
 have hl_c_1:(c.2.1).length≤9223372036854775807:=hb.1.2.1.1
 have hl_c_3:(c.2.2.2.1).length≤9223372036854775807:=hb.1.2.2.2.1.1
 have hl_c_4:(c.2.2.2.2.1).length≤9223372036854775807:=hb.1.2.2.2.2.1.1
 have hl_c_5:(c.2.2.2.2.2).length≤9223372036854775807:=hb.1.2.2.2.2.2.1.1
 have hr:=QaW c.1 c.2.1 s
 refine ⟨fun h=>?_,fun h=>⟨⟨by omega,?_⟩,R_eq ?_⟩,fun h=>R_eq ?_⟩
 ·simp at h
  have:=hr.2.2.2.1 h.1
  omega
 ·simp at h;omega
 ·simp at h
  have h1:=hr.2.2.2.1 h.1.1
  have e1:ZI c s=true:=by simp [ZI,h];omega
  simp [ZN,e1,Q4,Int.ne_of_lt h.1.1]
 ·by_cases e1:ZI c s=true
  ·simp only [ZI,Bool.and_eq_true,decide_eq_true_eq] at e1
   have hn:¬ (Qo c.1 c.2.1 s).1<(Qo c.1 c.2.1 s).2:=by
    intro hlt
    simp [hlt,e1] at h
   have e2:(Qo c.1 c.2.1 s).1=(Qo c.1 c.2.1 s).2:=by omega
   simp [ZN,ZI,e1,Q4,e2,Zb,slice,Qxp]
  ·simp [ZN,e1]
theorem Qxf:Qi Tryz.prog QkK:=Qm fun x _=>Qyf x.1 x.2.1
def Qa7 (t:Int):TRes:=zre (zci t)
def Qho:TRow:=Qg 200 [(.a Qv),(.c TI),(.c TI)] fun x=>(none,Qa7 (Zr x.1 x.2.1 x.2.2.1))
def QhA:TTab:=⟨[QbG,ZQ,QkK,QdO],false⟩
def Qtf:TCode :=
 (zsq [(.draw [zmv 48 9,zLd 49 3 6,zmv 50 1,zca 51 249 [49,50],zbi 52 .mul 48 51,zfa 53 3 0,zfa 54 53 0,zld 55 54 1,zmv 56 7,zia 57 55 56 ctOp,zfa 58 57 1,zld 59 58 1,zfa 60 3 0,zfa 61 60 0,zld 62 61 1,zmv 63 8,zbi 64 .sub 63 (zki 1),zia 65 62 64 ctOp,zfa 66 65 2,zld 67 66 1,zop 68 (.mm true 59 67),zbi 69 .add 52 68,zmv 10 69] [(3,5),(3,6),(3,7),(3,9),(3,10),(3,11),(3,12),(3,13),(3,14),(3,17),(3,18),(3,19)]),(zsq [(.reg [zmv 70 1,zfa 71 3 3,zld 72 71 1,zle 73 72,zbi 74 .lss 70 73,zmv 75 74,.grp 75 true [zfa 76 3 3,zld 77 76 1,zmv 78 1,zia 79 77 78 [.bool],zld 80 79 1] 81 80]),(.cond 81 (.reg [zmv 82 10,zLd 83 3 6,zmv 84 1,zca 85 250 [83,84],zbi 86 .add 82 85,zmv 10 86]) .skip)]),(.reg [zmv 87 10,zmv 6 87]),.ret])
def Qzl:List (Nat × Md):=[(1,.one .d),(3,.b (zds 6)),(7,.one .d),(8,.one .d),(9,.one .d)]
def QwA:TCode:=.wk Qzl Qtf
def QF5:TCode :=
 (zsq [(.reg [zop 3 (.box 79 0 6),zmv 6 (zki 0)]),(.reg [zfa 12 3 0,zLd 13 12 1,zfa 14 3 1,zld 15 14 1,zmv 16 1,zca 17 119 [13,15,16],zmv 11 17,zex 18 11 0,zex 19 11 1,zmv 7 18,zmv 8 19]),(zsq [(.reg [zmv 20 8,zmv 21 7,zbi 22 .leq 20 21,zmv 23 22,.grp 23 false [zmv 24 2,zca 25 158 [24,(zki 1),(zki 5)],zno 26 25] 27 26,zmv 28 27,.grp 28 false [zfa 29 3 1,zld 30 29 1,zle 31 30,zbi 32 .add 31 (zki 1),zca 33 158 [32,(zki 1),(zki 4)],zno 34 33] 35 34]),(.cond 35 (zsq [(.reg [zmv 6 (zki 0)]),.ret]) .skip)]),(.reg [zmv 36 2,zmv 9 36]),(zsq [(.reg [zfa 37 3 2,zld 38 37 1,zbi 39 .eql 38 (zki 2)]),(.cond 39 (.reg [zmv 40 2,zfa 41 3 1,zld 42 41 1,zle 43 42,zbi 44 .add 43 (zki 1),zmv 45 1,zbi 46 .sub 44 45,zop 47 (.mm false 40 46),zmv 9 47]) .skip)]),QwA])
def QoE:List (ARv × Md):=[(.t 6,.one .d)]
def QzX:Qb:=TQ 0 0 QoE K
@[irreducible] def QfY (c:Qf) (s:Int) (k:Int):Prop:=tawp QhA 0 Qtf (QzX K) ⟨[(1,(zci s)),(3,(.p 0 0 0)),(7,(zci ((Qo c.1 c.2.1 s).1))),(8,(zci ((Qo c.1 c.2.1 s).2))),(9,(zci k))],[(0,(.box (Tup.cells Qv c)))],1⟩
theorem QCw (c:Qf) (s:Int) (k:Int) (h :
 let z2:=Qo c.1 c.2.1 s
 let z3:=gtd dOp c.1 (Int.toNat (w64 ((z2.2)-(1:Int))))
 let z1:=w64 ((w64 (k*(ZN c s)))+(if ((gtd dOp c.1 (Int.toNat (z2.1))).2.1)<(z3.2.2.1) then (z3.2.2.1) else ((gtd dOp c.1 (Int.toNat (z2.1))).2.1)))
 ((((0:Int)≤z2.1∧Int.toNat (z2.1)<(c.1).length)∧((0:Int)≤w64 ((z2.2)-(1:Int))∧Int.toNat (w64 ((z2.2)-(1:Int)))<(c.1).length))∧(((decide (s<((c.2.2.2.1).length:Int)))=true→((0:Int)≤s∧Int.toNat s<(c.2.2.2.1).length))∧(zif ((decide (s<((c.2.2.2.1).length:Int)))&&(gtd (false:Bool) c.2.2.2.1 (Int.toNat s))) (K (Qa7 (w64 (z1+(Zb c s))))) (K (Qa7 z1)))))):Hold (QfY K c s k) :=
 Hold.of (by kernel_rfl) h
theorem QwM (c:Qf) (s:Int) (micro:Int) (h :
 (zif (((decide (((Qo c.1 c.2.1 s).2)≤((Qo c.1 c.2.1 s).1)))||(!(m_in micro (1:Int) (5:Int))))||(!(m_in (w64 (((c.2.1).length:Int)+(1:Int))) (1:Int) (4:Int)))) (K (Qa7 (0:Int))) (zif (c.2.2.1==(2:Int)) (QfY K c s (if (w64 ((w64 (((c.2.1).length:Int)+(1:Int)))-s))<micro then (w64 ((w64 (((c.2.1).length:Int)+(1:Int)))-s)) else micro)) (QfY K c s micro)))):Hold (tawp QhA (0+0) QF5 (TQ 0 0 QoE K) (Qe [(.a (Tup.cells Qv c)),(.c TI s),(.c TI micro)])) :=
 Hold.of (by kernel_rfl) h
theorem Qzt (c:Qf) (s:Int) (micro:Int):TCon Tryz.prog 200 [(.a (Tup.cells Qv c)),(.c TI s),(.c TI micro)] (Qa7 (Zr c s micro)):=by
 refine Ql rfl fun hb=>tcg (Γ:=QhA) (n:=88) (sg:=Qho.sg) Qk (TOkL.cons Qe9 (TOkL.cons Yq (TOkL.cons Qxf (TOkL.cons Qs4 TOkL.nil)))) (by kernel_rfl) (by kernel_rfl) (QwM _ c s micro ?_)
 have hl_c_0:(c.1).length≤9223372036854775807:=hb.1.1.1
 have hl_c_1:(c.2.1).length≤9223372036854775807:=hb.1.2.1.1
 have hl_c_3:(c.2.2.2.1).length≤9223372036854775807:=hb.1.2.2.2.1.1
 have hl_c_4:(c.2.2.2.2.1).length≤9223372036854775807:=hb.1.2.2.2.2.1.1
 have hl_c_5:(c.2.2.2.2.2).length≤9223372036854775807:=hb.1.2.2.2.2.2.1.1
 have hr:=QaW c.1 c.2.1 s
 have hs:=QbR (c:=c)
 refine ⟨fun h=>R_eq ?_,fun h=>?_⟩
 ·unfold Zr
  rw [if_neg]
  intro h2
  simp only [Bool.and_eq_true,Q6,decide_eq_true_eq] at h2
  have hc:=hs.2.2.1.1 (by omega)
  have hst:=hs.2.2.2 hc
  have:=hr.2.2.2.2 ⟨hc,by omega,by omega⟩
  rw [← hst] at h
  have e:=Qx (x:=Qs c) (by omega) (by omega)
  rw [e] at h
  grind [m_in]
 ·have hlt:(Qo c.1 c.2.1 s).1<(Qo c.1 c.2.1 s).2:=by grind
  have hc:=hr.2.2.2.1 hlt
  have hst:=hs.2.2.2 hc.1
  have hz:Q4 c s=((gtd dOp c.1 (Qo c.1 c.2.1 s).1.toNat).2.1,(gtd dOp c.1 ((Qo c.1 c.2.1 s).2.toNat-1)).2.2.1):=by
   unfold Q4;simp only [if_neg (Int.ne_of_lt hlt)]
  have e1:Int.toNat (w64 ((Qo c.1 c.2.1 s).2-1))=(Qo c.1 c.2.1 s).2.toNat-1∧(0:Int)≤w64 ((Qo c.1 c.2.1 s).2-1):=by
   rw [Qx (by omega) (by omega)];omega
  have e2:w64 ((c.2.1.length:Int)+1)=Qs c:=by rw [hst];exact Qx (by omega) (by omega)
  have e3:w64 (Qs c-s)=Qs c-s:=Qx (by omega) (by omega)
  have hred:ZI c s=(decide (s<(c.2.2.2.1.length:Int))&&gtd false c.2.2.2.1 s.toNat):=by
   unfold ZI;rw [decide_eq_true hc.2.1,Bool.true_and]
  rw [e2] at h ⊢
  have hin:(m_in s 0 (Qs c-1)&&m_in micro 1 5&&decide (Qs c≤4))=true:=by grind [m_in]
  have key:∀ k:Int,Zr c s micro=w64 (w64 (w64 (k*ZN c s)+iMax (Q4 c s).1 (Q4 c s).2)+if ZI c s then Zb c s else 0)→QfY (fun r'=>r'=Qa7 (Zr c s micro)) c s k:=by
   intro k hk
   refine (QCw (fun r'=>r'=Qa7 (Zr c s micro)) c s _ ⟨⟨⟨by omega,by omega⟩,e1.2,by rw [e1.1];omega⟩,fun h=>⟨by omega,by simp at h;omega⟩,fun h=>R_eq ?_,fun h=>R_eq ?_⟩).h
   ·rw [hk,hred,h,e1.1,hz];rfl
   ·rw [hk,hred,h,e1.1,hz];simp [Qp1];rfl
  rw [e3]
  refine ⟨fun h1=>key _ ?_,fun h1=>key _ ?_⟩
  ·simp only [Zr,hin,if_true]
   simp at h1
   rw [if_pos h1];rfl
  ·simp only [Zr,hin,if_true]
   simp at h1
   rw [if_neg h1]
theorem QxC:Qi Tryz.prog Qho:=Qm fun x _=>Qzt x.1 x.2.1 x.2.2.1
def QaY (t:Int):TRes:=zre (zci t)
def Qjj:TRow:=Qg 252 [(.a Qv),(.c TI),(.c TI)] fun x=>(none,QaY (Zr x.1 x.2.1 x.2.2.1))
def Qha:TTab:=⟨[Qbz,QcG,Qir,QdB,QdM],false⟩
def QpL:TCode :=
 (zsq [(.reg [zLd 43 3 6,zmv 44 1,zca 45 266 [43,44],zmv 42 45,zex 46 42 0,zex 47 42 1,zmv 9 46,zmv 10 47]),(.reg [zmv 48 8,zLd 49 3 6,zmv 50 1,zca 51 267 [49,50],zbi 52 .mul 48 51,zmv 53 9,zmv 54 10,zop 55 (.mm true 53 54),zbi 56 .add 52 55,zmv 11 56]),(zsq [(.reg [zLd 57 3 6,zmv 58 1,zca 59 268 [57,58]]),(.cond 59 (.reg [zmv 60 11,zLd 61 3 6,zmv 62 1,zca 63 269 [61,62],zbi 64 .add 60 63,zmv 11 64]) .skip)]),(.reg [zmv 65 11,zmv 6 65]),.ret])
def QA0:List (Nat × Md):=[(1,.one .d),(3,.b (zds 6)),(8,.one .d)]
def QEd:TCode:=.wk QA0 QpL
def QAh:TCode :=
 (zsq [(.reg [zop 3 (.box 79 0 6),zmv 6 (zki 0)]),(.reg [zLd 12 3 6,zca 13 127 [12],zmv 7 13]),(zsq [(.reg [zmv 14 1,zbi 15 .lss 14 (zki 0),zmv 16 15,.grp 16 false [zmv 17 1,zmv 18 7,zbi 19 .geq 17 18] 20 19,zmv 21 20,.grp 21 false [zmv 22 2,zbi 23 .lss 22 (zki 1)] 24 23,zmv 25 24,.grp 25 false [zmv 26 2,zbi 27 .gtr 26 (zki 5)] 28 27,zmv 29 28,.grp 29 false [zmv 30 7,zbi 31 .gtr 30 (zki 4)] 32 31]),(.cond 32 (zsq [(.reg [zmv 6 (zki 0)]),.ret]) .skip)]),(.reg [zmv 33 2,zmv 8 33]),(zsq [(.reg [zfa 34 3 2,zld 35 34 1,zbi 36 .eql 35 (zki 2)]),(.cond 36 (.reg [zmv 37 2,zmv 38 7,zmv 39 1,zbi 40 .sub 38 39,zop 41 (.mm false 37 40),zmv 8 41]) .skip)]),QEd])
def Qud:List (ARv × Md):=[(.t 6,.one .d)]
def QzA:Qb:=TQ 0 0 Qud K
@[irreducible] def Qek (c:Qf) (s:Int) (count:Int):Prop:=tawp Qha 0 QpL (QzA K) ⟨[(1,(zci s)),(3,(.p 0 0 0)),(8,(zci count))],[(0,(.box (Tup.cells Qv c)))],1⟩
theorem QFG (c:Qf) (s:Int) (count:Int) (h :
 (zif (ZI c s) (K (QaY (w64 ((w64 ((w64 (count*(ZN c s)))+(if ((Q4 c s).1)<((Q4 c s).2) then ((Q4 c s).2) else ((Q4 c s).1))))+(Zb c s))))) (K (QaY (w64 ((w64 (count*(ZN c s)))+(if ((Q4 c s).1)<((Q4 c s).2) then ((Q4 c s).2) else ((Q4 c s).1)))))))):Hold (Qek K c s count) :=
 Hold.of (by kernel_rfl) h
theorem QBQ (c:Qf) (s:Int) (micro:Int) (h :
 (zif (((((decide (s<(0:Int)))||(decide (s≥(Qs c))))||(decide (micro<(1:Int))))||(decide (micro>(5:Int))))||(decide ((Qs c)>(4:Int)))) (K (QaY (0:Int))) (zif (c.2.2.1==(2:Int)) (Qek K c s (if (w64 ((Qs c)-s))<micro then (w64 ((Qs c)-s)) else micro)) (Qek K c s micro)))):Hold (tawp Qha (0+0) QAh (TQ 0 0 Qud K) (Qe [(.a (Tup.cells Qv c)),(.c TI s),(.c TI micro)])) :=
 Hold.of (by kernel_rfl) h
theorem QEz (c:Qf) (s:Int) (micro:Int):TCon Tryz.prog 252 [(.a (Tup.cells Qv c)),(.c TI s),(.c TI micro)] (QaY (Zr c s micro)):=by
 refine Ql rfl fun hb=>tcg (Γ:=Qha) (n:=66) (sg:=Qjj.sg) Qk (TOkL.cons Qd7 (TOkL.cons QgS (TOkL.cons Qxu (TOkL.cons Qm9 (TOkL.cons QqM TOkL.nil))))) (by kernel_rfl) (by kernel_rfl) (QBQ _ c s micro ?_)
 have hl_c_0:(c.1).length≤9223372036854775807:=hb.1.1.1
 have hl_c_1:(c.2.1).length≤9223372036854775807:=hb.1.2.1.1
 have hl_c_3:(c.2.2.2.1).length≤9223372036854775807:=hb.1.2.2.2.1.1
 have hl_c_4:(c.2.2.2.2.1).length≤9223372036854775807:=hb.1.2.2.2.2.1.1
 have hl_c_5:(c.2.2.2.2.2).length≤9223372036854775807:=hb.1.2.2.2.2.2.1.1
 have hs:=QbR (c:=c)
 refine ⟨fun h=>R_eq (by unfold Zr;rw [if_neg];grind [m_in]),fun h=>?_⟩
 have hin:(m_in s 0 (Qs c-1)&&m_in micro 1 5&&decide (Qs c≤4))=true:=by grind [m_in]
 have hin2:=hin
 simp only [Bool.and_eq_true,Q6,decide_eq_true_eq] at hin2
 have e3:w64 (Qs c-s)=Qs c-s:=Qx (by omega) (by omega)
 have key:∀ k:Int,Zr c s micro=w64 (w64 (w64 (k*ZN c s)+iMax (Q4 c s).1 (Q4 c s).2)+if ZI c s then Zb c s else 0)→Qek (fun r'=>r'=QaY (Zr c s micro)) c s k:=by
  intro k hk
  refine (QFG (fun r'=>r'=QaY (Zr c s micro)) c s _ ⟨fun h=>R_eq ?_,fun h=>R_eq ?_⟩).h
  ·rw [hk,h];rfl
  ·rw [hk,h];simp [Qp1];rfl
 rw [e3]
 refine ⟨fun h1=>key _ ?_,fun h1=>key _ ?_⟩
 ·simp only [Zr,hin,if_true]
  simp at h1
  rw [if_pos h1];rfl
 ·simp only [Zr,hin,if_true]
  simp at h1
  rw [if_neg h1]
theorem QEy:Qi Tryz.prog Qjj:=Qm fun x _=>QEz x.1 x.2.1 x.2.2.1
end
end Go.Proofs.YtdplaepmjogjjaaGreat.Am

