/- -/
import Derived.Test.YtephkbajoofeoaaYCP1
import Derived.Test.YtephkbajoofeoaaYCP4
namespace Go.Proofs.Ytephkbajoofeoaa.Am
open Go Go.RowKit Go.Proofs.Ytephkbajoofeoaa
set_option linter.all false
noncomputable section
variable (K:TRes→Prop)
def Yv (t:Bool):TRes:=zre (zcb t)
def QcY:TRow:=Qr 48 [(.a [(.sl ctOp)]),(.c (.sl [TI]))] fun x=>(none,Yv (Qh x.1 x.2.1))
def QbO:List TRow:=[YF,QcC]
def QhO:TCode :=
 (zsq [(zsq [(.reg [zmv 6 5,zmv 7 1,zle 8 7,zbi 9 .lss 6 8]),(.cond 9 .skip (.exit 0))]),(.block 1 (zsq [(.draw [zmv 12 1,zmv 13 5,zia 14 12 13 [TI],zld 15 14 1,zfa 16 2 0,zld 17 16 1,zle 18 17,zbi 19 .sub 18 (zki 1),zca 20 102 [15,(zki 1),19],zno 21 20,zmv 22 21,.grp 22 false [zmv 23 5,zbi 24 .gtr 23 (zki 0),zmv 25 24,.grp 25 true [zmv 26 1,zmv 27 5,zia 28 26 27 [TI],zld 29 28 1,zmv 30 1,zmv 31 5,zbi 32 .sub 31 (zki 1),zia 33 30 32 [TI],zld 34 33 1,zbi 35 .leq 29 34] 36 35] 37 36] []),(.cond 37 (zsq [(.reg [zmv 4 (zkb false)]),.ret]) .skip)])),(.reg [zmv 10 5,zbi 11 .add 10 (zki 1),zmv 5 11])])
def QeJ:List (Nat × Md):=[(1,.one .d),(2,.b [.d]),(5,.one .d)]
def Qgw:TCode :=
 (zsq [(.reg [zLd 38 2 1,zca 39 60 [38],zmv 4 39]),.ret])
def Qm2:TCode :=
 (zsq [(.reg [zop 2 (.box 66 0 1),zmv 4 (zkb false)]),(zsq [(.reg [zmv 5 (zki 0)]),(.block 0 (.loop QeJ QhO))]),Qgw])
def Qeb:List (ARv × Md):=[(.t 4,.one .d)]
def QeX:Qd:=TQ 0 0 Qeb K
def Qkz:Qd:=Qseq (tawp QbO 0 Qgw (QeX K)) (QeX K)
def QjW:Qd:=Qblk 0 (Qkz K)
def Qaw (m:List TOp') (cuts:List Int) (i:Int):Prop:=Loop QbO 0 QeJ QhO (QjW K) ⟨[(1,(zcs [TI] cuts)),(2,(.p 0 0 0)),(5,(zci i))],[(0,(.box [(zcs ctOp m)]))],1⟩
theorem Qea (m:List TOp') (cuts:List Int) (i:Int) (h :
 (zif (decide (i<(cuts.length:Int))) ((((0:Int)≤i∧Int.toNat i<cuts.length)∧((!(!(m_in (gtd (0:Int) cuts (Int.toNat i)) (1:Int) (w64 ((m.length:Int)-(1:Int))))))=true→((decide (i>(0:Int)))=true→(((0:Int)≤i∧Int.toNat i<cuts.length)∧((0:Int)≤w64 (i-(1:Int))∧Int.toNat (w64 (i-(1:Int)))<cuts.length)))))∧(zif ((!(m_in (gtd (0:Int) cuts (Int.toNat i)) (1:Int) (w64 ((m.length:Int)-(1:Int)))))||((decide (i>(0:Int)))&&(decide ((gtd (0:Int) cuts (Int.toNat i))≤(gtd (0:Int) cuts (Int.toNat (w64 (i-(1:Int))))))))) (K (Yv false)) (Qaw K m cuts (w64 (i+(1:Int)))))) (K (Yv (Qs m))))):Qaw K m cuts i :=
 Loop.of (by kernel_rfl) h
theorem Qm7 (m:List TOp') (cuts:List Int) (h :
 (Qaw K m cuts 0)):Hold (tawp QbO (0+0) Qm2 (TQ 0 0 Qeb K) (Ql [(.a [(.c (.sl ctOp) m)]),(.c (.sl [TI]) cuts)])) :=
 Hold.of (by kernel_rfl) h
theorem QnX (m:List TOp') (cuts:List Int):TCon Try.prog 48 [(.a [(.c (.sl ctOp) m)]),(.c (.sl [TI]) cuts)] (Yv (Qh m cuts)):=by
 refine QY rfl fun hb=>tcg (n:=40) (sg:=QcY.sg) Qv (TOk.cons JM (TOk.cons QkM TOk.nil)) (by kernel_rfl) (by kernel_rfl) (Qm7 _ m cuts ?_)
 have hl_m_0:(m).length≤9223372036854775807:=hb.1.1.1
 have hl_cuts:cuts.length≤9223372036854775807:=hb.2.1.1
 refine Jy cuts (fun r k=>QC (m.length-1) (ZH cuts k) r=QC (m.length-1) none cuts→Qaw (fun r'=>r'=Yv (Qh m cuts)) m cuts k) ?_ ?_ rfl
 ·intro he
  refine Qea (fun r'=>r'=Yv (Qh m cuts)) m cuts _ ⟨fun h=>by simp at h,fun _=>?_⟩
  grind [QC,Qh]
 ·intro k x r hk hlt hg ih he
  refine Qea (fun r'=>r'=Yv (Qh m cuts)) m cuts _ ⟨fun _=>?_,fun h=>by simp at h;omega⟩
  rw [Int.toNat_natCast,hg,Qk (x:=(k:Int)+1) (by omega) (by omega),Qk (x:=(m.length:Int)-1) (by omega) (by omega)]
  have ep:ZH cuts (k+1)=some x:=by simp [ZH,hg]
  rw [ep] at ih
  rcases Nat.eq_zero_or_pos k with h0 | h0
  ·subst h0
   simp only [QC,ZH,if_true] at he
   grind [Qh]
  ·have e2:=QaN h0 (by omega:k≤9223372036854775807)
   simp only [QC,ZH,if_neg (Nat.ne_of_gt h0)] at he
   grind [Qh]
theorem QnR:Qq Try.prog QcY:=Qy fun x _=>QnX x.1 x.2.1
def Z9 (t:Bool):TRes:=zre (zcb t)
def JE:TRow:=Qr 47 [(.a [(.sl ctOp)]),(.c (.sl [TI]))] fun x=>(none,Z9 (Qh x.1 x.2.1))
def Qdi:List TRow:=[Qdu]
def Qga:TCode :=
 (zsq [(.reg [zbi 13 .lss 12 11]),(.cond 13 .skip (.exit 0)),(.block 1 (zsq [(.reg [zmv 14 12,zia 15 10 12 [TI],zld 16 15 1,zmv 5 14,zmv 6 16]),(.reg [zmv 17 6,zbi 18 .lss 17 (zki 1),zmv 19 18,.grp 19 false [zmv 20 6,zfa 21 2 0,zld 22 21 1,zle 23 22,zbi 24 .sub 23 (zki 1),zbi 25 .gtr 20 24] 26 25,zmv 27 26,.grp 27 false [zmv 28 5,zbi 29 .gtr 28 (zki 0),zmv 30 29,.grp 30 true [zmv 31 1,zmv 32 5,zbi 33 .sub 32 (zki 1),zia 34 31 33 [TI],zld 35 34 1,zmv 36 6,zbi 37 .geq 35 36] 38 37] 39 38]),(.cond 39 (zsq [(.reg [zmv 4 (zkb false)]),.ret]) .skip)])),(.reg [zbi 40 .add 12 (zki 1),zmv 12 40])])
def Qf3:List (Nat × Md):=[(1,.one .d),(2,.b [.d]),(10,.one .d),(11,.one .d),(12,.one .d)]
def Qey:TCode :=
 (zsq [(.reg [zmv 4 (zkb true)]),.ret])
def Qkr:TCode :=
 (zsq [(.reg [zop 2 (.box 66 0 1),zmv 4 (zkb false)]),(zsq [(.reg [zLd 7 2 1,zca 8 133 [7],zno 9 8]),(.cond 9 (zsq [(.reg [zmv 4 (zkb false)]),.ret]) .skip)]),(zsq [(.reg [zmv 10 1,zle 11 10,zmv 12 (zki 0)]),(.block 0 (.loop Qf3 Qga))]),Qey])
def Qez:List (ARv × Md):=[(.t 4,.one .d)]
def QgF:Qd:=TQ 0 0 Qez K
def QmV:Qd:=Qseq (tawp Qdi 0 Qey (QgF K)) (QgF K)
def QkD:Qd:=Qblk 0 (QmV K)
def Qam (m:List TOp') (cuts:List Int) (x:Int):Prop:=Loop Qdi 0 Qf3 Qga (QkD K) ⟨[(1,(zcs [TI] cuts)),(2,(.p 0 0 0)),(10,(zcs [TI] cuts)),(11,(zci (cuts.length:Int))),(12,(zci x))],[(0,(.box [(zcs ctOp m)]))],1⟩
theorem Qel (m:List TOp') (cuts:List Int) (x:Int) (h :
 (zif (decide (x<(cuts.length:Int))) (((0:Int)≤x∧Int.toNat x<cuts.length)∧(((!((decide ((gtd (0:Int) cuts (Int.toNat x))<(1:Int)))||(decide ((gtd (0:Int) cuts (Int.toNat x))>(w64 ((m.length:Int)-(1:Int)))))))=true→((decide (x>(0:Int)))=true→((0:Int)≤w64 (x-(1:Int))∧Int.toNat (w64 (x-(1:Int)))<cuts.length)))∧(zif (((decide ((gtd (0:Int) cuts (Int.toNat x))<(1:Int)))||(decide ((gtd (0:Int) cuts (Int.toNat x))>(w64 ((m.length:Int)-(1:Int))))))||((decide (x>(0:Int)))&&(decide ((gtd (0:Int) cuts (Int.toNat (w64 (x-(1:Int)))))≥(gtd (0:Int) cuts (Int.toNat x)))))) (K (Z9 false)) (Qam K m cuts (w64 (x+(1:Int))))))) (K (Z9 true)))):Qam K m cuts x :=
 Loop.of (by kernel_rfl) h
theorem Qj7 (m:List TOp') (cuts:List Int) (h :
 (zif (!(Qs m)) (K (Z9 false)) (Qam K m cuts 0))):Hold (tawp Qdi (0+0) Qkr (TQ 0 0 Qez K) (Ql [(.a [(.c (.sl ctOp) m)]),(.c (.sl [TI]) cuts)])) :=
 Hold.of (by kernel_rfl) h
theorem Qnz (m:List TOp') (cuts:List Int):TCon Try.prog 47 [(.a [(.c (.sl ctOp) m)]),(.c (.sl [TI]) cuts)] (Z9 (Qh m cuts)):=by
 refine QY rfl fun hb=>tcg (n:=41) (sg:=JE.sg) Qv (TOk.cons QkQ TOk.nil) (by kernel_rfl) (by kernel_rfl) (Qj7 _ m cuts ?_)
 have hl_m_0:(m).length≤9223372036854775807:=hb.1.1.1
 have hl_cuts:cuts.length≤9223372036854775807:=hb.2.1.1
 refine ⟨fun h=>R_eq (by grind [Qh]),fun h=>?_⟩
 refine Jy cuts (fun r k=>QC (m.length-1) (ZH cuts k) r=QC (m.length-1) none cuts→Qam (fun r'=>r'=Z9 (Qh m cuts)) m cuts k) ?_ ?_ rfl
 ·intro he
  refine Qel (fun r'=>r'=Z9 (Qh m cuts)) m cuts _ ⟨fun h=>by simp at h,fun _=>?_⟩
  grind [QC,Qh]
 ·intro k x r hk hlt hg ih he
  refine Qel (fun r'=>r'=Z9 (Qh m cuts)) m cuts _ ⟨fun _=>?_,fun h=>by simp at h;omega⟩
  rw [Int.toNat_natCast,hg,Qk (x:=(k:Int)+1) (by omega) (by omega),Qk (x:=(m.length:Int)-1) (by omega) (by omega)]
  have ep:ZH cuts (k+1)=some x:=by simp [ZH,hg]
  rw [ep] at ih
  rcases Nat.eq_zero_or_pos k with h0 | h0
  ·subst h0
   simp only [QC,ZH,if_true,m_in] at he
   grind [Qh]
  ·have e2:=QaN h0 (by omega:k≤9223372036854775807)
   simp only [QC,ZH,if_neg (Nat.ne_of_gt h0),m_in] at he
   grind [Qh]
theorem Qci:Qq Try.prog JE:=Qy fun x _=>Qnz x.1 x.2.1
def YK (t:Int × Int):TRes:=zre (.tp [(zci t.1),(zci t.2)])
def Qav:TRow:=Qr 49 [(.a [(.sl ctOp)]),(.c (.sl [TI])),(.c TI)] fun x=>(none,YK (Qo x.1 x.2.1 x.2.2.1))
def QgH:List TRow:=[JE]
def Qf1:TCode :=
 (zsq [(zsq [(.reg [zmv 34 2,zmv 35 1,zle 36 35,zbi 37 .lss 34 36]),(.cond 37 (.reg [zmv 38 1,zmv 39 2,zia 40 38 39 [TI],zld 41 40 1,zmv 9 41]) .skip)]),(.reg [zmv 42 8,zmv 43 9,zmv 6 42,zmv 7 43]),.ret])
def QlE:List (Nat × Md):=zdl [1,2,8,9]
def Ql4:TCode:=.wk QlE Qf1
def Qmu:TCode :=
 (zsq [(.reg [zop 3 (.box 66 0 1),zmv 6 (zki 0),zmv 7 (zki 0)]),(zsq [(.reg [zLd 10 3 1,zmv 11 1,zca 12 47 [10,11],zno 13 12,zmv 14 13,.grp 14 false [zmv 15 2,zbi 16 .lss 15 (zki 0)] 17 16,zmv 18 17,.grp 18 false [zmv 19 2,zmv 20 1,zle 21 20,zbi 22 .gtr 19 21] 23 22]),(.cond 23 (zsq [(.reg [zmv 6 (zki 0),zmv 7 (zki 0)]),.ret]) .skip)]),(.draw [zfa 24 3 0,zld 25 24 1,zle 26 25,zmv 8 (zki 0),zmv 9 26] []),(zsq [(.reg [zmv 27 2,zbi 28 .gtr 27 (zki 0)]),(.cond 28 (.reg [zmv 29 1,zmv 30 2,zbi 31 .sub 30 (zki 1),zia 32 29 31 [TI],zld 33 32 1,zmv 8 33]) .skip)]),Ql4])
def Qfk:List (ARv × Md):=[(.t 6,.one .d),(.t 7,.one .d)]
def QkU:Qd:=TQ 0 0 Qfk K
@[irreducible] def Qbw (m:List TOp') (cuts:List Int) (s:Int) (fro:Int):Prop:=tawp QgH 0 Qf1 (QkU K) ⟨[(1,(zcs [TI] cuts)),(2,(zci s)),(8,(zci fro)),(9,(zci (m.length:Int)))],[],0⟩
theorem Qha (m:List TOp') (cuts:List Int) (s:Int) (fro:Int) (h :
 (zif (decide (s<(cuts.length:Int))) (((0:Int)≤s∧Int.toNat s<cuts.length)∧K (YK (fro,(gtd (0:Int) cuts (Int.toNat s))))) (K (YK (fro,(m.length:Int)))))):Hold (Qbw K m cuts s fro) :=
 Hold.of (by kernel_rfl) h
theorem QjJ (m:List TOp') (cuts:List Int) (s:Int) (h :
 (zif (((!(Qh m cuts))||(decide (s<(0:Int))))||(decide (s>(cuts.length:Int)))) (K (YK ((0:Int),(0:Int)))) (zif (decide (s>(0:Int))) (((0:Int)≤w64 (s-(1:Int))∧Int.toNat (w64 (s-(1:Int)))<cuts.length)∧(Qbw K m cuts s (gtd (0:Int) cuts (Int.toNat (w64 (s-(1:Int))))))) (Qbw K m cuts s 0)))):Hold (tawp QgH (0+0) Qmu (TQ 0 0 Qfk K) (Ql [(.a [(.c (.sl ctOp) m)]),(.c (.sl [TI]) cuts),(.c TI s)])) :=
 Hold.of (by kernel_rfl) h
theorem Qmq (m:List TOp') (cuts:List Int) (s:Int):TCon Try.prog 49 [(.a [(.c (.sl ctOp) m)]),(.c (.sl [TI]) cuts),(.c TI s)] (YK (Qo m cuts s)):=by
 refine QY rfl fun hb=>tcg (n:=44) (sg:=Qav.sg) Qv (TOk.cons Qci TOk.nil) (by kernel_rfl) (by kernel_rfl) (QjJ _ m cuts s ?_)
 have hl_m_0:(m).length≤9223372036854775807:=hb.1.1.1
 have hl_cuts:cuts.length≤9223372036854775807:=hb.2.1.1
 refine ⟨fun h=>R_eq (by grind [Qo,m_in]),fun h=>?_⟩
 have hc:Qh m cuts=true∧0≤s∧s≤cuts.length:=by grind [m_in]
 have hl:=YW hc.1
 have e1:(Qh m cuts&&m_in s 0 cuts.length)=true:=by grind [m_in]
 refine ⟨fun h1=>?_,fun h1=>?_⟩
 ·have h1:0<s:=by simpa using h1
  rw [Qk (x:=s-1) (by omega) (by omega),show Int.toNat (s-1)=s.toNat-1 by omega]
  refine ⟨⟨by omega,by omega⟩,(Qha (fun r'=>r'=YK (Qo m cuts s)) m cuts s _ ⟨fun h2=>?_,fun h2=>?_⟩).h⟩
  ·have h2:s<cuts.length:=by simpa using h2
   exact ⟨⟨by omega,by omega⟩,R_eq (by simp [Qo,e1,h1,h2])⟩
  ·exact R_eq (by simp at h2;simp [Qo,e1,h1,Int.not_lt.2 h2])
 ·have h1:¬ 0<s:=by simpa using h1
  refine (Qha (fun r'=>r'=YK (Qo m cuts s)) m cuts s _ ⟨fun h2=>?_,fun h2=>?_⟩).h
  ·have h2:s<cuts.length:=by simpa using h2
   exact ⟨⟨by omega,by omega⟩,R_eq (by simp [Qo,e1,h1,h2])⟩
  ·exact R_eq (by simp at h2;simp [Qo,e1,h1,Int.not_lt.2 h2])
theorem Qhc:Qq Try.prog Qav:=Qy fun x _=>Qmq x.1 x.2.1 x.2.2.1
def YX (t:Int):TRes:=zre (zci t)
def J8:TRow:=Qr 51 [(.a [(.sl ctOp)]),(.c (.sl [TI])),(.c TI)] fun x=>(none,YX (QS x.1 x.2.1 x.2.2.1))
def QcK:List TRow:=[Qav,QaK]
def Qg7:TCode :=
 (zsq [(zsq [(.reg [zmv 19 10,zmv 20 8,zbi 21 .lss 19 20]),(.cond 21 .skip (.exit 0))]),(.block 1 (.reg [zmv 24 9,zfa 25 3 0,zld 26 25 1,zmv 27 10,zia 28 26 27 ctOp,zLd 29 28 4,zca 30 52 [29],zbi 31 .add 24 30,zmv 9 31])),(.reg [zmv 22 10,zbi 23 .add 22 (zki 1),zmv 10 23])])
def QeC:List (Nat × Md):=[(3,.b [.d]),(8,.one .d),(9,.one .d),(10,.one .d)]
def QeT:TCode :=
 (zsq [(.reg [zmv 32 9,zmv 6 32]),.ret])
def QlW:TCode :=
 (zsq [(.reg [zop 3 (.box 66 0 1),zmv 6 (zki 0)]),(.reg [zLd 12 3 1,zmv 13 1,zmv 14 2,zca 15 49 [12,13,14],zmv 11 15,zex 16 11 0,zex 17 11 1,zmv 7 16,zmv 8 17]),(.reg [zmv 9 (zki 0)]),(zsq [(.reg [zmv 18 7,zmv 10 18]),(.block 0 (.loop QeC Qg7))]),QeT])
def QdB:List (ARv × Md):=[(.t 6,.one .d)]
def QgV:Qd:=TQ 0 0 QdB K
def Qkf:Qd:=Qseq (tawp QcK 0 QeT (QgV K)) (QgV K)
def Qjf:Qd:=Qblk 0 (Qkf K)
def Qa4 (m:List TOp') (cuts:List Int) (s:Int) (sum:Int) (i:Int):Prop:=Loop QcK 0 QeC Qg7 (Qjf K) ⟨[(3,(.p 0 0 0)),(8,(zci ((Qo m cuts s).2))),(9,(zci sum)),(10,(zci i))],[(0,(.box [(zcs ctOp m)]))],1⟩
theorem QdF (m:List TOp') (cuts:List Int) (s:Int) (sum:Int) (i:Int) (h :
 (zif (decide (i<((Qo m cuts s).2))) (((0:Int)≤i∧Int.toNat i<m.length)∧(Qa4 K m cuts s (w64 (sum+(Q5 (gtd dOp m (Int.toNat i))))) (w64 (i+(1:Int))))) (K (YX sum)))):Qa4 K m cuts s sum i :=
 Loop.of (by kernel_rfl) h
theorem Qjt (m:List TOp') (cuts:List Int) (s:Int) (h :
 (Qa4 K m cuts s 0 ((Qo m cuts s).1))):Hold (tawp QcK (0+0) QlW (TQ 0 0 QdB K) (Ql [(.a [(.c (.sl ctOp) m)]),(.c (.sl [TI]) cuts),(.c TI s)])) :=
 Hold.of (by kernel_rfl) h
theorem Qlz (m:List TOp') (cuts:List Int) (s:Int):TCon Try.prog 51 [(.a [(.c (.sl ctOp) m)]),(.c (.sl [TI]) cuts),(.c TI s)] (YX (QS m cuts s)):=by
 refine QY rfl fun hb=>tcg (n:=33) (sg:=J8.sg) Qv (TOk.cons Qhc (TOk.cons Qei TOk.nil)) (by kernel_rfl) (by kernel_rfl) (Qjt _ m cuts s ?_)
 have hl_m_0:(m).length≤9223372036854775807:=hb.1.1.1
 have hl_cuts:cuts.length≤9223372036854775807:=hb.2.1.1
 have hr:=QlJ m cuts s
 have:=Qm1 m _ _ hr.1 hr.2.1 hr.2.2.1 (fun r k=>∀ y:Int,w64 (y+(r.map Q5).sum)=(QS m cuts s)→Qa4 (fun r'=>r'=YX (QS m cuts s)) m cuts s (w64 y) k) ?_ ?_ 0 (by simp [QS])
 ·rw [show (((Qo m cuts s).1.toNat:Nat):Int)=(Qo m cuts s).1 by omega] at this
  exact this
 ·intro y he
  refine QdF (fun r'=>r'=YX (QS m cuts s)) m cuts s _ _ ⟨fun h=>by simp at h;omega,fun _=>R_eq ?_⟩
  simpa using he
 ·intro k x r h1 h2 hlt hg ih y he
  refine QdF (fun r'=>r'=YX (QS m cuts s)) m cuts s _ _ ⟨fun _=>?_,fun h=>by simp at h;omega⟩
  rw [Int.toNat_natCast,hg,Qk (x:=(k:Int)+1) (by omega) (by omega),Qki]
  refine ⟨⟨by omega,hlt⟩,ih _ ?_⟩
  rw [← he,List.map_cons,List.sum_cons,Int.add_assoc]
theorem Qgy:Qq Try.prog J8:=Qy fun x _=>Qlz x.1 x.2.1 x.2.2.1
def YJ (t:Int):TRes:=zre (zci t)
def QcS:TRow:=Qr 50 [(.a [(.sl ctOp)]),(.c (.sl [TI]))] fun x=>(none,YJ (QL x.1 x.2.1))
def Qdm:List TRow:=[JE,J8]
def Qft:TCode :=
 (zsq [(zsq [(.reg [zmv 12 6,zmv 13 1,zle 14 13,zbi 15 .leq 12 14]),(.cond 15 .skip (.exit 0))]),(.block 1 (.reg [zmv 18 5,zLd 19 2 1,zmv 20 1,zmv 21 6,zca 22 51 [19,20,21],zop 23 (.mm true 18 22),zmv 5 23])),(.reg [zmv 16 6,zbi 17 .add 16 (zki 1),zmv 6 17])])
def Qgg:List (Nat × Md):=[(1,.one .d),(2,.b [.d]),(5,.one .d),(6,.one .d)]
def Qhv:TCode :=
 (zsq [(.reg [zmv 24 5,zmv 4 24]),.ret])
def Qmh:TCode :=
 (zsq [(.reg [zop 2 (.box 66 0 1),zmv 4 (zki 0)]),(.reg [zmv 5 (zki 0)]),(zsq [(.reg [zLd 7 2 1,zmv 8 1,zca 9 47 [7,8],zno 10 9]),(.cond 10 (zsq [(.reg [zmv 11 5,zmv 4 11]),.ret]) .skip)]),(zsq [(.reg [zmv 6 (zki 0)]),(.block 0 (.loop Qgg Qft))]),Qhv])
def Qhp:List (ARv × Md):=[(.t 4,.one .d)]
def Qem:Qd:=TQ 0 0 Qhp K
def Qlh:Qd:=Qseq (tawp Qdm 0 Qhv (Qem K)) (Qem K)
def Qmb:Qd:=Qblk 0 (Qlh K)
def QaX (m:List TOp') (cuts:List Int) (most:Int) (s:Int):Prop:=Loop Qdm 0 Qgg Qft (Qmb K) ⟨[(1,(zcs [TI] cuts)),(2,(.p 0 0 0)),(5,(zci most)),(6,(zci s))],[(0,(.box [(zcs ctOp m)]))],1⟩
theorem Qgp (m:List TOp') (cuts:List Int) (most:Int) (s:Int) (h :
 (zif (decide (s≤(cuts.length:Int))) (QaX K m cuts (if most<(QS m cuts s) then (QS m cuts s) else most) (w64 (s+(1:Int)))) (K (YJ most)))):QaX K m cuts most s :=
 Loop.of (by kernel_rfl) h
theorem Qmj (m:List TOp') (cuts:List Int) (h :
 (zif (!(Qh m cuts)) (K (YJ (0:Int))) (QaX K m cuts 0 0))):Hold (tawp Qdm (0+0) Qmh (TQ 0 0 Qhp K) (Ql [(.a [(.c (.sl ctOp) m)]),(.c (.sl [TI]) cuts)])) :=
 Hold.of (by kernel_rfl) h
theorem QmZ (m:List TOp') (cuts:List Int):TCon Try.prog 50 [(.a [(.c (.sl ctOp) m)]),(.c (.sl [TI]) cuts)] (YJ (QL m cuts)):=by
 refine QY rfl fun hb=>tcg (n:=25) (sg:=QcS.sg) Qv (TOk.cons Qci (TOk.cons Qgy TOk.nil)) (by kernel_rfl) (by kernel_rfl) (Qmj _ m cuts ?_)
 have hl_m_0:(m).length≤9223372036854775807:=hb.1.1.1
 have hl_cuts:cuts.length≤9223372036854775807:=hb.2.1.1
 refine ⟨fun h=>R_eq (by simp at h;simp [QL,h]),fun h=>?_⟩
 have hc:Qh m cuts=true:=by simpa using h
 have hl:=YW hc
 refine Jf (cuts.length+1) (fun k=>QaX (fun r'=>r'=YJ (QL m cuts)) m cuts (Z3 (fun s=>QS m cuts s) k 0) k) ?_ ?_
 ·refine Qgp (fun r'=>r'=YJ (QL m cuts)) m cuts _ _ ⟨fun h=>by simp at h;omega,fun _=>R_eq ?_⟩
  simp [QL,hc]
 ·intro k hk ih
  refine Qgp (fun r'=>r'=YJ (QL m cuts)) m cuts _ _ ⟨fun _=>?_,fun h=>by simp at h;omega⟩
  rw [Qk (x:=(k:Int)+1) (by omega) (by omega)]
  exact ih
theorem QjD:Qq Try.prog QcS:=Qy fun x _=>QmZ x.1 x.2.1
end
end Go.Proofs.Ytephkbajoofeoaa.Am

