/- -/
import Derived.Test.YtephkbajoofeoaaWDP1
import Derived.Test.YtephkbajoofeoaaWDP4
namespace Go.Proofs.Ytephkbajoofeoaa.Am
open Go Go.RowKit Go.Proofs.Ytephkbajoofeoaa
set_option linter.all false
noncomputable section
variable (K:TRes→Prop)
def YW (t:Bool):TRes:=zre (zcb t)
def QaN:TRow:=Qj 48 [(.a [(.sl ctOp)]),(.c (.sl [TI]))] fun x=>(none,YW (Qp x.1 x.2.1))
def QbY:TTab:=⟨[Zx,QbD],false⟩
def Qgz:TCode :=
 (zsq [(zsq [(.reg [zmv 6 5,zmv 7 1,zle 8 7,zbi 9 .lss 6 8]),(.cond 9 .skip (.exit 0))]),(.block 1 (zsq [(.draw [zmv 12 1,zmv 13 5,zia 14 12 13 [TI],zld 15 14 1,zfa 16 2 0,zld 17 16 1,zle 18 17,zbi 19 .sub 18 (zki 1),zca 20 102 [15,(zki 1),19],zno 21 20,zmv 22 21,.grp 22 false [zmv 23 5,zbi 24 .gtr 23 (zki 0),zmv 25 24,.grp 25 true [zmv 26 1,zmv 27 5,zia 28 26 27 [TI],zld 29 28 1,zmv 30 1,zmv 31 5,zbi 32 .sub 31 (zki 1),zia 33 30 32 [TI],zld 34 33 1,zbi 35 .leq 29 34] 36 35] 37 36] []),(.cond 37 (zsq [(.reg [zmv 4 (zkb false)]),.ret]) .skip)])),(.reg [zmv 10 5,zbi 11 .add 10 (zki 1),zmv 5 11])])
def Qlb:List (Nat × Md):=[(1,.one .d),(2,.b [.d]),(5,.one .d)]
def Qjf:TCode :=
 (zsq [(.reg [zLd 38 2 1,zca 39 60 [38],zmv 4 39]),.ret])
def QqB:TCode :=
 (zsq [(.reg [zop 2 (.box 66 0 1),zmv 4 (zkb false)]),(zsq [(.reg [zmv 5 (zki 0)]),(.block 0 (.loop Qlb Qgz))]),Qjf])
def Qfk:List (ARv × Md):=[(.t 4,.one .d)]
def QiL:Qc:=TQ 0 0 Qfk K
def Qqf:Qc:=Qseq (tawp QbY 0 Qjf (QiL K)) (QiL K)
def Qmh:Qc:=Qblk 0 (Qqf K)
def Qbl (m:List TOp') (cuts:List Int) (i:Int):Prop:=Loop QbY 0 Qlb Qgz (Qmh K) ⟨[(1,(zcs [TI] cuts)),(2,(.p 0 0 0)),(5,(zci i))],[(0,(.box [(zcs ctOp m)]))],1⟩
theorem QkW (m:List TOp') (cuts:List Int) (i:Int) (h :
 (zif (decide (i<(cuts.length:Int))) ((((0:Int)≤i∧Int.toNat i<cuts.length)∧((!(!(m_in (gtd (0:Int) cuts (Int.toNat i)) (1:Int) (w64 ((m.length:Int)-(1:Int))))))=true→((decide (i>(0:Int)))=true→(((0:Int)≤i∧Int.toNat i<cuts.length)∧((0:Int)≤w64 (i-(1:Int))∧Int.toNat (w64 (i-(1:Int)))<cuts.length)))))∧(zif ((!(m_in (gtd (0:Int) cuts (Int.toNat i)) (1:Int) (w64 ((m.length:Int)-(1:Int)))))||((decide (i>(0:Int)))&&(decide ((gtd (0:Int) cuts (Int.toNat i))≤(gtd (0:Int) cuts (Int.toNat (w64 (i-(1:Int))))))))) (K (YW false)) (Qbl K m cuts (w64 (i+(1:Int)))))) (K (YW (Qq m))))):Qbl K m cuts i :=
 Loop.of (by kernel_rfl) h
theorem Qm2 (m:List TOp') (cuts:List Int) (h :
 (Qbl K m cuts 0)):Hold (tawp QbY (0+0) QqB (TQ 0 0 Qfk K) (Qh [(.a [(.c (.sl ctOp) m)]),(.c (.sl [TI]) cuts)])) :=
 Hold.of (by kernel_rfl) h
theorem Qn1 (m:List TOp') (cuts:List Int):TCon Try.prog 48 [(.a [(.c (.sl ctOp) m)]),(.c (.sl [TI]) cuts)] (YW (Qp m cuts)):=by
 refine Ql rfl fun hb=>tcg (Γ:=QbY) (n:=40) (sg:=QaN.sg) Qm (TOkL.cons Yp (TOkL.cons QfQ TOkL.nil)) (by kernel_rfl) (by kernel_rfl) (Qm2 _ m cuts ?_)
 have hl_m_0:(m).length≤9223372036854775807:=hb.1.1.1
 have hl_cuts:cuts.length≤9223372036854775807:=hb.2.1.1
 refine ZF cuts (fun r k=>QQ (m.length-1) (ZE cuts k) r=QQ (m.length-1) none cuts→Qbl (fun r'=>r'=YW (Qp m cuts)) m cuts k) ?_ ?_ rfl
 ·intro he
  refine QkW (fun r'=>r'=YW (Qp m cuts)) m cuts _ ⟨fun h=>by simp at h,fun _=>?_⟩
  grind [QQ,Qp]
 ·intro k x r hk hlt hg ih he
  refine QkW (fun r'=>r'=YW (Qp m cuts)) m cuts _ ⟨fun _=>?_,fun h=>by simp at h;omega⟩
  rw [Int.toNat_natCast,hg,Qr (x:=(k:Int)+1) (by omega) (by omega),Qr (x:=(m.length:Int)-1) (by omega) (by omega)]
  have ep:ZE cuts (k+1)=some x:=by simp [ZE,hg]
  rw [ep] at ih
  rcases Nat.eq_zero_or_pos k with h0 | h0
  ·subst h0
   simp only [QQ,ZE,if_true] at he
   grind [Qp]
  ·have e2:=QbF h0 (by omega:k≤9223372036854775807)
   simp only [QQ,ZE,if_neg (Nat.ne_of_gt h0)] at he
   grind [Qp]
theorem QgA:Qi Try.prog QaN:=Qn fun x _=>Qn1 x.1 x.2.1
def Yw (t:Bool):TRes:=zre (zcb t)
def Qcz:TRow:=Qj 47 [(.a [(.sl ctOp)]),(.c (.sl [TI]))] fun x=>(none,Yw (Qp x.1 x.2.1))
def QcB:TTab:=⟨[Qcy],false⟩
def QhI:TCode :=
 (zsq [(.reg [zbi 13 .lss 12 11]),(.cond 13 .skip (.exit 0)),(.block 1 (zsq [(.reg [zmv 14 12,zia 15 10 12 [TI],zld 16 15 1,zmv 5 14,zmv 6 16]),(.reg [zmv 17 6,zbi 18 .lss 17 (zki 1),zmv 19 18,.grp 19 false [zmv 20 6,zfa 21 2 0,zld 22 21 1,zle 23 22,zbi 24 .sub 23 (zki 1),zbi 25 .gtr 20 24] 26 25,zmv 27 26,.grp 27 false [zmv 28 5,zbi 29 .gtr 28 (zki 0),zmv 30 29,.grp 30 true [zmv 31 1,zmv 32 5,zbi 33 .sub 32 (zki 1),zia 34 31 33 [TI],zld 35 34 1,zmv 36 6,zbi 37 .geq 35 36] 38 37] 39 38]),(.cond 39 (zsq [(.reg [zmv 4 (zkb false)]),.ret]) .skip)])),(.reg [zbi 40 .add 12 (zki 1),zmv 12 40])])
def Qid:List (Nat × Md):=[(1,.one .d),(2,.b [.d]),(10,.one .d),(11,.one .d),(12,.one .d)]
def Qfg:TCode :=
 (zsq [(.reg [zmv 4 (zkb true)]),.ret])
def Qma:TCode :=
 (zsq [(.reg [zop 2 (.box 66 0 1),zmv 4 (zkb false)]),(zsq [(.reg [zLd 7 2 1,zca 8 133 [7],zno 9 8]),(.cond 9 (zsq [(.reg [zmv 4 (zkb false)]),.ret]) .skip)]),(zsq [(.reg [zmv 10 1,zle 11 10,zmv 12 (zki 0)]),(.block 0 (.loop Qid QhI))]),Qfg])
def QkO:List (ARv × Md):=[(.t 4,.one .d)]
def Qir:Qc:=TQ 0 0 QkO K
def Qs7:Qc:=Qseq (tawp QcB 0 Qfg (Qir K)) (Qir K)
def QnD:Qc:=Qblk 0 (Qs7 K)
def Qcj (m:List TOp') (cuts:List Int) (x:Int):Prop:=Loop QcB 0 Qid QhI (QnD K) ⟨[(1,(zcs [TI] cuts)),(2,(.p 0 0 0)),(10,(zcs [TI] cuts)),(11,(zci (cuts.length:Int))),(12,(zci x))],[(0,(.box [(zcs ctOp m)]))],1⟩
theorem Qkj (m:List TOp') (cuts:List Int) (x:Int) (h :
 (zif (decide (x<(cuts.length:Int))) (((0:Int)≤x∧Int.toNat x<cuts.length)∧(((!((decide ((gtd (0:Int) cuts (Int.toNat x))<(1:Int)))||(decide ((gtd (0:Int) cuts (Int.toNat x))>(w64 ((m.length:Int)-(1:Int)))))))=true→((decide (x>(0:Int)))=true→((0:Int)≤w64 (x-(1:Int))∧Int.toNat (w64 (x-(1:Int)))<cuts.length)))∧(zif (((decide ((gtd (0:Int) cuts (Int.toNat x))<(1:Int)))||(decide ((gtd (0:Int) cuts (Int.toNat x))>(w64 ((m.length:Int)-(1:Int))))))||((decide (x>(0:Int)))&&(decide ((gtd (0:Int) cuts (Int.toNat (w64 (x-(1:Int)))))≥(gtd (0:Int) cuts (Int.toNat x)))))) (K (Yw false)) (Qcj K m cuts (w64 (x+(1:Int))))))) (K (Yw true)))):Qcj K m cuts x :=
 Loop.of (by kernel_rfl) h
theorem Qrq (m:List TOp') (cuts:List Int) (h :
 (zif (!(Qq m)) (K (Yw false)) (Qcj K m cuts 0))):Hold (tawp QcB (0+0) Qma (TQ 0 0 QkO K) (Qh [(.a [(.c (.sl ctOp) m)]),(.c (.sl [TI]) cuts)])) :=
 Hold.of (by kernel_rfl) h
theorem QpG (m:List TOp') (cuts:List Int):TCon Try.prog 47 [(.a [(.c (.sl ctOp) m)]),(.c (.sl [TI]) cuts)] (Yw (Qp m cuts)):=by
 refine Ql rfl fun hb=>tcg (Γ:=QcB) (n:=41) (sg:=Qcz.sg) Qm (TOkL.cons QiO TOkL.nil) (by kernel_rfl) (by kernel_rfl) (Qrq _ m cuts ?_)
 have hl_m_0:(m).length≤9223372036854775807:=hb.1.1.1
 have hl_cuts:cuts.length≤9223372036854775807:=hb.2.1.1
 refine ⟨fun h=>R_eq (by grind [Qp]),fun h=>?_⟩
 refine ZF cuts (fun r k=>QQ (m.length-1) (ZE cuts k) r=QQ (m.length-1) none cuts→Qcj (fun r'=>r'=Yw (Qp m cuts)) m cuts k) ?_ ?_ rfl
 ·intro he
  refine Qkj (fun r'=>r'=Yw (Qp m cuts)) m cuts _ ⟨fun h=>by simp at h,fun _=>?_⟩
  grind [QQ,Qp]
 ·intro k x r hk hlt hg ih he
  refine Qkj (fun r'=>r'=Yw (Qp m cuts)) m cuts _ ⟨fun _=>?_,fun h=>by simp at h;omega⟩
  rw [Int.toNat_natCast,hg,Qr (x:=(k:Int)+1) (by omega) (by omega),Qr (x:=(m.length:Int)-1) (by omega) (by omega)]
  have ep:ZE cuts (k+1)=some x:=by simp [ZE,hg]
  rw [ep] at ih
  rcases Nat.eq_zero_or_pos k with h0 | h0
  ·subst h0
   simp only [QQ,ZE,if_true,m_in] at he
   grind [Qp]
  ·have e2:=QbF h0 (by omega:k≤9223372036854775807)
   simp only [QQ,ZE,if_neg (Nat.ne_of_gt h0),m_in] at he
   grind [Qp]
theorem QhD:Qi Try.prog Qcz:=Qn fun x _=>QpG x.1 x.2.1
def YK (t:Int × Int):TRes:=zre (.tp [(zci t.1),(zci t.2)])
def QcY:TRow:=Qj 144 [(.a [(.sl ctOp)]),(.c (.sl [TI])),(.c TI)] fun x=>(none,YK (Qs x.1 x.2.1 x.2.2.1))
def Qc4:TTab:=⟨[QaN,Zx],false⟩
def Qlc:TCode :=
 (zsq [(zsq [(.reg [zmv 31 2,zmv 32 1,zle 33 32,zbi 34 .lss 31 33]),(.cond 34 (.reg [zmv 35 1,zmv 36 2,zia 37 35 36 [TI],zld 38 37 1,zmv 9 38]) .skip)]),(.reg [zmv 39 8,zmv 40 9,zmv 6 39,zmv 7 40]),.ret])
def Qs4:List (Nat × Md):=zdl [1,2,8,9]
def QoS:TCode:=.wk Qs4 Qlc
def Qps:TCode :=
 (zsq [(.reg [zop 3 (.box 66 0 1),zmv 6 (zki 0),zmv 7 (zki 0)]),(zsq [(.reg [zLd 10 3 1,zmv 11 1,zca 12 48 [10,11],zno 13 12,zmv 14 13,.grp 14 false [zmv 15 2,zmv 16 1,zle 17 16,zca 18 102 [15,(zki 0),17],zno 19 18] 20 19]),(.cond 20 (zsq [(.reg [zmv 6 (zki 0),zmv 7 (zki 0)]),.ret]) .skip)]),(.reg [zmv 8 (zki 0)]),(.reg [zfa 21 3 0,zld 22 21 1,zle 23 22,zmv 9 23]),(zsq [(.reg [zmv 24 2,zbi 25 .gtr 24 (zki 0)]),(.cond 25 (.reg [zmv 26 1,zmv 27 2,zbi 28 .sub 27 (zki 1),zia 29 26 28 [TI],zld 30 29 1,zmv 8 30]) .skip)]),QoS])
def Qi4:List (ARv × Md):=[(.t 6,.one .d),(.t 7,.one .d)]
def Qqw:Qc:=TQ 0 0 Qi4 K
@[irreducible] def Qc6 (m:List TOp') (cuts:List Int) (s:Int) (fro:Int):Prop:=tawp Qc4 0 Qlc (Qqw K) ⟨[(1,(zcs [TI] cuts)),(2,(zci s)),(8,(zci fro)),(9,(zci (m.length:Int)))],[],0⟩
theorem Qjk (m:List TOp') (cuts:List Int) (s:Int) (fro:Int) (h :
 (zif (decide (s<(cuts.length:Int))) (((0:Int)≤s∧Int.toNat s<cuts.length)∧K (YK (fro,(gtd (0:Int) cuts (Int.toNat s))))) (K (YK (fro,(m.length:Int)))))):Hold (Qc6 K m cuts s fro) :=
 Hold.of (by kernel_rfl) h
theorem QlQ (m:List TOp') (cuts:List Int) (s:Int) (h :
 (zif ((!(Qp m cuts))||(!(m_in s (0:Int) (cuts.length:Int)))) (K (YK ((0:Int),(0:Int)))) (zif (decide (s>(0:Int))) (((0:Int)≤w64 (s-(1:Int))∧Int.toNat (w64 (s-(1:Int)))<cuts.length)∧(Qc6 K m cuts s (gtd (0:Int) cuts (Int.toNat (w64 (s-(1:Int))))))) (Qc6 K m cuts s 0)))):Hold (tawp Qc4 (0+0) Qps (TQ 0 0 Qi4 K) (Qh [(.a [(.c (.sl ctOp) m)]),(.c (.sl [TI]) cuts),(.c TI s)])) :=
 Hold.of (by kernel_rfl) h
theorem Qpx (m:List TOp') (cuts:List Int) (s:Int):TCon Try.prog 144 [(.a [(.c (.sl ctOp) m)]),(.c (.sl [TI]) cuts),(.c TI s)] (YK (Qs m cuts s)):=by
 refine Ql rfl fun hb=>tcg (Γ:=Qc4) (n:=41) (sg:=QcY.sg) Qm (TOkL.cons QgA (TOkL.cons Yp TOkL.nil)) (by kernel_rfl) (by kernel_rfl) (QlQ _ m cuts s ?_)
 have hl_m_0:(m).length≤9223372036854775807:=hb.1.1.1
 have hl_cuts:cuts.length≤9223372036854775807:=hb.2.1.1
 refine ⟨fun h=>R_eq (by grind [Qs,m_in]),fun h=>?_⟩
 have hc:Qp m cuts=true∧0≤s∧s≤cuts.length:=by grind [m_in]
 have hl:=J5 hc.1
 have e1:(Qp m cuts&&m_in s 0 cuts.length)=true:=by grind [m_in]
 refine ⟨fun h1=>?_,fun h1=>?_⟩
 ·have h1:0<s:=by simpa using h1
  rw [Qr (x:=s-1) (by omega) (by omega),show Int.toNat (s-1)=s.toNat-1 by omega]
  refine ⟨⟨by omega,by omega⟩,(Qjk (fun r'=>r'=YK (Qs m cuts s)) m cuts s _ ⟨fun h2=>?_,fun h2=>?_⟩).h⟩
  ·have h2:s<cuts.length:=by simpa using h2
   exact ⟨⟨by omega,by omega⟩,R_eq (by simp [Qs,e1,h1,h2])⟩
  ·exact R_eq (by simp at h2;simp [Qs,e1,h1,Int.not_lt.2 h2])
 ·have h1:¬ 0<s:=by simpa using h1
  refine (Qjk (fun r'=>r'=YK (Qs m cuts s)) m cuts s _ ⟨fun h2=>?_,fun h2=>?_⟩).h
  ·have h2:s<cuts.length:=by simpa using h2
   exact ⟨⟨by omega,by omega⟩,R_eq (by simp [Qs,e1,h1,h2])⟩
  ·exact R_eq (by simp at h2;simp [Qs,e1,h1,Int.not_lt.2 h2])
theorem QnN:Qi Try.prog QcY:=Qn fun x _=>Qpx x.1 x.2.1 x.2.2.1
def Y3 (t:Int × Int):TRes:=zre (.tp [(zci t.1),(zci t.2)])
def QeT:TRow:=Qj 49 [(.a [(.sl ctOp)]),(.c (.sl [TI])),(.c TI)] fun x=>(none,Y3 (Qs x.1 x.2.1 x.2.2.1))
def QeO:TTab:=⟨[Qcz],false⟩
def QfK:TCode :=
 (zsq [(zsq [(.reg [zmv 34 2,zmv 35 1,zle 36 35,zbi 37 .lss 34 36]),(.cond 37 (.reg [zmv 38 1,zmv 39 2,zia 40 38 39 [TI],zld 41 40 1,zmv 9 41]) .skip)]),(.reg [zmv 42 8,zmv 43 9,zmv 6 42,zmv 7 43]),.ret])
def Qoq:List (Nat × Md):=zdl [1,2,8,9]
def Qs3:TCode:=.wk Qoq QfK
def QpW:TCode :=
 (zsq [(.reg [zop 3 (.box 66 0 1),zmv 6 (zki 0),zmv 7 (zki 0)]),(zsq [(.reg [zLd 10 3 1,zmv 11 1,zca 12 47 [10,11],zno 13 12,zmv 14 13,.grp 14 false [zmv 15 2,zbi 16 .lss 15 (zki 0)] 17 16,zmv 18 17,.grp 18 false [zmv 19 2,zmv 20 1,zle 21 20,zbi 22 .gtr 19 21] 23 22]),(.cond 23 (zsq [(.reg [zmv 6 (zki 0),zmv 7 (zki 0)]),.ret]) .skip)]),(.draw [zfa 24 3 0,zld 25 24 1,zle 26 25,zmv 8 (zki 0),zmv 9 26] []),(zsq [(.reg [zmv 27 2,zbi 28 .gtr 27 (zki 0)]),(.cond 28 (.reg [zmv 29 1,zmv 30 2,zbi 31 .sub 30 (zki 1),zia 32 29 31 [TI],zld 33 32 1,zmv 8 33]) .skip)]),Qs3])
def Qlx:List (ARv × Md):=[(.t 6,.one .d),(.t 7,.one .d)]
def QrB:Qc:=TQ 0 0 Qlx K
@[irreducible] def Qei (m:List TOp') (cuts:List Int) (s:Int) (fro:Int):Prop:=tawp QeO 0 QfK (QrB K) ⟨[(1,(zcs [TI] cuts)),(2,(zci s)),(8,(zci fro)),(9,(zci (m.length:Int)))],[],0⟩
theorem QiC (m:List TOp') (cuts:List Int) (s:Int) (fro:Int) (h :
 (zif (decide (s<(cuts.length:Int))) (((0:Int)≤s∧Int.toNat s<cuts.length)∧K (Y3 (fro,(gtd (0:Int) cuts (Int.toNat s))))) (K (Y3 (fro,(m.length:Int)))))):Hold (Qei K m cuts s fro) :=
 Hold.of (by kernel_rfl) h
theorem Ql4 (m:List TOp') (cuts:List Int) (s:Int) (h :
 (zif (((!(Qp m cuts))||(decide (s<(0:Int))))||(decide (s>(cuts.length:Int)))) (K (Y3 ((0:Int),(0:Int)))) (zif (decide (s>(0:Int))) (((0:Int)≤w64 (s-(1:Int))∧Int.toNat (w64 (s-(1:Int)))<cuts.length)∧(Qei K m cuts s (gtd (0:Int) cuts (Int.toNat (w64 (s-(1:Int))))))) (Qei K m cuts s 0)))):Hold (tawp QeO (0+0) QpW (TQ 0 0 Qlx K) (Qh [(.a [(.c (.sl ctOp) m)]),(.c (.sl [TI]) cuts),(.c TI s)])) :=
 Hold.of (by kernel_rfl) h
theorem QlM (m:List TOp') (cuts:List Int) (s:Int):TCon Try.prog 49 [(.a [(.c (.sl ctOp) m)]),(.c (.sl [TI]) cuts),(.c TI s)] (Y3 (Qs m cuts s)):=by
 refine Ql rfl fun hb=>tcg (Γ:=QeO) (n:=44) (sg:=QeT.sg) Qm (TOkL.cons QhD TOkL.nil) (by kernel_rfl) (by kernel_rfl) (Ql4 _ m cuts s ?_)
 have hl_m_0:(m).length≤9223372036854775807:=hb.1.1.1
 have hl_cuts:cuts.length≤9223372036854775807:=hb.2.1.1
 refine ⟨fun h=>R_eq (by grind [Qs,m_in]),fun h=>?_⟩
 have hc:Qp m cuts=true∧0≤s∧s≤cuts.length:=by grind [m_in]
 have hl:=J5 hc.1
 have e1:(Qp m cuts&&m_in s 0 cuts.length)=true:=by grind [m_in]
 refine ⟨fun h1=>?_,fun h1=>?_⟩
 ·have h1:0<s:=by simpa using h1
  rw [Qr (x:=s-1) (by omega) (by omega),show Int.toNat (s-1)=s.toNat-1 by omega]
  refine ⟨⟨by omega,by omega⟩,(QiC (fun r'=>r'=Y3 (Qs m cuts s)) m cuts s _ ⟨fun h2=>?_,fun h2=>?_⟩).h⟩
  ·have h2:s<cuts.length:=by simpa using h2
   exact ⟨⟨by omega,by omega⟩,R_eq (by simp [Qs,e1,h1,h2])⟩
  ·exact R_eq (by simp at h2;simp [Qs,e1,h1,Int.not_lt.2 h2])
 ·have h1:¬ 0<s:=by simpa using h1
  refine (QiC (fun r'=>r'=Y3 (Qs m cuts s)) m cuts s _ ⟨fun h2=>?_,fun h2=>?_⟩).h
  ·have h2:s<cuts.length:=by simpa using h2
   exact ⟨⟨by omega,by omega⟩,R_eq (by simp [Qs,e1,h1,h2])⟩
  ·exact R_eq (by simp at h2;simp [Qs,e1,h1,Int.not_lt.2 h2])
theorem QrR:Qi Try.prog QeT:=Qn fun x _=>QlM x.1 x.2.1 x.2.2.1
def Jn (t:Int):TRes:=zre (zci t)
def QeC:TRow:=Qj 138 [(.a [(.sl ctOp)]),(.c (.sl [TI])),(.c TI)] fun x=>(none,Jn (QI x.1 x.2.1 x.2.2.1))
def Qb4:TTab:=⟨[QcY,Qeh],false⟩
def Qfm:TCode :=
 (zsq [(zsq [(.reg [zmv 19 10,zmv 20 8,zbi 21 .lss 19 20]),(.cond 21 .skip (.exit 0))]),(.block 1 (.reg [zmv 24 9,zfa 25 3 0,zld 26 25 1,zmv 27 10,zia 28 26 27 ctOp,zLd 29 28 4,zca 30 192 [29],zbi 31 .add 24 30,zmv 9 31])),(.reg [zmv 22 10,zbi 23 .add 22 (zki 1),zmv 10 23])])
def Qgn:List (Nat × Md):=[(3,.b [.d]),(8,.one .d),(9,.one .d),(10,.one .d)]
def Qge:TCode :=
 (zsq [(.reg [zmv 32 9,zmv 6 32]),.ret])
def Qop:TCode :=
 (zsq [(.reg [zop 3 (.box 66 0 1),zmv 6 (zki 0)]),(.reg [zLd 12 3 1,zmv 13 1,zmv 14 2,zca 15 144 [12,13,14],zmv 11 15,zex 16 11 0,zex 17 11 1,zmv 7 16,zmv 8 17]),(.reg [zmv 9 (zki 0)]),(zsq [(.reg [zmv 18 7,zmv 10 18]),(.block 0 (.loop Qgn Qfm))]),Qge])
def QfG:List (ARv × Md):=[(.t 6,.one .d)]
def Qhz:Qc:=TQ 0 0 QfG K
def QmC:Qc:=Qseq (tawp Qb4 0 Qge (Qhz K)) (Qhz K)
def QoW:Qc:=Qblk 0 (QmC K)
def QbO (m:List TOp') (cuts:List Int) (s:Int) (n:Int) (i:Int):Prop:=Loop Qb4 0 Qgn Qfm (QoW K) ⟨[(3,(.p 0 0 0)),(8,(zci ((Qs m cuts s).2))),(9,(zci n)),(10,(zci i))],[(0,(.box [(zcs ctOp m)]))],1⟩
theorem Qi7 (m:List TOp') (cuts:List Int) (s:Int) (n:Int) (i:Int) (h :
 (zif (decide (i<((Qs m cuts s).2))) (((0:Int)≤i∧Int.toNat i<m.length)∧(QbO K m cuts s (w64 (n+(QT (gtd dOp m (Int.toNat i))))) (w64 (i+(1:Int))))) (K (Jn n)))):QbO K m cuts s n i :=
 Loop.of (by kernel_rfl) h
theorem QsZ (m:List TOp') (cuts:List Int) (s:Int) (h :
 (QbO K m cuts s 0 ((Qs m cuts s).1))):Hold (tawp Qb4 (0+0) Qop (TQ 0 0 QfG K) (Qh [(.a [(.c (.sl ctOp) m)]),(.c (.sl [TI]) cuts),(.c TI s)])) :=
 Hold.of (by kernel_rfl) h
theorem Qot (m:List TOp') (cuts:List Int) (s:Int):TCon Try.prog 138 [(.a [(.c (.sl ctOp) m)]),(.c (.sl [TI]) cuts),(.c TI s)] (Jn (QI m cuts s)):=by
 refine Ql rfl fun hb=>tcg (Γ:=Qb4) (n:=33) (sg:=QeC.sg) Qm (TOkL.cons QnN (TOkL.cons Qq8 TOkL.nil)) (by kernel_rfl) (by kernel_rfl) (QsZ _ m cuts s ?_)
 have hl_m_0:(m).length≤9223372036854775807:=hb.1.1.1
 have hl_cuts:cuts.length≤9223372036854775807:=hb.2.1.1
 have hr:=QiM m cuts s
 have:=Qkd m _ _ hr.1 hr.2.1 hr.2.2.1 (fun r k=>∀ y:Int,w64 (y+(r.map QT).sum)=(QI m cuts s)→QbO (fun r'=>r'=Jn (QI m cuts s)) m cuts s (w64 y) k) ?_ ?_ 0 (by simp [QI])
 ·rw [show (((Qs m cuts s).1.toNat:Nat):Int)=(Qs m cuts s).1 by omega] at this
  exact this
 ·intro y he
  refine Qi7 (fun r'=>r'=Jn (QI m cuts s)) m cuts s _ _ ⟨fun h=>by simp at h;omega,fun _=>R_eq ?_⟩
  simpa using he
 ·intro k x r h1 h2 hlt hg ih y he
  refine Qi7 (fun r'=>r'=Jn (QI m cuts s)) m cuts s _ _ ⟨fun _=>?_,fun h=>by simp at h;omega⟩
  rw [Int.toNat_natCast,hg,Qr (x:=(k:Int)+1) (by omega) (by omega),Qjp]
  refine ⟨⟨by omega,hlt⟩,ih _ ?_⟩
  rw [← he,List.map_cons,List.sum_cons,Int.add_assoc]
theorem Qtd:Qi Try.prog QeC:=Qn fun x _=>Qot x.1 x.2.1 x.2.2.1
def JB (t:Int):TRes:=zre (zci t)
def Qep:TRow:=Qj 51 [(.a [(.sl ctOp)]),(.c (.sl [TI])),(.c TI)] fun x=>(none,JB (QI x.1 x.2.1 x.2.2.1))
def QaU:TTab:=⟨[QeT,QcO],false⟩
def QgX:TCode :=
 (zsq [(zsq [(.reg [zmv 19 10,zmv 20 8,zbi 21 .lss 19 20]),(.cond 21 .skip (.exit 0))]),(.block 1 (.reg [zmv 24 9,zfa 25 3 0,zld 26 25 1,zmv 27 10,zia 28 26 27 ctOp,zLd 29 28 4,zca 30 52 [29],zbi 31 .add 24 30,zmv 9 31])),(.reg [zmv 22 10,zbi 23 .add 22 (zki 1),zmv 10 23])])
def Qhe:List (Nat × Md):=[(3,.b [.d]),(8,.one .d),(9,.one .d),(10,.one .d)]
def Qjx:TCode :=
 (zsq [(.reg [zmv 32 9,zmv 6 32]),.ret])
def Qrk:TCode :=
 (zsq [(.reg [zop 3 (.box 66 0 1),zmv 6 (zki 0)]),(.reg [zLd 12 3 1,zmv 13 1,zmv 14 2,zca 15 49 [12,13,14],zmv 11 15,zex 16 11 0,zex 17 11 1,zmv 7 16,zmv 8 17]),(.reg [zmv 9 (zki 0)]),(zsq [(.reg [zmv 18 7,zmv 10 18]),(.block 0 (.loop Qhe QgX))]),Qjx])
def Qit:List (ARv × Md):=[(.t 6,.one .d)]
def QkJ:Qc:=TQ 0 0 Qit K
def Qnf:Qc:=Qseq (tawp QaU 0 Qjx (QkJ K)) (QkJ K)
def QnX:Qc:=Qblk 0 (Qnf K)
def Qb7 (m:List TOp') (cuts:List Int) (s:Int) (sum:Int) (i:Int):Prop:=Loop QaU 0 Qhe QgX (QnX K) ⟨[(3,(.p 0 0 0)),(8,(zci ((Qs m cuts s).2))),(9,(zci sum)),(10,(zci i))],[(0,(.box [(zcs ctOp m)]))],1⟩
theorem QhO (m:List TOp') (cuts:List Int) (s:Int) (sum:Int) (i:Int) (h :
 (zif (decide (i<((Qs m cuts s).2))) (((0:Int)≤i∧Int.toNat i<m.length)∧(Qb7 K m cuts s (w64 (sum+(QT (gtd dOp m (Int.toNat i))))) (w64 (i+(1:Int))))) (K (JB sum)))):Qb7 K m cuts s sum i :=
 Loop.of (by kernel_rfl) h
theorem QrX (m:List TOp') (cuts:List Int) (s:Int) (h :
 (Qb7 K m cuts s 0 ((Qs m cuts s).1))):Hold (tawp QaU (0+0) Qrk (TQ 0 0 Qit K) (Qh [(.a [(.c (.sl ctOp) m)]),(.c (.sl [TI]) cuts),(.c TI s)])) :=
 Hold.of (by kernel_rfl) h
theorem Qrj (m:List TOp') (cuts:List Int) (s:Int):TCon Try.prog 51 [(.a [(.c (.sl ctOp) m)]),(.c (.sl [TI]) cuts),(.c TI s)] (JB (QI m cuts s)):=by
 refine Ql rfl fun hb=>tcg (Γ:=QaU) (n:=33) (sg:=Qep.sg) Qm (TOkL.cons QrR (TOkL.cons Qs2 TOkL.nil)) (by kernel_rfl) (by kernel_rfl) (QrX _ m cuts s ?_)
 have hl_m_0:(m).length≤9223372036854775807:=hb.1.1.1
 have hl_cuts:cuts.length≤9223372036854775807:=hb.2.1.1
 have hr:=QiM m cuts s
 have:=Qkd m _ _ hr.1 hr.2.1 hr.2.2.1 (fun r k=>∀ y:Int,w64 (y+(r.map QT).sum)=(QI m cuts s)→Qb7 (fun r'=>r'=JB (QI m cuts s)) m cuts s (w64 y) k) ?_ ?_ 0 (by simp [QI])
 ·rw [show (((Qs m cuts s).1.toNat:Nat):Int)=(Qs m cuts s).1 by omega] at this
  exact this
 ·intro y he
  refine QhO (fun r'=>r'=JB (QI m cuts s)) m cuts s _ _ ⟨fun h=>by simp at h;omega,fun _=>R_eq ?_⟩
  simpa using he
 ·intro k x r h1 h2 hlt hg ih y he
  refine QhO (fun r'=>r'=JB (QI m cuts s)) m cuts s _ _ ⟨fun _=>?_,fun h=>by simp at h;omega⟩
  rw [Int.toNat_natCast,hg,Qr (x:=(k:Int)+1) (by omega) (by omega),Qjp]
  refine ⟨⟨by omega,hlt⟩,ih _ ?_⟩
  rw [← he,List.map_cons,List.sum_cons,Int.add_assoc]
theorem Qmz:Qi Try.prog Qep:=Qn fun x _=>Qrj x.1 x.2.1 x.2.2.1
def YJ (t:Int):TRes:=zre (zci t)
def Qdz:TRow:=Qj 62 [(.a [(.sl ctOp)]),(.c (.sl [TI]))] fun x=>(none,YJ (Qx x.1 x.2.1))
def QaV:TTab:=⟨[QaN,QeC],false⟩
def QiI:TCode :=
 (zsq [(zsq [(.reg [zmv 7 6,zmv 8 1,zle 9 8,zbi 10 .leq 7 9,zmv 11 10,.grp 11 true [zLd 12 2 1,zmv 13 1,zca 14 48 [12,13]] 15 14]),(.cond 15 .skip (.exit 0))]),(.block 1 (.reg [zmv 18 5,zLd 19 2 1,zmv 20 1,zmv 21 6,zca 22 138 [19,20,21],zop 23 (.mm true 18 22),zmv 5 23])),(.reg [zmv 16 6,zbi 17 .add 16 (zki 1),zmv 6 17])])
def Qip:List (Nat × Md):=[(1,.one .d),(2,.b [.d]),(5,.one .d),(6,.one .d)]
def QjY:TCode :=
 (zsq [(.reg [zmv 24 5,zmv 4 24]),.ret])
def QsP:TCode :=
 (zsq [(.reg [zop 2 (.box 66 0 1),zmv 4 (zki 0)]),(.reg [zmv 5 (zki 0)]),(zsq [(.reg [zmv 6 (zki 0)]),(.block 0 (.loop Qip QiI))]),QjY])
def QjL:List (ARv × Md):=[(.t 4,.one .d)]
def Qjh:Qc:=TQ 0 0 QjL K
def QmF:Qc:=Qseq (tawp QaV 0 QjY (Qjh K)) (Qjh K)
def Qow:Qc:=Qblk 0 (QmF K)
def Qcu (m:List TOp') (cuts:List Int) (best:Int) (s:Int):Prop:=Loop QaV 0 Qip QiI (Qow K) ⟨[(1,(zcs [TI] cuts)),(2,(.p 0 0 0)),(5,(zci best)),(6,(zci s))],[(0,(.box [(zcs ctOp m)]))],1⟩
theorem Qc7 (m:List TOp') (cuts:List Int) (best:Int) (s:Int) (h :
 (zif ((decide (s≤(cuts.length:Int)))&&(Qp m cuts)) (Qcu K m cuts (if best<(QI m cuts s) then (QI m cuts s) else best) (w64 (s+(1:Int)))) (K (YJ best)))):Qcu K m cuts best s :=
 Loop.of (by kernel_rfl) h
theorem Qqv (m:List TOp') (cuts:List Int) (h :
 (Qcu K m cuts 0 0)):Hold (tawp QaV (0+0) QsP (TQ 0 0 QjL K) (Qh [(.a [(.c (.sl ctOp) m)]),(.c (.sl [TI]) cuts)])) :=
 Hold.of (by kernel_rfl) h
theorem QrA (m:List TOp') (cuts:List Int):TCon Try.prog 62 [(.a [(.c (.sl ctOp) m)]),(.c (.sl [TI]) cuts)] (YJ (Qx m cuts)):=by
 refine Ql rfl fun hb=>tcg (Γ:=QaV) (n:=25) (sg:=Qdz.sg) Qm (TOkL.cons QgA (TOkL.cons Qtd TOkL.nil)) (by kernel_rfl) (by kernel_rfl) (Qqv _ m cuts ?_)
 have hl_m_0:(m).length≤9223372036854775807:=hb.1.1.1
 have hl_cuts:cuts.length≤9223372036854775807:=hb.2.1.1
 cases hc:Qp m cuts with
 | false =>
  refine Qc7 (fun r'=>r'=YJ (Qx m cuts)) m cuts _ _ ⟨fun h=>by simp [hc] at h,fun _=>R_eq ?_⟩
  simp [Qx,hc]
 | true =>
  have hl:=J5 hc
  refine Qau (cuts.length+1) (fun k=>Qcu (fun r'=>r'=YJ (Qx m cuts)) m cuts (Qca (fun s=>QI m cuts s) k 0) k) ?_ ?_
  ·refine Qc7 (fun r'=>r'=YJ (Qx m cuts)) m cuts _ _ ⟨fun h=>by simp at h;omega,fun _=>R_eq ?_⟩
   simp [Qx,hc]
  ·intro k hk ih
   refine Qc7 (fun r'=>r'=YJ (Qx m cuts)) m cuts _ _ ⟨fun _=>?_,fun h=>by simp [hc] at h;omega⟩
   rw [Qr (x:=(k:Int)+1) (by omega) (by omega)]
   exact ih
theorem Qqb:Qi Try.prog Qdz:=Qn fun x _=>QrA x.1 x.2.1
def Y2 (t:Int):TRes:=zre (zci t)
def QdN:TRow:=Qj 50 [(.a [(.sl ctOp)]),(.c (.sl [TI]))] fun x=>(none,Y2 (Qx x.1 x.2.1))
def QbH:TTab:=⟨[Qcz,Qep],false⟩
def QjK:TCode :=
 (zsq [(zsq [(.reg [zmv 12 6,zmv 13 1,zle 14 13,zbi 15 .leq 12 14]),(.cond 15 .skip (.exit 0))]),(.block 1 (.reg [zmv 18 5,zLd 19 2 1,zmv 20 1,zmv 21 6,zca 22 51 [19,20,21],zop 23 (.mm true 18 22),zmv 5 23])),(.reg [zmv 16 6,zbi 17 .add 16 (zki 1),zmv 6 17])])
def Qk3:List (Nat × Md):=[(1,.one .d),(2,.b [.d]),(5,.one .d),(6,.one .d)]
def QjA:TCode :=
 (zsq [(.reg [zmv 24 5,zmv 4 24]),.ret])
def Qnn:TCode :=
 (zsq [(.reg [zop 2 (.box 66 0 1),zmv 4 (zki 0)]),(.reg [zmv 5 (zki 0)]),(zsq [(.reg [zLd 7 2 1,zmv 8 1,zca 9 47 [7,8],zno 10 9]),(.cond 10 (zsq [(.reg [zmv 11 5,zmv 4 11]),.ret]) .skip)]),(zsq [(.reg [zmv 6 (zki 0)]),(.block 0 (.loop Qk3 QjK))]),QjA])
def QhL:List (ARv × Md):=[(.t 4,.one .d)]
def Qfz:Qc:=TQ 0 0 QhL K
def Qrd:Qc:=Qseq (tawp QbH 0 QjA (Qfz K)) (Qfz K)
def Qo8:Qc:=Qblk 0 (Qrd K)
def QbR (m:List TOp') (cuts:List Int) (most:Int) (s:Int):Prop:=Loop QbH 0 Qk3 QjK (Qo8 K) ⟨[(1,(zcs [TI] cuts)),(2,(.p 0 0 0)),(5,(zci most)),(6,(zci s))],[(0,(.box [(zcs ctOp m)]))],1⟩
theorem QkD (m:List TOp') (cuts:List Int) (most:Int) (s:Int) (h :
 (zif (decide (s≤(cuts.length:Int))) (QbR K m cuts (if most<(QI m cuts s) then (QI m cuts s) else most) (w64 (s+(1:Int)))) (K (Y2 most)))):QbR K m cuts most s :=
 Loop.of (by kernel_rfl) h
theorem Qsv (m:List TOp') (cuts:List Int) (h :
 (zif (!(Qp m cuts)) (K (Y2 (0:Int))) (QbR K m cuts 0 0))):Hold (tawp QbH (0+0) Qnn (TQ 0 0 QhL K) (Qh [(.a [(.c (.sl ctOp) m)]),(.c (.sl [TI]) cuts)])) :=
 Hold.of (by kernel_rfl) h
theorem Qpu (m:List TOp') (cuts:List Int):TCon Try.prog 50 [(.a [(.c (.sl ctOp) m)]),(.c (.sl [TI]) cuts)] (Y2 (Qx m cuts)):=by
 refine Ql rfl fun hb=>tcg (Γ:=QbH) (n:=25) (sg:=QdN.sg) Qm (TOkL.cons QhD (TOkL.cons Qmz TOkL.nil)) (by kernel_rfl) (by kernel_rfl) (Qsv _ m cuts ?_)
 have hl_m_0:(m).length≤9223372036854775807:=hb.1.1.1
 have hl_cuts:cuts.length≤9223372036854775807:=hb.2.1.1
 refine ⟨fun h=>R_eq (by simp at h;simp [Qx,h]),fun h=>?_⟩
 have hc:Qp m cuts=true:=by simpa using h
 have hl:=J5 hc
 refine Qau (cuts.length+1) (fun k=>QbR (fun r'=>r'=Y2 (Qx m cuts)) m cuts (Qca (fun s=>QI m cuts s) k 0) k) ?_ ?_
 ·refine QkD (fun r'=>r'=Y2 (Qx m cuts)) m cuts _ _ ⟨fun h=>by simp at h;omega,fun _=>R_eq ?_⟩
  simp [Qx,hc]
 ·intro k hk ih
  refine QkD (fun r'=>r'=Y2 (Qx m cuts)) m cuts _ _ ⟨fun _=>?_,fun h=>by simp at h;omega⟩
  rw [Qr (x:=(k:Int)+1) (by omega) (by omega)]
  exact ih
theorem Qqp:Qi Try.prog QdN:=Qn fun x _=>Qpu x.1 x.2.1
end
end Go.Proofs.Ytephkbajoofeoaa.Am

