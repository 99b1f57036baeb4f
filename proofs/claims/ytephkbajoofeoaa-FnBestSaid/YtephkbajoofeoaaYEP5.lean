/- -/
import Derived.Test.YtephkbajoofeoaaYEP1
import Derived.Test.YtephkbajoofeoaaYEP4
namespace Go.Proofs.Ytephkbajoofeoaa.Am
open Go Go.RowKit Go.Proofs.Ytephkbajoofeoaa
set_option linter.all false
noncomputable section
variable (K:TRes→Prop)
def YE (t:Bool):TRes:=zre (zcb t)
def Jw:TRow:=Qp 48 [(.a [(.sl ctOp)]),(.c (.sl [TI]))] fun x=>(none,YE (Qm x.1 x.2.1))
def Qca:List TRow:=[Z9,QaM]
def Qer:TCode :=
 (zsq [(zsq [(.reg [zmv 6 5,zmv 7 1,zle 8 7,zbi 9 .lss 6 8]),(.cond 9 .skip (.exit 0))]),(.block 1 (zsq [(.draw [zmv 12 1,zmv 13 5,zia 14 12 13 [TI],zld 15 14 1,zfa 16 2 0,zld 17 16 1,zle 18 17,zbi 19 .sub 18 (zki 1),zca 20 102 [15,(zki 1),19],zno 21 20,zmv 22 21,.grp 22 false [zmv 23 5,zbi 24 .gtr 23 (zki 0),zmv 25 24,.grp 25 true [zmv 26 1,zmv 27 5,zia 28 26 27 [TI],zld 29 28 1,zmv 30 1,zmv 31 5,zbi 32 .sub 31 (zki 1),zia 33 30 32 [TI],zld 34 33 1,zbi 35 .leq 29 34] 36 35] 37 36] []),(.cond 37 (zsq [(.reg [zmv 4 (zkb false)]),.ret]) .skip)])),(.reg [zmv 10 5,zbi 11 .add 10 (zki 1),zmv 5 11])])
def QeI:List (Nat × Md):=[(1,.one .d),(2,.b [.d]),(5,.one .d)]
def Qiq:TCode :=
 (zsq [(.reg [zLd 38 2 1,zca 39 60 [38],zmv 4 39]),.ret])
def QlE:TCode :=
 (zsq [(.reg [zop 2 (.box 66 0 1),zmv 4 (zkb false)]),(zsq [(.reg [zmv 5 (zki 0)]),(.block 0 (.loop QeI Qer))]),Qiq])
def Qe3:List (ARv × Md):=[(.t 4,.one .d)]
def Qh2:Qd:=TQ 0 0 Qe3 K
def QmQ:Qd:=Qseq (tawp Qca 0 Qiq (Qh2 K)) (Qh2 K)
def QkO:Qd:=Qblk 0 (QmQ K)
def QbE (m:List TOp') (cuts:List Int) (i:Int):Prop:=Loop Qca 0 QeI Qer (QkO K) ⟨[(1,(zcs [TI] cuts)),(2,(.p 0 0 0)),(5,(zci i))],[(0,(.box [(zcs ctOp m)]))],1⟩
theorem QfD (m:List TOp') (cuts:List Int) (i:Int) (h :
 (zif (decide (i<(cuts.length:Int))) ((((0:Int)≤i∧Int.toNat i<cuts.length)∧((!(!(m_in (gtd (0:Int) cuts (Int.toNat i)) (1:Int) (w64 ((m.length:Int)-(1:Int))))))=true→((decide (i>(0:Int)))=true→(((0:Int)≤i∧Int.toNat i<cuts.length)∧((0:Int)≤w64 (i-(1:Int))∧Int.toNat (w64 (i-(1:Int)))<cuts.length)))))∧(zif ((!(m_in (gtd (0:Int) cuts (Int.toNat i)) (1:Int) (w64 ((m.length:Int)-(1:Int)))))||((decide (i>(0:Int)))&&(decide ((gtd (0:Int) cuts (Int.toNat i))≤(gtd (0:Int) cuts (Int.toNat (w64 (i-(1:Int))))))))) (K (YE false)) (QbE K m cuts (w64 (i+(1:Int)))))) (K (YE (Qn m))))):QbE K m cuts i :=
 Loop.of (by kernel_rfl) h
theorem Qld (m:List TOp') (cuts:List Int) (h :
 (QbE K m cuts 0)):Hold (tawp Qca (0+0) QlE (TQ 0 0 Qe3 K) (Qj [(.a [(.c (.sl ctOp) m)]),(.c (.sl [TI]) cuts)])) :=
 Hold.of (by kernel_rfl) h
theorem QjI (m:List TOp') (cuts:List Int):TCon Try.prog 48 [(.a [(.c (.sl ctOp) m)]),(.c (.sl [TI]) cuts)] (YE (Qm m cuts)):=by
 refine QG rfl fun hb=>tcg (n:=40) (sg:=Jw.sg) Qq (TOk.cons YY (TOk.cons Qhw TOk.nil)) (by kernel_rfl) (by kernel_rfl) (Qld _ m cuts ?_)
 have hl_m_0:(m).length≤9223372036854775807:=hb.1.1.1
 have hl_cuts:cuts.length≤9223372036854775807:=hb.2.1.1
 refine Yb cuts (fun r k=>QU (m.length-1) (ZF cuts k) r=QU (m.length-1) none cuts→QbE (fun r'=>r'=YE (Qm m cuts)) m cuts k) ?_ ?_ rfl
 ·intro he
  refine QfD (fun r'=>r'=YE (Qm m cuts)) m cuts _ ⟨fun h=>by simp at h,fun _=>?_⟩
  grind [QU,Qm]
 ·intro k x r hk hlt hg ih he
  refine QfD (fun r'=>r'=YE (Qm m cuts)) m cuts _ ⟨fun _=>?_,fun h=>by simp at h;omega⟩
  rw [Int.toNat_natCast,hg,Qi (x:=(k:Int)+1) (by omega) (by omega),Qi (x:=(m.length:Int)-1) (by omega) (by omega)]
  have ep:ZF cuts (k+1)=some x:=by simp [ZF,hg]
  rw [ep] at ih
  rcases Nat.eq_zero_or_pos k with h0 | h0
  ·subst h0
   simp only [QU,ZF,if_true] at he
   grind [Qm]
  ·have e2:=Qaf h0 (by omega:k≤9223372036854775807)
   simp only [QU,ZF,if_neg (Nat.ne_of_gt h0)] at he
   grind [Qm]
theorem Qda:Qo Try.prog Jw:=Qs fun x _=>QjI x.1 x.2.1
def Yp (t:Bool):TRes:=zre (zcb t)
def Qbt:TRow:=Qp 47 [(.a [(.sl ctOp)]),(.c (.sl [TI]))] fun x=>(none,Yp (Qm x.1 x.2.1))
def Qdu:List TRow:=[Qax]
def Qhq:TCode :=
 (zsq [(.reg [zbi 13 .lss 12 11]),(.cond 13 .skip (.exit 0)),(.block 1 (zsq [(.reg [zmv 14 12,zia 15 10 12 [TI],zld 16 15 1,zmv 5 14,zmv 6 16]),(.reg [zmv 17 6,zbi 18 .lss 17 (zki 1),zmv 19 18,.grp 19 false [zmv 20 6,zfa 21 2 0,zld 22 21 1,zle 23 22,zbi 24 .sub 23 (zki 1),zbi 25 .gtr 20 24] 26 25,zmv 27 26,.grp 27 false [zmv 28 5,zbi 29 .gtr 28 (zki 0),zmv 30 29,.grp 30 true [zmv 31 1,zmv 32 5,zbi 33 .sub 32 (zki 1),zia 34 31 33 [TI],zld 35 34 1,zmv 36 6,zbi 37 .geq 35 36] 38 37] 39 38]),(.cond 39 (zsq [(.reg [zmv 4 (zkb false)]),.ret]) .skip)])),(.reg [zbi 40 .add 12 (zki 1),zmv 12 40])])
def QiL:List (Nat × Md):=[(1,.one .d),(2,.b [.d]),(10,.one .d),(11,.one .d),(12,.one .d)]
def Qen:TCode :=
 (zsq [(.reg [zmv 4 (zkb true)]),.ret])
def QjD:TCode :=
 (zsq [(.reg [zop 2 (.box 66 0 1),zmv 4 (zkb false)]),(zsq [(.reg [zLd 7 2 1,zca 8 133 [7],zno 9 8]),(.cond 9 (zsq [(.reg [zmv 4 (zkb false)]),.ret]) .skip)]),(zsq [(.reg [zmv 10 1,zle 11 10,zmv 12 (zki 0)]),(.block 0 (.loop QiL Qhq))]),Qen])
def QeD:List (ARv × Md):=[(.t 4,.one .d)]
def Qe1:Qd:=TQ 0 0 QeD K
def QkE:Qd:=Qseq (tawp Qdu 0 Qen (Qe1 K)) (Qe1 K)
def Qpj:Qd:=Qblk 0 (QkE K)
def Qbr (m:List TOp') (cuts:List Int) (x:Int):Prop:=Loop Qdu 0 QiL Qhq (Qpj K) ⟨[(1,(zcs [TI] cuts)),(2,(.p 0 0 0)),(10,(zcs [TI] cuts)),(11,(zci (cuts.length:Int))),(12,(zci x))],[(0,(.box [(zcs ctOp m)]))],1⟩
theorem Qh3 (m:List TOp') (cuts:List Int) (x:Int) (h :
 (zif (decide (x<(cuts.length:Int))) (((0:Int)≤x∧Int.toNat x<cuts.length)∧(((!((decide ((gtd (0:Int) cuts (Int.toNat x))<(1:Int)))||(decide ((gtd (0:Int) cuts (Int.toNat x))>(w64 ((m.length:Int)-(1:Int)))))))=true→((decide (x>(0:Int)))=true→((0:Int)≤w64 (x-(1:Int))∧Int.toNat (w64 (x-(1:Int)))<cuts.length)))∧(zif (((decide ((gtd (0:Int) cuts (Int.toNat x))<(1:Int)))||(decide ((gtd (0:Int) cuts (Int.toNat x))>(w64 ((m.length:Int)-(1:Int))))))||((decide (x>(0:Int)))&&(decide ((gtd (0:Int) cuts (Int.toNat (w64 (x-(1:Int)))))≥(gtd (0:Int) cuts (Int.toNat x)))))) (K (Yp false)) (Qbr K m cuts (w64 (x+(1:Int))))))) (K (Yp true)))):Qbr K m cuts x :=
 Loop.of (by kernel_rfl) h
theorem Qoh (m:List TOp') (cuts:List Int) (h :
 (zif (!(Qn m)) (K (Yp false)) (Qbr K m cuts 0))):Hold (tawp Qdu (0+0) QjD (TQ 0 0 QeD K) (Qj [(.a [(.c (.sl ctOp) m)]),(.c (.sl [TI]) cuts)])) :=
 Hold.of (by kernel_rfl) h
theorem Qom (m:List TOp') (cuts:List Int):TCon Try.prog 47 [(.a [(.c (.sl ctOp) m)]),(.c (.sl [TI]) cuts)] (Yp (Qm m cuts)):=by
 refine QG rfl fun hb=>tcg (n:=41) (sg:=Qbt.sg) Qq (TOk.cons Qf7 TOk.nil) (by kernel_rfl) (by kernel_rfl) (Qoh _ m cuts ?_)
 have hl_m_0:(m).length≤9223372036854775807:=hb.1.1.1
 have hl_cuts:cuts.length≤9223372036854775807:=hb.2.1.1
 refine ⟨fun h=>R_eq (by grind [Qm]),fun h=>?_⟩
 refine Yb cuts (fun r k=>QU (m.length-1) (ZF cuts k) r=QU (m.length-1) none cuts→Qbr (fun r'=>r'=Yp (Qm m cuts)) m cuts k) ?_ ?_ rfl
 ·intro he
  refine Qh3 (fun r'=>r'=Yp (Qm m cuts)) m cuts _ ⟨fun h=>by simp at h,fun _=>?_⟩
  grind [QU,Qm]
 ·intro k x r hk hlt hg ih he
  refine Qh3 (fun r'=>r'=Yp (Qm m cuts)) m cuts _ ⟨fun _=>?_,fun h=>by simp at h;omega⟩
  rw [Int.toNat_natCast,hg,Qi (x:=(k:Int)+1) (by omega) (by omega),Qi (x:=(m.length:Int)-1) (by omega) (by omega)]
  have ep:ZF cuts (k+1)=some x:=by simp [ZF,hg]
  rw [ep] at ih
  rcases Nat.eq_zero_or_pos k with h0 | h0
  ·subst h0
   simp only [QU,ZF,if_true,m_in] at he
   grind [Qm]
  ·have e2:=Qaf h0 (by omega:k≤9223372036854775807)
   simp only [QU,ZF,if_neg (Nat.ne_of_gt h0),m_in] at he
   grind [Qm]
theorem QfR:Qo Try.prog Qbt:=Qs fun x _=>Qom x.1 x.2.1
def Ys (t:Int × Int):TRes:=zre (.tp [(zci t.1),(zci t.2)])
def Qc0:TRow:=Qp 144 [(.a [(.sl ctOp)]),(.c (.sl [TI])),(.c TI)] fun x=>(none,Ys (Qr x.1 x.2.1 x.2.2.1))
def Qf6:List TRow:=[Jw,Z9]
def QiP:TCode :=
 (zsq [(zsq [(.reg [zmv 31 2,zmv 32 1,zle 33 32,zbi 34 .lss 31 33]),(.cond 34 (.reg [zmv 35 1,zmv 36 2,zia 37 35 36 [TI],zld 38 37 1,zmv 9 38]) .skip)]),(.reg [zmv 39 8,zmv 40 9,zmv 6 39,zmv 7 40]),.ret])
def QjV:List (Nat × Md):=zdl [1,2,8,9]
def Qlc:TCode:=.wk QjV QiP
def QoD:TCode :=
 (zsq [(.reg [zop 3 (.box 66 0 1),zmv 6 (zki 0),zmv 7 (zki 0)]),(zsq [(.reg [zLd 10 3 1,zmv 11 1,zca 12 48 [10,11],zno 13 12,zmv 14 13,.grp 14 false [zmv 15 2,zmv 16 1,zle 17 16,zca 18 102 [15,(zki 0),17],zno 19 18] 20 19]),(.cond 20 (zsq [(.reg [zmv 6 (zki 0),zmv 7 (zki 0)]),.ret]) .skip)]),(.reg [zmv 8 (zki 0)]),(.reg [zfa 21 3 0,zld 22 21 1,zle 23 22,zmv 9 23]),(zsq [(.reg [zmv 24 2,zbi 25 .gtr 24 (zki 0)]),(.cond 25 (.reg [zmv 26 1,zmv 27 2,zbi 28 .sub 27 (zki 1),zia 29 26 28 [TI],zld 30 29 1,zmv 8 30]) .skip)]),Qlc])
def QhD:List (ARv × Md):=[(.t 6,.one .d),(.t 7,.one .d)]
def Qj2:Qd:=TQ 0 0 QhD K
@[irreducible] def QdU (m:List TOp') (cuts:List Int) (s:Int) (fro:Int):Prop:=tawp Qf6 0 QiP (Qj2 K) ⟨[(1,(zcs [TI] cuts)),(2,(zci s)),(8,(zci fro)),(9,(zci (m.length:Int)))],[],0⟩
theorem Qfx (m:List TOp') (cuts:List Int) (s:Int) (fro:Int) (h :
 (zif (decide (s<(cuts.length:Int))) (((0:Int)≤s∧Int.toNat s<cuts.length)∧K (Ys (fro,(gtd (0:Int) cuts (Int.toNat s))))) (K (Ys (fro,(m.length:Int)))))):Hold (QdU K m cuts s fro) :=
 Hold.of (by kernel_rfl) h
theorem Qk1 (m:List TOp') (cuts:List Int) (s:Int) (h :
 (zif ((!(Qm m cuts))||(!(m_in s (0:Int) (cuts.length:Int)))) (K (Ys ((0:Int),(0:Int)))) (zif (decide (s>(0:Int))) (((0:Int)≤w64 (s-(1:Int))∧Int.toNat (w64 (s-(1:Int)))<cuts.length)∧(QdU K m cuts s (gtd (0:Int) cuts (Int.toNat (w64 (s-(1:Int))))))) (QdU K m cuts s 0)))):Hold (tawp Qf6 (0+0) QoD (TQ 0 0 QhD K) (Qj [(.a [(.c (.sl ctOp) m)]),(.c (.sl [TI]) cuts),(.c TI s)])) :=
 Hold.of (by kernel_rfl) h
theorem Qkd (m:List TOp') (cuts:List Int) (s:Int):TCon Try.prog 144 [(.a [(.c (.sl ctOp) m)]),(.c (.sl [TI]) cuts),(.c TI s)] (Ys (Qr m cuts s)):=by
 refine QG rfl fun hb=>tcg (n:=41) (sg:=Qc0.sg) Qq (TOk.cons Qda (TOk.cons YY TOk.nil)) (by kernel_rfl) (by kernel_rfl) (Qk1 _ m cuts s ?_)
 have hl_m_0:(m).length≤9223372036854775807:=hb.1.1.1
 have hl_cuts:cuts.length≤9223372036854775807:=hb.2.1.1
 refine ⟨fun h=>R_eq (by grind [Qr,m_in]),fun h=>?_⟩
 have hc:Qm m cuts=true∧0≤s∧s≤cuts.length:=by grind [m_in]
 have hl:=JN hc.1
 have e1:(Qm m cuts&&m_in s 0 cuts.length)=true:=by grind [m_in]
 refine ⟨fun h1=>?_,fun h1=>?_⟩
 ·have h1:0<s:=by simpa using h1
  rw [Qi (x:=s-1) (by omega) (by omega),show Int.toNat (s-1)=s.toNat-1 by omega]
  refine ⟨⟨by omega,by omega⟩,(Qfx (fun r'=>r'=Ys (Qr m cuts s)) m cuts s _ ⟨fun h2=>?_,fun h2=>?_⟩).h⟩
  ·have h2:s<cuts.length:=by simpa using h2
   exact ⟨⟨by omega,by omega⟩,R_eq (by simp [Qr,e1,h1,h2])⟩
  ·exact R_eq (by simp at h2;simp [Qr,e1,h1,Int.not_lt.2 h2])
 ·have h1:¬ 0<s:=by simpa using h1
  refine (Qfx (fun r'=>r'=Ys (Qr m cuts s)) m cuts s _ ⟨fun h2=>?_,fun h2=>?_⟩).h
  ·have h2:s<cuts.length:=by simpa using h2
   exact ⟨⟨by omega,by omega⟩,R_eq (by simp [Qr,e1,h1,h2])⟩
  ·exact R_eq (by simp at h2;simp [Qr,e1,h1,Int.not_lt.2 h2])
theorem QmE:Qo Try.prog Qc0:=Qs fun x _=>Qkd x.1 x.2.1 x.2.2.1
def YH (t:Int × Int):TRes:=zre (.tp [(zci t.1),(zci t.2)])
def Qd2:TRow:=Qp 49 [(.a [(.sl ctOp)]),(.c (.sl [TI])),(.c TI)] fun x=>(none,YH (Qr x.1 x.2.1 x.2.2.1))
def QgG:List TRow:=[Qbt]
def Qh7:TCode :=
 (zsq [(zsq [(.reg [zmv 34 2,zmv 35 1,zle 36 35,zbi 37 .lss 34 36]),(.cond 37 (.reg [zmv 38 1,zmv 39 2,zia 40 38 39 [TI],zld 41 40 1,zmv 9 41]) .skip)]),(.reg [zmv 42 8,zmv 43 9,zmv 6 42,zmv 7 43]),.ret])
def Qnj:List (Nat × Md):=zdl [1,2,8,9]
def QpQ:TCode:=.wk Qnj Qh7
def QnI:TCode :=
 (zsq [(.reg [zop 3 (.box 66 0 1),zmv 6 (zki 0),zmv 7 (zki 0)]),(zsq [(.reg [zLd 10 3 1,zmv 11 1,zca 12 47 [10,11],zno 13 12,zmv 14 13,.grp 14 false [zmv 15 2,zbi 16 .lss 15 (zki 0)] 17 16,zmv 18 17,.grp 18 false [zmv 19 2,zmv 20 1,zle 21 20,zbi 22 .gtr 19 21] 23 22]),(.cond 23 (zsq [(.reg [zmv 6 (zki 0),zmv 7 (zki 0)]),.ret]) .skip)]),(.draw [zfa 24 3 0,zld 25 24 1,zle 26 25,zmv 8 (zki 0),zmv 9 26] []),(zsq [(.reg [zmv 27 2,zbi 28 .gtr 27 (zki 0)]),(.cond 28 (.reg [zmv 29 1,zmv 30 2,zbi 31 .sub 30 (zki 1),zia 32 29 31 [TI],zld 33 32 1,zmv 8 33]) .skip)]),QpQ])
def Qi9:List (ARv × Md):=[(.t 6,.one .d),(.t 7,.one .d)]
def QkX:Qd:=TQ 0 0 Qi9 K
@[irreducible] def QcA (m:List TOp') (cuts:List Int) (s:Int) (fro:Int):Prop:=tawp QgG 0 Qh7 (QkX K) ⟨[(1,(zcs [TI] cuts)),(2,(zci s)),(8,(zci fro)),(9,(zci (m.length:Int)))],[],0⟩
theorem Qie (m:List TOp') (cuts:List Int) (s:Int) (fro:Int) (h :
 (zif (decide (s<(cuts.length:Int))) (((0:Int)≤s∧Int.toNat s<cuts.length)∧K (YH (fro,(gtd (0:Int) cuts (Int.toNat s))))) (K (YH (fro,(m.length:Int)))))):Hold (QcA K m cuts s fro) :=
 Hold.of (by kernel_rfl) h
theorem Qkq (m:List TOp') (cuts:List Int) (s:Int) (h :
 (zif (((!(Qm m cuts))||(decide (s<(0:Int))))||(decide (s>(cuts.length:Int)))) (K (YH ((0:Int),(0:Int)))) (zif (decide (s>(0:Int))) (((0:Int)≤w64 (s-(1:Int))∧Int.toNat (w64 (s-(1:Int)))<cuts.length)∧(QcA K m cuts s (gtd (0:Int) cuts (Int.toNat (w64 (s-(1:Int))))))) (QcA K m cuts s 0)))):Hold (tawp QgG (0+0) QnI (TQ 0 0 Qi9 K) (Qj [(.a [(.c (.sl ctOp) m)]),(.c (.sl [TI]) cuts),(.c TI s)])) :=
 Hold.of (by kernel_rfl) h
theorem QmB (m:List TOp') (cuts:List Int) (s:Int):TCon Try.prog 49 [(.a [(.c (.sl ctOp) m)]),(.c (.sl [TI]) cuts),(.c TI s)] (YH (Qr m cuts s)):=by
 refine QG rfl fun hb=>tcg (n:=44) (sg:=Qd2.sg) Qq (TOk.cons QfR TOk.nil) (by kernel_rfl) (by kernel_rfl) (Qkq _ m cuts s ?_)
 have hl_m_0:(m).length≤9223372036854775807:=hb.1.1.1
 have hl_cuts:cuts.length≤9223372036854775807:=hb.2.1.1
 refine ⟨fun h=>R_eq (by grind [Qr,m_in]),fun h=>?_⟩
 have hc:Qm m cuts=true∧0≤s∧s≤cuts.length:=by grind [m_in]
 have hl:=JN hc.1
 have e1:(Qm m cuts&&m_in s 0 cuts.length)=true:=by grind [m_in]
 refine ⟨fun h1=>?_,fun h1=>?_⟩
 ·have h1:0<s:=by simpa using h1
  rw [Qi (x:=s-1) (by omega) (by omega),show Int.toNat (s-1)=s.toNat-1 by omega]
  refine ⟨⟨by omega,by omega⟩,(Qie (fun r'=>r'=YH (Qr m cuts s)) m cuts s _ ⟨fun h2=>?_,fun h2=>?_⟩).h⟩
  ·have h2:s<cuts.length:=by simpa using h2
   exact ⟨⟨by omega,by omega⟩,R_eq (by simp [Qr,e1,h1,h2])⟩
  ·exact R_eq (by simp at h2;simp [Qr,e1,h1,Int.not_lt.2 h2])
 ·have h1:¬ 0<s:=by simpa using h1
  refine (Qie (fun r'=>r'=YH (Qr m cuts s)) m cuts s _ ⟨fun h2=>?_,fun h2=>?_⟩).h
  ·have h2:s<cuts.length:=by simpa using h2
   exact ⟨⟨by omega,by omega⟩,R_eq (by simp [Qr,e1,h1,h2])⟩
  ·exact R_eq (by simp at h2;simp [Qr,e1,h1,Int.not_lt.2 h2])
theorem QoA:Qo Try.prog Qd2:=Qs fun x _=>QmB x.1 x.2.1 x.2.2.1
def Jj (t:Int):TRes:=zre (zci t)
def QcC:TRow:=Qp 138 [(.a [(.sl ctOp)]),(.c (.sl [TI])),(.c TI)] fun x=>(none,Jj (QO x.1 x.2.1 x.2.2.1))
def Qc4:List TRow:=[Qc0,Qdv]
def QfA:TCode :=
 (zsq [(zsq [(.reg [zmv 19 10,zmv 20 8,zbi 21 .lss 19 20]),(.cond 21 .skip (.exit 0))]),(.block 1 (.reg [zmv 24 9,zfa 25 3 0,zld 26 25 1,zmv 27 10,zia 28 26 27 ctOp,zLd 29 28 4,zca 30 192 [29],zbi 31 .add 24 30,zmv 9 31])),(.reg [zmv 22 10,zbi 23 .add 22 (zki 1),zmv 10 23])])
def Qia:List (Nat × Md):=[(3,.b [.d]),(8,.one .d),(9,.one .d),(10,.one .d)]
def Qhj:TCode :=
 (zsq [(.reg [zmv 32 9,zmv 6 32]),.ret])
def Qps:TCode :=
 (zsq [(.reg [zop 3 (.box 66 0 1),zmv 6 (zki 0)]),(.reg [zLd 12 3 1,zmv 13 1,zmv 14 2,zca 15 144 [12,13,14],zmv 11 15,zex 16 11 0,zex 17 11 1,zmv 7 16,zmv 8 17]),(.reg [zmv 9 (zki 0)]),(zsq [(.reg [zmv 18 7,zmv 10 18]),(.block 0 (.loop Qia QfA))]),Qhj])
def Qi4:List (ARv × Md):=[(.t 6,.one .d)]
def QeQ:Qd:=TQ 0 0 Qi4 K
def QkI:Qd:=Qseq (tawp Qc4 0 Qhj (QeQ K)) (QeQ K)
def QnS:Qd:=Qblk 0 (QkI K)
def Qa8 (m:List TOp') (cuts:List Int) (s:Int) (n:Int) (i:Int):Prop:=Loop Qc4 0 Qia QfA (QnS K) ⟨[(3,(.p 0 0 0)),(8,(zci ((Qr m cuts s).2))),(9,(zci n)),(10,(zci i))],[(0,(.box [(zcs ctOp m)]))],1⟩
theorem QiT (m:List TOp') (cuts:List Int) (s:Int) (n:Int) (i:Int) (h :
 (zif (decide (i<((Qr m cuts s).2))) (((0:Int)≤i∧Int.toNat i<m.length)∧(Qa8 K m cuts s (w64 (n+(QZ (gtd dOp m (Int.toNat i))))) (w64 (i+(1:Int))))) (K (Jj n)))):Qa8 K m cuts s n i :=
 Loop.of (by kernel_rfl) h
theorem QoC (m:List TOp') (cuts:List Int) (s:Int) (h :
 (Qa8 K m cuts s 0 ((Qr m cuts s).1))):Hold (tawp Qc4 (0+0) Qps (TQ 0 0 Qi4 K) (Qj [(.a [(.c (.sl ctOp) m)]),(.c (.sl [TI]) cuts),(.c TI s)])) :=
 Hold.of (by kernel_rfl) h
theorem Qny (m:List TOp') (cuts:List Int) (s:Int):TCon Try.prog 138 [(.a [(.c (.sl ctOp) m)]),(.c (.sl [TI]) cuts),(.c TI s)] (Jj (QO m cuts s)):=by
 refine QG rfl fun hb=>tcg (n:=33) (sg:=QcC.sg) Qq (TOk.cons QmE (TOk.cons QjM TOk.nil)) (by kernel_rfl) (by kernel_rfl) (QoC _ m cuts s ?_)
 have hl_m_0:(m).length≤9223372036854775807:=hb.1.1.1
 have hl_cuts:cuts.length≤9223372036854775807:=hb.2.1.1
 have hr:=Qir m cuts s
 have:=Qg2 m _ _ hr.1 hr.2.1 hr.2.2.1 (fun r k=>∀ y:Int,w64 (y+(r.map QZ).sum)=(QO m cuts s)→Qa8 (fun r'=>r'=Jj (QO m cuts s)) m cuts s (w64 y) k) ?_ ?_ 0 (by simp [QO])
 ·rw [show (((Qr m cuts s).1.toNat:Nat):Int)=(Qr m cuts s).1 by omega] at this
  exact this
 ·intro y he
  refine QiT (fun r'=>r'=Jj (QO m cuts s)) m cuts s _ _ ⟨fun h=>by simp at h;omega,fun _=>R_eq ?_⟩
  simpa using he
 ·intro k x r h1 h2 hlt hg ih y he
  refine QiT (fun r'=>r'=Jj (QO m cuts s)) m cuts s _ _ ⟨fun _=>?_,fun h=>by simp at h;omega⟩
  rw [Int.toNat_natCast,hg,Qi (x:=(k:Int)+1) (by omega) (by omega),Qi7]
  refine ⟨⟨by omega,hlt⟩,ih _ ?_⟩
  rw [← he,List.map_cons,List.sum_cons,Int.add_assoc]
theorem QpN:Qo Try.prog QcC:=Qs fun x _=>Qny x.1 x.2.1 x.2.2.1
def Y5 (t:Int):TRes:=zre (zci t)
def Qct:TRow:=Qp 51 [(.a [(.sl ctOp)]),(.c (.sl [TI])),(.c TI)] fun x=>(none,Y5 (QO x.1 x.2.1 x.2.2.1))
def QdX:List TRow:=[Qd2,QdE]
def Qg7:TCode :=
 (zsq [(zsq [(.reg [zmv 19 10,zmv 20 8,zbi 21 .lss 19 20]),(.cond 21 .skip (.exit 0))]),(.block 1 (.reg [zmv 24 9,zfa 25 3 0,zld 26 25 1,zmv 27 10,zia 28 26 27 ctOp,zLd 29 28 4,zca 30 52 [29],zbi 31 .add 24 30,zmv 9 31])),(.reg [zmv 22 10,zbi 23 .add 22 (zki 1),zmv 10 23])])
def Qfz:List (Nat × Md):=[(3,.b [.d]),(8,.one .d),(9,.one .d),(10,.one .d)]
def Qgw:TCode :=
 (zsq [(.reg [zmv 32 9,zmv 6 32]),.ret])
def QjF:TCode :=
 (zsq [(.reg [zop 3 (.box 66 0 1),zmv 6 (zki 0)]),(.reg [zLd 12 3 1,zmv 13 1,zmv 14 2,zca 15 49 [12,13,14],zmv 11 15,zex 16 11 0,zex 17 11 1,zmv 7 16,zmv 8 17]),(.reg [zmv 9 (zki 0)]),(zsq [(.reg [zmv 18 7,zmv 10 18]),(.block 0 (.loop Qfz Qg7))]),Qgw])
def Qf8:List (ARv × Md):=[(.t 6,.one .d)]
def QhH:Qd:=TQ 0 0 Qf8 K
def Qmq:Qd:=Qseq (tawp QdX 0 Qgw (QhH K)) (QhH K)
def Qo3:Qd:=Qblk 0 (Qmq K)
def Qaw (m:List TOp') (cuts:List Int) (s:Int) (sum:Int) (i:Int):Prop:=Loop QdX 0 Qfz Qg7 (Qo3 K) ⟨[(3,(.p 0 0 0)),(8,(zci ((Qr m cuts s).2))),(9,(zci sum)),(10,(zci i))],[(0,(.box [(zcs ctOp m)]))],1⟩
theorem QiW (m:List TOp') (cuts:List Int) (s:Int) (sum:Int) (i:Int) (h :
 (zif (decide (i<((Qr m cuts s).2))) (((0:Int)≤i∧Int.toNat i<m.length)∧(Qaw K m cuts s (w64 (sum+(QZ (gtd dOp m (Int.toNat i))))) (w64 (i+(1:Int))))) (K (Y5 sum)))):Qaw K m cuts s sum i :=
 Loop.of (by kernel_rfl) h
theorem Qk4 (m:List TOp') (cuts:List Int) (s:Int) (h :
 (Qaw K m cuts s 0 ((Qr m cuts s).1))):Hold (tawp QdX (0+0) QjF (TQ 0 0 Qf8 K) (Qj [(.a [(.c (.sl ctOp) m)]),(.c (.sl [TI]) cuts),(.c TI s)])) :=
 Hold.of (by kernel_rfl) h
theorem Qli (m:List TOp') (cuts:List Int) (s:Int):TCon Try.prog 51 [(.a [(.c (.sl ctOp) m)]),(.c (.sl [TI]) cuts),(.c TI s)] (Y5 (QO m cuts s)):=by
 refine QG rfl fun hb=>tcg (n:=33) (sg:=Qct.sg) Qq (TOk.cons QoA (TOk.cons QoE TOk.nil)) (by kernel_rfl) (by kernel_rfl) (Qk4 _ m cuts s ?_)
 have hl_m_0:(m).length≤9223372036854775807:=hb.1.1.1
 have hl_cuts:cuts.length≤9223372036854775807:=hb.2.1.1
 have hr:=Qir m cuts s
 have:=Qg2 m _ _ hr.1 hr.2.1 hr.2.2.1 (fun r k=>∀ y:Int,w64 (y+(r.map QZ).sum)=(QO m cuts s)→Qaw (fun r'=>r'=Y5 (QO m cuts s)) m cuts s (w64 y) k) ?_ ?_ 0 (by simp [QO])
 ·rw [show (((Qr m cuts s).1.toNat:Nat):Int)=(Qr m cuts s).1 by omega] at this
  exact this
 ·intro y he
  refine QiW (fun r'=>r'=Y5 (QO m cuts s)) m cuts s _ _ ⟨fun h=>by simp at h;omega,fun _=>R_eq ?_⟩
  simpa using he
 ·intro k x r h1 h2 hlt hg ih y he
  refine QiW (fun r'=>r'=Y5 (QO m cuts s)) m cuts s _ _ ⟨fun _=>?_,fun h=>by simp at h;omega⟩
  rw [Int.toNat_natCast,hg,Qi (x:=(k:Int)+1) (by omega) (by omega),Qi7]
  refine ⟨⟨by omega,hlt⟩,ih _ ?_⟩
  rw [← he,List.map_cons,List.sum_cons,Int.add_assoc]
theorem QpF:Qo Try.prog Qct:=Qs fun x _=>Qli x.1 x.2.1 x.2.2.1
def YP (t:Int):TRes:=zre (zci t)
def QbR:TRow:=Qp 62 [(.a [(.sl ctOp)]),(.c (.sl [TI]))] fun x=>(none,YP (Qu x.1 x.2.1))
def Qc2:List TRow:=[Jw,QcC]
def QiJ:TCode :=
 (zsq [(zsq [(.reg [zmv 7 6,zmv 8 1,zle 9 8,zbi 10 .leq 7 9,zmv 11 10,.grp 11 true [zLd 12 2 1,zmv 13 1,zca 14 48 [12,13]] 15 14]),(.cond 15 .skip (.exit 0))]),(.block 1 (.reg [zmv 18 5,zLd 19 2 1,zmv 20 1,zmv 21 6,zca 22 138 [19,20,21],zop 23 (.mm true 18 22),zmv 5 23])),(.reg [zmv 16 6,zbi 17 .add 16 (zki 1),zmv 6 17])])
def QiM:List (Nat × Md):=[(1,.one .d),(2,.b [.d]),(5,.one .d),(6,.one .d)]
def Qfi:TCode :=
 (zsq [(.reg [zmv 24 5,zmv 4 24]),.ret])
def QlL:TCode :=
 (zsq [(.reg [zop 2 (.box 66 0 1),zmv 4 (zki 0)]),(.reg [zmv 5 (zki 0)]),(zsq [(.reg [zmv 6 (zki 0)]),(.block 0 (.loop QiM QiJ))]),Qfi])
def Qep:List (ARv × Md):=[(.t 4,.one .d)]
def Qh5:Qd:=TQ 0 0 Qep K
def Ql8:Qd:=Qseq (tawp Qc2 0 Qfi (Qh5 K)) (Qh5 K)
def QjX:Qd:=Qblk 0 (Ql8 K)
def Qa6 (m:List TOp') (cuts:List Int) (best:Int) (s:Int):Prop:=Loop Qc2 0 QiM QiJ (QjX K) ⟨[(1,(zcs [TI] cuts)),(2,(.p 0 0 0)),(5,(zci best)),(6,(zci s))],[(0,(.box [(zcs ctOp m)]))],1⟩
theorem Qcq (m:List TOp') (cuts:List Int) (best:Int) (s:Int) (h :
 (zif ((decide (s≤(cuts.length:Int)))&&(Qm m cuts)) (Qa6 K m cuts (if best<(QO m cuts s) then (QO m cuts s) else best) (w64 (s+(1:Int)))) (K (YP best)))):Qa6 K m cuts best s :=
 Loop.of (by kernel_rfl) h
theorem QjO (m:List TOp') (cuts:List Int) (h :
 (Qa6 K m cuts 0 0)):Hold (tawp Qc2 (0+0) QlL (TQ 0 0 Qep K) (Qj [(.a [(.c (.sl ctOp) m)]),(.c (.sl [TI]) cuts)])) :=
 Hold.of (by kernel_rfl) h
theorem Qne (m:List TOp') (cuts:List Int):TCon Try.prog 62 [(.a [(.c (.sl ctOp) m)]),(.c (.sl [TI]) cuts)] (YP (Qu m cuts)):=by
 refine QG rfl fun hb=>tcg (n:=25) (sg:=QbR.sg) Qq (TOk.cons Qda (TOk.cons QpN TOk.nil)) (by kernel_rfl) (by kernel_rfl) (QjO _ m cuts ?_)
 have hl_m_0:(m).length≤9223372036854775807:=hb.1.1.1
 have hl_cuts:cuts.length≤9223372036854775807:=hb.2.1.1
 cases hc:Qm m cuts with
 | false =>
  refine Qcq (fun r'=>r'=YP (Qu m cuts)) m cuts _ _ ⟨fun h=>by simp [hc] at h,fun _=>R_eq ?_⟩
  simp [Qu,hc]
 | true =>
  have hl:=JN hc
  refine YU (cuts.length+1) (fun k=>Qa6 (fun r'=>r'=YP (Qu m cuts)) m cuts (QbJ (fun s=>QO m cuts s) k 0) k) ?_ ?_
  ·refine Qcq (fun r'=>r'=YP (Qu m cuts)) m cuts _ _ ⟨fun h=>by simp at h;omega,fun _=>R_eq ?_⟩
   simp [Qu,hc]
  ·intro k hk ih
   refine Qcq (fun r'=>r'=YP (Qu m cuts)) m cuts _ _ ⟨fun _=>?_,fun h=>by simp [hc] at h;omega⟩
   rw [Qi (x:=(k:Int)+1) (by omega) (by omega)]
   exact ih
theorem QkP:Qo Try.prog QbR:=Qs fun x _=>Qne x.1 x.2.1
def YX (t:Int):TRes:=zre (zci t)
def Qan:TRow:=Qp 50 [(.a [(.sl ctOp)]),(.c (.sl [TI]))] fun x=>(none,YX (Qu x.1 x.2.1))
def Qcr:List TRow:=[Qbt,Qct]
def QeA:TCode :=
 (zsq [(zsq [(.reg [zmv 12 6,zmv 13 1,zle 14 13,zbi 15 .leq 12 14]),(.cond 15 .skip (.exit 0))]),(.block 1 (.reg [zmv 18 5,zLd 19 2 1,zmv 20 1,zmv 21 6,zca 22 51 [19,20,21],zop 23 (.mm true 18 22),zmv 5 23])),(.reg [zmv 16 6,zbi 17 .add 16 (zki 1),zmv 6 17])])
def Qeq:List (Nat × Md):=[(1,.one .d),(2,.b [.d]),(5,.one .d),(6,.one .d)]
def Qht:TCode :=
 (zsq [(.reg [zmv 24 5,zmv 4 24]),.ret])
def QlB:TCode :=
 (zsq [(.reg [zop 2 (.box 66 0 1),zmv 4 (zki 0)]),(.reg [zmv 5 (zki 0)]),(zsq [(.reg [zLd 7 2 1,zmv 8 1,zca 9 47 [7,8],zno 10 9]),(.cond 10 (zsq [(.reg [zmv 11 5,zmv 4 11]),.ret]) .skip)]),(zsq [(.reg [zmv 6 (zki 0)]),(.block 0 (.loop Qeq QeA))]),Qht])
def Qha:List (ARv × Md):=[(.t 4,.one .d)]
def Qfv:Qd:=TQ 0 0 Qha K
def Qoz:Qd:=Qseq (tawp Qcr 0 Qht (Qfv K)) (Qfv K)
def Qk3:Qd:=Qblk 0 (Qoz K)
def Qam (m:List TOp') (cuts:List Int) (most:Int) (s:Int):Prop:=Loop Qcr 0 Qeq QeA (Qk3 K) ⟨[(1,(zcs [TI] cuts)),(2,(.p 0 0 0)),(5,(zci most)),(6,(zci s))],[(0,(.box [(zcs ctOp m)]))],1⟩
theorem QhO (m:List TOp') (cuts:List Int) (most:Int) (s:Int) (h :
 (zif (decide (s≤(cuts.length:Int))) (Qam K m cuts (if most<(QO m cuts s) then (QO m cuts s) else most) (w64 (s+(1:Int)))) (K (YX most)))):Qam K m cuts most s :=
 Loop.of (by kernel_rfl) h
theorem Qkb (m:List TOp') (cuts:List Int) (h :
 (zif (!(Qm m cuts)) (K (YX (0:Int))) (Qam K m cuts 0 0))):Hold (tawp Qcr (0+0) QlB (TQ 0 0 Qha K) (Qj [(.a [(.c (.sl ctOp) m)]),(.c (.sl [TI]) cuts)])) :=
 Hold.of (by kernel_rfl) h
theorem QkB (m:List TOp') (cuts:List Int):TCon Try.prog 50 [(.a [(.c (.sl ctOp) m)]),(.c (.sl [TI]) cuts)] (YX (Qu m cuts)):=by
 refine QG rfl fun hb=>tcg (n:=25) (sg:=Qan.sg) Qq (TOk.cons QfR (TOk.cons QpF TOk.nil)) (by kernel_rfl) (by kernel_rfl) (Qkb _ m cuts ?_)
 have hl_m_0:(m).length≤9223372036854775807:=hb.1.1.1
 have hl_cuts:cuts.length≤9223372036854775807:=hb.2.1.1
 refine ⟨fun h=>R_eq (by simp at h;simp [Qu,h]),fun h=>?_⟩
 have hc:Qm m cuts=true:=by simpa using h
 have hl:=JN hc
 refine YU (cuts.length+1) (fun k=>Qam (fun r'=>r'=YX (Qu m cuts)) m cuts (QbJ (fun s=>QO m cuts s) k 0) k) ?_ ?_
 ·refine QhO (fun r'=>r'=YX (Qu m cuts)) m cuts _ _ ⟨fun h=>by simp at h;omega,fun _=>R_eq ?_⟩
  simp [Qu,hc]
 ·intro k hk ih
  refine QhO (fun r'=>r'=YX (Qu m cuts)) m cuts _ _ ⟨fun _=>?_,fun h=>by simp at h;omega⟩
  rw [Qi (x:=(k:Int)+1) (by omega) (by omega)]
  exact ih
theorem QgZ:Qo Try.prog Qan:=Qs fun x _=>QkB x.1 x.2.1
end
end Go.Proofs.Ytephkbajoofeoaa.Am

