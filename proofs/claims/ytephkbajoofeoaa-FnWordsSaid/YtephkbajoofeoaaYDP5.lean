/- -/
import Derived.Test.YtephkbajoofeoaaYDP1
import Derived.Test.YtephkbajoofeoaaYDP4
namespace Go.Proofs.Ytephkbajoofeoaa.Am
open Go Go.RowKit Go.Proofs.Ytephkbajoofeoaa
set_option linter.all false
noncomputable section
variable (K:TRes→Prop)
def YN (t:Bool):TRes:=zre (zcb t)
def QcI:TRow:=Qp 48 [(.a [(.sl ctOp)]),(.c (.sl [TI]))] fun x=>(none,YN (Qw x.1 x.2.1))
def Qen:List TRow:=[Z7,JM]
def Qf4:TCode :=
 (zsq [(zsq [(.reg [zmv 6 5,zmv 7 1,zle 8 7,zbi 9 .lss 6 8]),(.cond 9 .skip (.exit 0))]),(.block 1 (zsq [(.draw [zmv 12 1,zmv 13 5,zia 14 12 13 [TI],zld 15 14 1,zfa 16 2 0,zld 17 16 1,zle 18 17,zbi 19 .sub 18 (zki 1),zca 20 102 [15,(zki 1),19],zno 21 20,zmv 22 21,.grp 22 false [zmv 23 5,zbi 24 .gtr 23 (zki 0),zmv 25 24,.grp 25 true [zmv 26 1,zmv 27 5,zia 28 26 27 [TI],zld 29 28 1,zmv 30 1,zmv 31 5,zbi 32 .sub 31 (zki 1),zia 33 30 32 [TI],zld 34 33 1,zbi 35 .leq 29 34] 36 35] 37 36] []),(.cond 37 (zsq [(.reg [zmv 4 (zkb false)]),.ret]) .skip)])),(.reg [zmv 10 5,zbi 11 .add 10 (zki 1),zmv 5 11])])
def Qjn:List (Nat × Md):=[(1,.one .d),(2,.b [.d]),(5,.one .d)]
def QgQ:TCode :=
 (zsq [(.reg [zLd 38 2 1,zca 39 60 [38],zmv 4 39]),.ret])
def Qpr:TCode :=
 (zsq [(.reg [zop 2 (.box 66 0 1),zmv 4 (zkb false)]),(zsq [(.reg [zmv 5 (zki 0)]),(.block 0 (.loop Qjn Qf4))]),QgQ])
def QeV:List (ARv × Md):=[(.t 4,.one .d)]
def QgP:Qg:=TQ 0 0 QeV K
def QlK:Qg:=Qseq (tawp Qen 0 QgQ (QgP K)) (QgP K)
def Qlo:Qg:=Qblk 0 (QlK K)
def Qbs (m:List TOp') (cuts:List Int) (i:Int):Prop:=Loop Qen 0 Qjn Qf4 (Qlo K) ⟨[(1,(zcs [TI] cuts)),(2,(.p 0 0 0)),(5,(zci i))],[(0,(.box [(zcs ctOp m)]))],1⟩
theorem QiS (m:List TOp') (cuts:List Int) (i:Int) (h :
 (zif (decide (i<(cuts.length:Int))) ((((0:Int)≤i∧Int.toNat i<cuts.length)∧((!(!(m_in (gtd (0:Int) cuts (Int.toNat i)) (1:Int) (w64 ((m.length:Int)-(1:Int))))))=true→((decide (i>(0:Int)))=true→(((0:Int)≤i∧Int.toNat i<cuts.length)∧((0:Int)≤w64 (i-(1:Int))∧Int.toNat (w64 (i-(1:Int)))<cuts.length)))))∧(zif ((!(m_in (gtd (0:Int) cuts (Int.toNat i)) (1:Int) (w64 ((m.length:Int)-(1:Int)))))||((decide (i>(0:Int)))&&(decide ((gtd (0:Int) cuts (Int.toNat i))≤(gtd (0:Int) cuts (Int.toNat (w64 (i-(1:Int))))))))) (K (YN false)) (Qbs K m cuts (w64 (i+(1:Int)))))) (K (YN (Qu m))))):Qbs K m cuts i :=
 Loop.of (by kernel_rfl) h
theorem Qqp (m:List TOp') (cuts:List Int) (h :
 (Qbs K m cuts 0)):Hold (tawp Qen (0+0) Qpr (TQ 0 0 QeV K) (Qm [(.a [(.c (.sl ctOp) m)]),(.c (.sl [TI]) cuts)])) :=
 Hold.of (by kernel_rfl) h
theorem Qlu (m:List TOp') (cuts:List Int):TCon Try.prog 48 [(.a [(.c (.sl ctOp) m)]),(.c (.sl [TI]) cuts)] (YN (Qw m cuts)):=by
 refine QP rfl fun hb=>tcg (n:=40) (sg:=QcI.sg) Qt (TOk.cons YY (TOk.cons Qc2 TOk.nil)) (by kernel_rfl) (by kernel_rfl) (Qqp _ m cuts ?_)
 have hl_m_0:(m).length≤9223372036854775807:=hb.1.1.1
 have hl_cuts:cuts.length≤9223372036854775807:=hb.2.1.1
 refine JH cuts (fun r k=>QW (m.length-1) (ZN cuts k) r=QW (m.length-1) none cuts→Qbs (fun r'=>r'=YN (Qw m cuts)) m cuts k) ?_ ?_ rfl
 ·intro he
  refine QiS (fun r'=>r'=YN (Qw m cuts)) m cuts _ ⟨fun h=>by simp at h,fun _=>?_⟩
  grind [QW,Qw]
 ·intro k x r hk hlt hg ih he
  refine QiS (fun r'=>r'=YN (Qw m cuts)) m cuts _ ⟨fun _=>?_,fun h=>by simp at h;omega⟩
  rw [Int.toNat_natCast,hg,Qi (x:=(k:Int)+1) (by omega) (by omega),Qi (x:=(m.length:Int)-1) (by omega) (by omega)]
  have ep:ZN cuts (k+1)=some x:=by simp [ZN,hg]
  rw [ep] at ih
  rcases Nat.eq_zero_or_pos k with h0 | h0
  ·subst h0
   simp only [QW,ZN,if_true] at he
   grind [Qw]
  ·have e2:=Qaq h0 (by omega:k≤9223372036854775807)
   simp only [QW,ZN,if_neg (Nat.ne_of_gt h0)] at he
   grind [Qw]
theorem Qp8:Qq Try.prog QcI:=Qv fun x _=>Qlu x.1 x.2.1
def Yy (t:Bool):TRes:=zre (zcb t)
def Qcd:TRow:=Qp 47 [(.a [(.sl ctOp)]),(.c (.sl [TI]))] fun x=>(none,Yy (Qw x.1 x.2.1))
def Qd2:List TRow:=[QdF]
def QeG:TCode :=
 (zsq [(.reg [zbi 13 .lss 12 11]),(.cond 13 .skip (.exit 0)),(.block 1 (zsq [(.reg [zmv 14 12,zia 15 10 12 [TI],zld 16 15 1,zmv 5 14,zmv 6 16]),(.reg [zmv 17 6,zbi 18 .lss 17 (zki 1),zmv 19 18,.grp 19 false [zmv 20 6,zfa 21 2 0,zld 22 21 1,zle 23 22,zbi 24 .sub 23 (zki 1),zbi 25 .gtr 20 24] 26 25,zmv 27 26,.grp 27 false [zmv 28 5,zbi 29 .gtr 28 (zki 0),zmv 30 29,.grp 30 true [zmv 31 1,zmv 32 5,zbi 33 .sub 32 (zki 1),zia 34 31 33 [TI],zld 35 34 1,zmv 36 6,zbi 37 .geq 35 36] 38 37] 39 38]),(.cond 39 (zsq [(.reg [zmv 4 (zkb false)]),.ret]) .skip)])),(.reg [zbi 40 .add 12 (zki 1),zmv 12 40])])
def QhK:List (Nat × Md):=[(1,.one .d),(2,.b [.d]),(10,.one .d),(11,.one .d),(12,.one .d)]
def QhY:TCode :=
 (zsq [(.reg [zmv 4 (zkb true)]),.ret])
def Ql2:TCode :=
 (zsq [(.reg [zop 2 (.box 66 0 1),zmv 4 (zkb false)]),(zsq [(.reg [zLd 7 2 1,zca 8 133 [7],zno 9 8]),(.cond 9 (zsq [(.reg [zmv 4 (zkb false)]),.ret]) .skip)]),(zsq [(.reg [zmv 10 1,zle 11 10,zmv 12 (zki 0)]),(.block 0 (.loop QhK QeG))]),QhY])
def QeM:List (ARv × Md):=[(.t 4,.one .d)]
def Qgf:Qg:=TQ 0 0 QeM K
def QoS:Qg:=Qseq (tawp Qd2 0 QhY (Qgf K)) (Qgf K)
def Qni:Qg:=Qblk 0 (QoS K)
def Qbu (m:List TOp') (cuts:List Int) (x:Int):Prop:=Loop Qd2 0 QhK QeG (Qni K) ⟨[(1,(zcs [TI] cuts)),(2,(.p 0 0 0)),(10,(zcs [TI] cuts)),(11,(zci (cuts.length:Int))),(12,(zci x))],[(0,(.box [(zcs ctOp m)]))],1⟩
theorem Qgz (m:List TOp') (cuts:List Int) (x:Int) (h :
 (zif (decide (x<(cuts.length:Int))) (((0:Int)≤x∧Int.toNat x<cuts.length)∧(((!((decide ((gtd (0:Int) cuts (Int.toNat x))<(1:Int)))||(decide ((gtd (0:Int) cuts (Int.toNat x))>(w64 ((m.length:Int)-(1:Int)))))))=true→((decide (x>(0:Int)))=true→((0:Int)≤w64 (x-(1:Int))∧Int.toNat (w64 (x-(1:Int)))<cuts.length)))∧(zif (((decide ((gtd (0:Int) cuts (Int.toNat x))<(1:Int)))||(decide ((gtd (0:Int) cuts (Int.toNat x))>(w64 ((m.length:Int)-(1:Int))))))||((decide (x>(0:Int)))&&(decide ((gtd (0:Int) cuts (Int.toNat (w64 (x-(1:Int)))))≥(gtd (0:Int) cuts (Int.toNat x)))))) (K (Yy false)) (Qbu K m cuts (w64 (x+(1:Int))))))) (K (Yy true)))):Qbu K m cuts x :=
 Loop.of (by kernel_rfl) h
theorem Qqe (m:List TOp') (cuts:List Int) (h :
 (zif (!(Qu m)) (K (Yy false)) (Qbu K m cuts 0))):Hold (tawp Qd2 (0+0) Ql2 (TQ 0 0 QeM K) (Qm [(.a [(.c (.sl ctOp) m)]),(.c (.sl [TI]) cuts)])) :=
 Hold.of (by kernel_rfl) h
theorem Qkh (m:List TOp') (cuts:List Int):TCon Try.prog 47 [(.a [(.c (.sl ctOp) m)]),(.c (.sl [TI]) cuts)] (Yy (Qw m cuts)):=by
 refine QP rfl fun hb=>tcg (n:=41) (sg:=Qcd.sg) Qt (TOk.cons QnB TOk.nil) (by kernel_rfl) (by kernel_rfl) (Qqe _ m cuts ?_)
 have hl_m_0:(m).length≤9223372036854775807:=hb.1.1.1
 have hl_cuts:cuts.length≤9223372036854775807:=hb.2.1.1
 refine ⟨fun h=>R_eq (by grind [Qw]),fun h=>?_⟩
 refine JH cuts (fun r k=>QW (m.length-1) (ZN cuts k) r=QW (m.length-1) none cuts→Qbu (fun r'=>r'=Yy (Qw m cuts)) m cuts k) ?_ ?_ rfl
 ·intro he
  refine Qgz (fun r'=>r'=Yy (Qw m cuts)) m cuts _ ⟨fun h=>by simp at h,fun _=>?_⟩
  grind [QW,Qw]
 ·intro k x r hk hlt hg ih he
  refine Qgz (fun r'=>r'=Yy (Qw m cuts)) m cuts _ ⟨fun _=>?_,fun h=>by simp at h;omega⟩
  rw [Int.toNat_natCast,hg,Qi (x:=(k:Int)+1) (by omega) (by omega),Qi (x:=(m.length:Int)-1) (by omega) (by omega)]
  have ep:ZN cuts (k+1)=some x:=by simp [ZN,hg]
  rw [ep] at ih
  rcases Nat.eq_zero_or_pos k with h0 | h0
  ·subst h0
   simp only [QW,ZN,if_true,m_in] at he
   grind [Qw]
  ·have e2:=Qaq h0 (by omega:k≤9223372036854775807)
   simp only [QW,ZN,if_neg (Nat.ne_of_gt h0),m_in] at he
   grind [Qw]
theorem QiK:Qq Try.prog Qcd:=Qv fun x _=>Qkh x.1 x.2.1
def YT (t:Int × Int):TRes:=zre (.tp [(zci t.1),(zci t.2)])
def J9:TRow:=Qp 144 [(.a [(.sl ctOp)]),(.c (.sl [TI])),(.c TI)] fun x=>(none,YT (Qd x.1 x.2.1 x.2.2.1))
def QgR:List TRow:=[QcI,Z7]
def Qgx:TCode :=
 (zsq [(zsq [(.reg [zmv 31 2,zmv 32 1,zle 33 32,zbi 34 .lss 31 33]),(.cond 34 (.reg [zmv 35 1,zmv 36 2,zia 37 35 36 [TI],zld 38 37 1,zmv 9 38]) .skip)]),(.reg [zmv 39 8,zmv 40 9,zmv 6 39,zmv 7 40]),.ret])
def QnI:List (Nat × Md):=zdl [1,2,8,9]
def Qmm:TCode:=.wk QnI Qgx
def Qqg:TCode :=
 (zsq [(.reg [zop 3 (.box 66 0 1),zmv 6 (zki 0),zmv 7 (zki 0)]),(zsq [(.reg [zLd 10 3 1,zmv 11 1,zca 12 48 [10,11],zno 13 12,zmv 14 13,.grp 14 false [zmv 15 2,zmv 16 1,zle 17 16,zca 18 102 [15,(zki 0),17],zno 19 18] 20 19]),(.cond 20 (zsq [(.reg [zmv 6 (zki 0),zmv 7 (zki 0)]),.ret]) .skip)]),(.reg [zmv 8 (zki 0)]),(.reg [zfa 21 3 0,zld 22 21 1,zle 23 22,zmv 9 23]),(zsq [(.reg [zmv 24 2,zbi 25 .gtr 24 (zki 0)]),(.cond 25 (.reg [zmv 26 1,zmv 27 2,zbi 28 .sub 27 (zki 1),zia 29 26 28 [TI],zld 30 29 1,zmv 8 30]) .skip)]),Qmm])
def QfV:List (ARv × Md):=[(.t 6,.one .d),(.t 7,.one .d)]
def Qm1:Qg:=TQ 0 0 QfV K
@[irreducible] def QcG (m:List TOp') (cuts:List Int) (s:Int) (fro:Int):Prop:=tawp QgR 0 Qgx (Qm1 K) ⟨[(1,(zcs [TI] cuts)),(2,(zci s)),(8,(zci fro)),(9,(zci (m.length:Int)))],[],0⟩
theorem QfR (m:List TOp') (cuts:List Int) (s:Int) (fro:Int) (h :
 (zif (decide (s<(cuts.length:Int))) (((0:Int)≤s∧Int.toNat s<cuts.length)∧K (YT (fro,(gtd (0:Int) cuts (Int.toNat s))))) (K (YT (fro,(m.length:Int)))))):Hold (QcG K m cuts s fro) :=
 Hold.of (by kernel_rfl) h
theorem Qj6 (m:List TOp') (cuts:List Int) (s:Int) (h :
 (zif ((!(Qw m cuts))||(!(m_in s (0:Int) (cuts.length:Int)))) (K (YT ((0:Int),(0:Int)))) (zif (decide (s>(0:Int))) (((0:Int)≤w64 (s-(1:Int))∧Int.toNat (w64 (s-(1:Int)))<cuts.length)∧(QcG K m cuts s (gtd (0:Int) cuts (Int.toNat (w64 (s-(1:Int))))))) (QcG K m cuts s 0)))):Hold (tawp QgR (0+0) Qqg (TQ 0 0 QfV K) (Qm [(.a [(.c (.sl ctOp) m)]),(.c (.sl [TI]) cuts),(.c TI s)])) :=
 Hold.of (by kernel_rfl) h
theorem Qnq (m:List TOp') (cuts:List Int) (s:Int):TCon Try.prog 144 [(.a [(.c (.sl ctOp) m)]),(.c (.sl [TI]) cuts),(.c TI s)] (YT (Qd m cuts s)):=by
 refine QP rfl fun hb=>tcg (n:=41) (sg:=J9.sg) Qt (TOk.cons Qp8 (TOk.cons YY TOk.nil)) (by kernel_rfl) (by kernel_rfl) (Qj6 _ m cuts s ?_)
 have hl_m_0:(m).length≤9223372036854775807:=hb.1.1.1
 have hl_cuts:cuts.length≤9223372036854775807:=hb.2.1.1
 refine ⟨fun h=>R_eq (by grind [Qd,m_in]),fun h=>?_⟩
 have hc:Qw m cuts=true∧0≤s∧s≤cuts.length:=by grind [m_in]
 have hl:=Qbt hc.1
 have e1:(Qw m cuts&&m_in s 0 cuts.length)=true:=by grind [m_in]
 refine ⟨fun h1=>?_,fun h1=>?_⟩
 ·have h1:0<s:=by simpa using h1
  rw [Qi (x:=s-1) (by omega) (by omega),show Int.toNat (s-1)=s.toNat-1 by omega]
  refine ⟨⟨by omega,by omega⟩,(QfR (fun r'=>r'=YT (Qd m cuts s)) m cuts s _ ⟨fun h2=>?_,fun h2=>?_⟩).h⟩
  ·have h2:s<cuts.length:=by simpa using h2
   exact ⟨⟨by omega,by omega⟩,R_eq (by simp [Qd,e1,h1,h2])⟩
  ·exact R_eq (by simp at h2;simp [Qd,e1,h1,Int.not_lt.2 h2])
 ·have h1:¬ 0<s:=by simpa using h1
  refine (QfR (fun r'=>r'=YT (Qd m cuts s)) m cuts s _ ⟨fun h2=>?_,fun h2=>?_⟩).h
  ·have h2:s<cuts.length:=by simpa using h2
   exact ⟨⟨by omega,by omega⟩,R_eq (by simp [Qd,e1,h1,h2])⟩
  ·exact R_eq (by simp at h2;simp [Qd,e1,h1,Int.not_lt.2 h2])
theorem Qcv:Qq Try.prog J9:=Qv fun x _=>Qnq x.1 x.2.1 x.2.2.1
def YM (t:Int × Int):TRes:=zre (.tp [(zci t.1),(zci t.2)])
def QbL:TRow:=Qp 49 [(.a [(.sl ctOp)]),(.c (.sl [TI])),(.c TI)] fun x=>(none,YM (Qd x.1 x.2.1 x.2.2.1))
def Qgd:List TRow:=[Qcd]
def Qie:TCode :=
 (zsq [(zsq [(.reg [zmv 34 2,zmv 35 1,zle 36 35,zbi 37 .lss 34 36]),(.cond 37 (.reg [zmv 38 1,zmv 39 2,zia 40 38 39 [TI],zld 41 40 1,zmv 9 41]) .skip)]),(.reg [zmv 42 8,zmv 43 9,zmv 6 42,zmv 7 43]),.ret])
def Qpa:List (Nat × Md):=zdl [1,2,8,9]
def Qp4:TCode:=.wk Qpa Qie
def QnX:TCode :=
 (zsq [(.reg [zop 3 (.box 66 0 1),zmv 6 (zki 0),zmv 7 (zki 0)]),(zsq [(.reg [zLd 10 3 1,zmv 11 1,zca 12 47 [10,11],zno 13 12,zmv 14 13,.grp 14 false [zmv 15 2,zbi 16 .lss 15 (zki 0)] 17 16,zmv 18 17,.grp 18 false [zmv 19 2,zmv 20 1,zle 21 20,zbi 22 .gtr 19 21] 23 22]),(.cond 23 (zsq [(.reg [zmv 6 (zki 0),zmv 7 (zki 0)]),.ret]) .skip)]),(.draw [zfa 24 3 0,zld 25 24 1,zle 26 25,zmv 8 (zki 0),zmv 9 26] []),(zsq [(.reg [zmv 27 2,zbi 28 .gtr 27 (zki 0)]),(.cond 28 (.reg [zmv 29 1,zmv 30 2,zbi 31 .sub 30 (zki 1),zia 32 29 31 [TI],zld 33 32 1,zmv 8 33]) .skip)]),Qp4])
def QfP:List (ARv × Md):=[(.t 6,.one .d),(.t 7,.one .d)]
def Qlq:Qg:=TQ 0 0 QfP K
@[irreducible] def Qcx (m:List TOp') (cuts:List Int) (s:Int) (fro:Int):Prop:=tawp Qgd 0 Qie (Qlq K) ⟨[(1,(zcs [TI] cuts)),(2,(zci s)),(8,(zci fro)),(9,(zci (m.length:Int)))],[],0⟩
theorem Qi0 (m:List TOp') (cuts:List Int) (s:Int) (fro:Int) (h :
 (zif (decide (s<(cuts.length:Int))) (((0:Int)≤s∧Int.toNat s<cuts.length)∧K (YM (fro,(gtd (0:Int) cuts (Int.toNat s))))) (K (YM (fro,(m.length:Int)))))):Hold (Qcx K m cuts s fro) :=
 Hold.of (by kernel_rfl) h
theorem Qma (m:List TOp') (cuts:List Int) (s:Int) (h :
 (zif (((!(Qw m cuts))||(decide (s<(0:Int))))||(decide (s>(cuts.length:Int)))) (K (YM ((0:Int),(0:Int)))) (zif (decide (s>(0:Int))) (((0:Int)≤w64 (s-(1:Int))∧Int.toNat (w64 (s-(1:Int)))<cuts.length)∧(Qcx K m cuts s (gtd (0:Int) cuts (Int.toNat (w64 (s-(1:Int))))))) (Qcx K m cuts s 0)))):Hold (tawp Qgd (0+0) QnX (TQ 0 0 QfP K) (Qm [(.a [(.c (.sl ctOp) m)]),(.c (.sl [TI]) cuts),(.c TI s)])) :=
 Hold.of (by kernel_rfl) h
theorem Qnw (m:List TOp') (cuts:List Int) (s:Int):TCon Try.prog 49 [(.a [(.c (.sl ctOp) m)]),(.c (.sl [TI]) cuts),(.c TI s)] (YM (Qd m cuts s)):=by
 refine QP rfl fun hb=>tcg (n:=44) (sg:=QbL.sg) Qt (TOk.cons QiK TOk.nil) (by kernel_rfl) (by kernel_rfl) (Qma _ m cuts s ?_)
 have hl_m_0:(m).length≤9223372036854775807:=hb.1.1.1
 have hl_cuts:cuts.length≤9223372036854775807:=hb.2.1.1
 refine ⟨fun h=>R_eq (by grind [Qd,m_in]),fun h=>?_⟩
 have hc:Qw m cuts=true∧0≤s∧s≤cuts.length:=by grind [m_in]
 have hl:=Qbt hc.1
 have e1:(Qw m cuts&&m_in s 0 cuts.length)=true:=by grind [m_in]
 refine ⟨fun h1=>?_,fun h1=>?_⟩
 ·have h1:0<s:=by simpa using h1
  rw [Qi (x:=s-1) (by omega) (by omega),show Int.toNat (s-1)=s.toNat-1 by omega]
  refine ⟨⟨by omega,by omega⟩,(Qi0 (fun r'=>r'=YM (Qd m cuts s)) m cuts s _ ⟨fun h2=>?_,fun h2=>?_⟩).h⟩
  ·have h2:s<cuts.length:=by simpa using h2
   exact ⟨⟨by omega,by omega⟩,R_eq (by simp [Qd,e1,h1,h2])⟩
  ·exact R_eq (by simp at h2;simp [Qd,e1,h1,Int.not_lt.2 h2])
 ·have h1:¬ 0<s:=by simpa using h1
  refine (Qi0 (fun r'=>r'=YM (Qd m cuts s)) m cuts s _ ⟨fun h2=>?_,fun h2=>?_⟩).h
  ·have h2:s<cuts.length:=by simpa using h2
   exact ⟨⟨by omega,by omega⟩,R_eq (by simp [Qd,e1,h1,h2])⟩
  ·exact R_eq (by simp at h2;simp [Qd,e1,h1,Int.not_lt.2 h2])
theorem Qh4:Qq Try.prog QbL:=Qv fun x _=>Qnw x.1 x.2.1 x.2.2.1
def Qbg (t:Int):TRes:=zre (zci t)
def QdA:TRow:=Qp 141 [(.a QB)] fun x=>(none,Qbg (Qn x.1))
def Qkd:List TRow:=[Qcd]
def Qnf:TCode :=
 (zsq [(.reg [zop 1 (.box 103 0 6),zmv 2 (zki 0)]),(zsq [(.reg [zfa 3 1 0,zLd 4 3 1,zfa 5 1 1,zld 6 5 1,zca 7 47 [4,6],zno 8 7]),(.cond 8 (zsq [(.reg [zmv 2 (zki 0)]),.ret]) .skip)]),(.reg [zfa 9 1 1,zld 10 9 1,zle 11 10,zbi 12 .add 11 (zki 1),zmv 2 12]),.ret])
def Qj2:List (ARv × Md):=[(.t 2,.one .d)]
theorem Qpz (c:Qf) (h :
 (zif (!(Qw c.1 c.2.1)) (K (Qbg (0:Int))) (K (Qbg (w64 (((c.2.1).length:Int)+(1:Int))))))):Hold (tawp Qkd (0+0) Qnf (TQ 0 0 Qj2 K) (Qm [(.a (Tup.cells QB c))])) :=
 Hold.of (by kernel_rfl) h
theorem QpG (c:Qf):TCon Try.prog 141 [(.a (Tup.cells QB c))] (Qbg (Qn c)):=by
 refine QP rfl fun hb=>tcg (n:=13) (sg:=QdA.sg) Qt (TOk.cons QiK TOk.nil) (by kernel_rfl) (by kernel_rfl) (Qpz _ c ?_)
 have hl_c_0:(c.1).length≤9223372036854775807:=hb.1.1.1
 have hl_c_1:(c.2.1).length≤9223372036854775807:=hb.1.2.1.1
 have hl_c_3:(c.2.2.2.1).length≤9223372036854775807:=hb.1.2.2.2.1.1
 have hl_c_4:(c.2.2.2.2.1).length≤9223372036854775807:=hb.1.2.2.2.2.1.1
 have hl_c_5:(c.2.2.2.2.2).length≤9223372036854775807:=hb.1.2.2.2.2.2.1.1
 grind [Qn]
theorem QmX:Qq Try.prog QdA:=Qv fun x _=>QpG x.1
end
end Go.Proofs.Ytephkbajoofeoaa.Am

