/- -/
import Derived.Test.YtjbdljkhbglnhaaGreatZEP4
import Derived.Test.YtjbdljkhbglnhaaGreatZEP1
namespace Go.Proofs.YtjbdljkhbglnhaaGreat.Am
open Go Go.RowKit Go.Proofs.YtjbdljkhbglnhaaGreat
set_option linter.all false
noncomputable section
variable (K:TRes→Prop)
def QbQ (t:Bool):TRes:=zre (zcb t)
def Qlc:TRow:=Qk 75 [(.a [(.sl ctOp)]),(.c (.sl QG))] fun x=>(none,QbQ (Y9 x.1 x.2.1))
def QmT:List TRow:=[QaL,YO,Y7,Qg6,QgG]
def QzS:TCode :=
 (zsq [(zsq [(.reg [zmv 15 5,zmv 16 1,zle 17 16,zbi 18 .lss 15 17]),(.cond 18 .skip (.exit 0))]),(.block 1 (zsq [(.draw [zmv 21 1,zmv 22 5,zia 23 21 22 QG,zfa 24 23 0,zld 25 24 1,zca 26 42 [25],zno 27 26,zmv 28 27,.grp 28 false [zmv 29 1,zmv 30 5,zia 31 29 30 QG,zfa 32 31 1,zld 33 32 1,zca 34 42 [33],zno 35 34] 36 35,zmv 37 36,.grp 37 false [zmv 38 1,zmv 39 5,zia 40 38 39 QG,zfa 41 40 0,zld 42 41 1,zle 43 42,zLd 44 2 1,zca 45 153 [44],zbi 46 .neq 43 45] 47 46,zmv 48 47,.grp 48 false [zmv 49 1,zmv 50 5,zia 51 49 50 QG,zfa 52 51 1,zld 53 52 1,zle 54 53,zLd 55 2 1,zca 56 154 [55],zbi 57 .neq 54 56] 58 57] [(19,24),(20,24),(21,24),(22,24),(30,35),(31,35),(32,35),(33,35)]),(.cond 58 (zsq [(.reg [zmv 4 (zkb false)]),.ret]) .skip)])),(.reg [zmv 19 5,zbi 20 .add 19 (zki 1),zmv 5 20])])
def Qwb:List (Nat × Md):=[(1,.one .d),(2,.b [.d]),(5,.one .d)]
def QEm:TCode :=
 (zsq [(.reg [zmv 4 (zkb true)]),.ret])
def QJ1:TCode :=
 (zsq [(.reg [zop 2 (.box 26 0 1),zmv 4 (zkb false)]),(zsq [(.reg [zLd 6 2 1,zca 7 74 [6],zno 8 7,zmv 9 8,.grp 9 false [zmv 10 1,zle 11 10,zca 12 77 [11,(zki 1),(zki 5)],zno 13 12] 14 13]),(.cond 14 (zsq [(.reg [zmv 4 (zkb false)]),.ret]) .skip)]),(zsq [(.reg [zmv 5 (zki 0)]),(.block 0 (.loop Qwb QzS))]),QEm])
def QBl:List (ARv × Md):=[(.t 4,.one .d)]
def QsJ:Qb:=TQ 0 0 QBl K
def QLN:Qb:=Qseq (tawp QmT 0 QEm (QsJ K)) (QsJ K)
def QM6:Qb:=Qblk 0 (QLN K)
def Qjm (m:List TOp') (b:List Qt) (i:Int):Prop:=Loop QmT 0 Qwb QzS (QM6 K) ⟨[(1,(zcs QG b)),(2,(.p 0 0 0)),(5,(zci i))],[(0,(.box [(zcs ctOp m)]))],1⟩
theorem Qwj (m:List TOp') (b:List Qt) (i:Int) (h :
 (zif (decide (i<(b.length:Int))) ((((0:Int)≤i∧Int.toNat i<b.length)∧(((!(!(QJ ((gtd QY b (Int.toNat i)).1))))=true→((0:Int)≤i∧Int.toNat i<b.length))∧(((!((!(QJ ((gtd QY b (Int.toNat i)).1)))||(!(QJ ((gtd QY b (Int.toNat i)).2)))))=true→((0:Int)≤i∧Int.toNat i<b.length))∧((!(((!(QJ ((gtd QY b (Int.toNat i)).1)))||(!(QJ ((gtd QY b (Int.toNat i)).2))))||((((gtd QY b (Int.toNat i)).1).length:Int) != (Q6 m))))=true→((0:Int)≤i∧Int.toNat i<b.length)))))∧(zif ((((!(QJ ((gtd QY b (Int.toNat i)).1)))||(!(QJ ((gtd QY b (Int.toNat i)).2))))||((((gtd QY b (Int.toNat i)).1).length:Int) != (Q6 m)))||((((gtd QY b (Int.toNat i)).2).length:Int) != (Q5 m))) (K (QbQ false)) (Qjm K m b (w64 (i+(1:Int)))))) (K (QbQ true)))):Qjm K m b i :=
 Loop.of (by kernel_rfl) h
theorem QPb (m:List TOp') (b:List Qt) (h :
 (zif ((!(QU m))||(!(m_in (b.length:Int) (1:Int) (5:Int)))) (K (QbQ false)) (Qjm K m b 0))):Hold (tawp QmT (0+0) QJ1 (TQ 0 0 QBl K) (Qg [(.a [(.c (.sl ctOp) m)]),(.c (.sl QG) b)])) :=
 Hold.of (by kernel_rfl) h
theorem QI9 (m:List TOp') (b:List Qt):TCon Tryz.prog 75 [(.a [(.c (.sl ctOp) m)]),(.c (.sl QG) b)] (QbQ (Y9 m b)):=by
 refine Qo rfl fun hb=>tcg (n:=59) (sg:=Qlc.sg) Qm (TOk.cons Qb2 (TOk.cons YX (TOk.cons Jp (TOk.cons Qsw (TOk.cons QsH TOk.nil))))) (by kernel_rfl) (by kernel_rfl) (QPb _ m b ?_)
 have hl_m_0:(m).length≤9223372036854775807:=hb.1.1.1
 have hl_b:b.length≤9223372036854775807:=hb.2.1.1
 refine ⟨fun h=>R_eq (by grind [Y9,m_in]),fun h=>?_⟩
 refine Zp b (fun r k=>r.all (Qat m)=b.all (Qat m)→Qjm (fun r'=>r'=QbQ (Y9 m b)) m b k) ?_ ?_ rfl
 ·intro he
  refine Qwj (fun r'=>r'=QbQ (Y9 m b)) m b _ ⟨fun h=>by simp at h,fun _=>?_⟩
  grind [Y9]
 ·intro k x r hk hlt hg ih he
  refine Qwj (fun r'=>r'=QbQ (Y9 m b)) m b _ ⟨fun _=>?_,fun h=>by simp at h;omega⟩
  rw [Int.toNat_natCast,hg,Qr (x:=(k:Int)+1) (by omega) (by omega)]
  have e:(!(QJ x.1)||!(QJ x.2)||((x.1.length:Int) != Q6 m)||((x.2.length:Int) != Q5 m)) = !Qat m x:=by grind [Qat,Qq]
  rw [e]
  grind [Y9]
theorem QYz:Qj Tryz.prog Qlc:=Qn fun x _=>QI9 x.1 x.2.1
def Qco (t:Bool):TRes:=zre (zcb t)
def QeN:TRow:=Qk 76 [(.a [(.sl ctOp)]),(.c (.sl [TI]))] fun x=>(none,Qco (ZJ x.1 x.2.1))
def QlD:List TRow:=[YO,QaL]
def Qv6:TCode :=
 (zsq [(zsq [(.reg [zmv 6 5,zmv 7 1,zle 8 7,zbi 9 .lss 6 8]),(.cond 9 .skip (.exit 0))]),(.block 1 (zsq [(.draw [zmv 12 1,zmv 13 5,zia 14 12 13 [TI],zld 15 14 1,zfa 16 2 0,zld 17 16 1,zle 18 17,zbi 19 .sub 18 (zki 1),zca 20 77 [15,(zki 1),19],zno 21 20,zmv 22 21,.grp 22 false [zmv 23 5,zbi 24 .gtr 23 (zki 0),zmv 25 24,.grp 25 true [zmv 26 1,zmv 27 5,zia 28 26 27 [TI],zld 29 28 1,zmv 30 1,zmv 31 5,zbi 32 .sub 31 (zki 1),zia 33 30 32 [TI],zld 34 33 1,zbi 35 .leq 29 34] 36 35] 37 36] []),(.cond 37 (zsq [(.reg [zmv 4 (zkb false)]),.ret]) .skip)])),(.reg [zmv 10 5,zbi 11 .add 10 (zki 1),zmv 5 11])])
def QCx:List (Nat × Md):=[(1,.one .d),(2,.b [.d]),(5,.one .d)]
def QyG:TCode :=
 (zsq [(.reg [zLd 38 2 1,zca 39 74 [38],zmv 4 39]),.ret])
def QSF:TCode :=
 (zsq [(.reg [zop 2 (.box 26 0 1),zmv 4 (zkb false)]),(zsq [(.reg [zmv 5 (zki 0)]),(.block 0 (.loop QCx Qv6))]),QyG])
def QwY:List (ARv × Md):=[(.t 4,.one .d)]
def Qrm:Qb:=TQ 0 0 QwY K
def QLl:Qb:=Qseq (tawp QlD 0 QyG (Qrm K)) (Qrm K)
def QOw:Qb:=Qblk 0 (QLl K)
def QiC (m:List TOp') (cuts:List Int) (i:Int):Prop:=Loop QlD 0 QCx Qv6 (QOw K) ⟨[(1,(zcs [TI] cuts)),(2,(.p 0 0 0)),(5,(zci i))],[(0,(.box [(zcs ctOp m)]))],1⟩
theorem Qxz (m:List TOp') (cuts:List Int) (i:Int) (h :
 (zif (decide (i<(cuts.length:Int))) ((((0:Int)≤i∧Int.toNat i<cuts.length)∧((!(!(m_in (gtd (0:Int) cuts (Int.toNat i)) (1:Int) (w64 ((m.length:Int)-(1:Int))))))=true→((decide (i>(0:Int)))=true→(((0:Int)≤i∧Int.toNat i<cuts.length)∧((0:Int)≤w64 (i-(1:Int))∧Int.toNat (w64 (i-(1:Int)))<cuts.length)))))∧(zif ((!(m_in (gtd (0:Int) cuts (Int.toNat i)) (1:Int) (w64 ((m.length:Int)-(1:Int)))))||((decide (i>(0:Int)))&&(decide ((gtd (0:Int) cuts (Int.toNat i))≤(gtd (0:Int) cuts (Int.toNat (w64 (i-(1:Int))))))))) (K (Qco false)) (QiC K m cuts (w64 (i+(1:Int)))))) (K (Qco (QU m))))):QiC K m cuts i :=
 Loop.of (by kernel_rfl) h
theorem QNV (m:List TOp') (cuts:List Int) (h :
 (QiC K m cuts 0)):Hold (tawp QlD (0+0) QSF (TQ 0 0 QwY K) (Qg [(.a [(.c (.sl ctOp) m)]),(.c (.sl [TI]) cuts)])) :=
 Hold.of (by kernel_rfl) h
theorem QTm (m:List TOp') (cuts:List Int):TCon Tryz.prog 76 [(.a [(.c (.sl ctOp) m)]),(.c (.sl [TI]) cuts)] (Qco (ZJ m cuts)):=by
 refine Qo rfl fun hb=>tcg (n:=40) (sg:=QeN.sg) Qm (TOk.cons YX (TOk.cons Qb2 TOk.nil)) (by kernel_rfl) (by kernel_rfl) (QNV _ m cuts ?_)
 have hl_m_0:(m).length≤9223372036854775807:=hb.1.1.1
 have hl_cuts:cuts.length≤9223372036854775807:=hb.2.1.1
 refine Zp cuts (fun r k=>YD (m.length-1) (QeS cuts k) r=YD (m.length-1) none cuts→QiC (fun r'=>r'=Qco (ZJ m cuts)) m cuts k) ?_ ?_ rfl
 ·intro he
  refine Qxz (fun r'=>r'=Qco (ZJ m cuts)) m cuts _ ⟨fun h=>by simp at h,fun _=>?_⟩
  grind [YD,ZJ]
 ·intro k x r hk hlt hg ih he
  refine Qxz (fun r'=>r'=Qco (ZJ m cuts)) m cuts _ ⟨fun _=>?_,fun h=>by simp at h;omega⟩
  rw [Int.toNat_natCast,hg,Qr (x:=(k:Int)+1) (by omega) (by omega),Qr (x:=(m.length:Int)-1) (by omega) (by omega)]
  have ep:QeS cuts (k+1)=some x:=by simp [QeS,hg]
  rw [ep] at ih
  rcases Nat.eq_zero_or_pos k with h0 | h0
  ·subst h0
   simp only [YD,QeS,if_true] at he
   grind [ZJ]
  ·have e2:=Qbh h0 (by omega:k≤9223372036854775807)
   simp only [YD,QeS,if_neg (Nat.ne_of_gt h0)] at he
   grind [ZJ]
theorem Qon:Qj Tryz.prog QeN:=Qn fun x _=>QTm x.1 x.2.1
def Qdq (t:Int × Int):TRes:=zre (.tp [(zci t.1),(zci t.2)])
def Qem:TRow:=Qk 93 [(.a [(.sl ctOp)]),(.c (.sl [TI])),(.c TI)] fun x=>(none,Qdq (QW x.1 x.2.1 x.2.2.1))
def Qwq:List TRow:=[QeN,YO]
def Qsr:TCode :=
 (zsq [(zsq [(.reg [zmv 31 2,zmv 32 1,zle 33 32,zbi 34 .lss 31 33]),(.cond 34 (.reg [zmv 35 1,zmv 36 2,zia 37 35 36 [TI],zld 38 37 1,zmv 9 38]) .skip)]),(.reg [zmv 39 8,zmv 40 9,zmv 6 39,zmv 7 40]),.ret])
def QJS:List (Nat × Md):=zdl [1,2,8,9]
def QS7:TCode:=.wk QJS Qsr
def QRx:TCode :=
 (zsq [(.reg [zop 3 (.box 26 0 1),zmv 6 (zki 0),zmv 7 (zki 0)]),(zsq [(.reg [zLd 10 3 1,zmv 11 1,zca 12 76 [10,11],zno 13 12,zmv 14 13,.grp 14 false [zmv 15 2,zmv 16 1,zle 17 16,zca 18 77 [15,(zki 0),17],zno 19 18] 20 19]),(.cond 20 (zsq [(.reg [zmv 6 (zki 0),zmv 7 (zki 0)]),.ret]) .skip)]),(.reg [zmv 8 (zki 0)]),(.reg [zfa 21 3 0,zld 22 21 1,zle 23 22,zmv 9 23]),(zsq [(.reg [zmv 24 2,zbi 25 .gtr 24 (zki 0)]),(.cond 25 (.reg [zmv 26 1,zmv 27 2,zbi 28 .sub 27 (zki 1),zia 29 26 28 [TI],zld 30 29 1,zmv 8 30]) .skip)]),QS7])
def QxM:List (ARv × Md):=[(.t 6,.one .d),(.t 7,.one .d)]
def QNN:Qb:=TQ 0 0 QxM K
def Qqt (m:List TOp') (cuts:List Int) (s:Int) (fro:Int):Prop:=tawp Qwq 0 Qsr (QNN K) ⟨[(1,(zcs [TI] cuts)),(2,(zci s)),(8,(zci fro)),(9,(zci (m.length:Int)))],[],0⟩
theorem Qzo (m:List TOp') (cuts:List Int) (s:Int) (fro:Int) (h :
 (zif (decide (s<(cuts.length:Int))) (((0:Int)≤s∧Int.toNat s<cuts.length)∧K (Qdq (fro,(gtd (0:Int) cuts (Int.toNat s))))) (K (Qdq (fro,(m.length:Int)))))):Hold (Qqt K m cuts s fro) :=
 Hold.of (by kernel_rfl) h
theorem QOp (m:List TOp') (cuts:List Int) (s:Int) (h :
 (zif ((!(ZJ m cuts))||(!(m_in s (0:Int) (cuts.length:Int)))) (K (Qdq ((0:Int),(0:Int)))) (zif (decide (s>(0:Int))) (((0:Int)≤w64 (s-(1:Int))∧Int.toNat (w64 (s-(1:Int)))<cuts.length)∧(Qqt K m cuts s (gtd (0:Int) cuts (Int.toNat (w64 (s-(1:Int))))))) (Qqt K m cuts s 0)))):Hold (tawp Qwq (0+0) QRx (TQ 0 0 QxM K) (Qg [(.a [(.c (.sl ctOp) m)]),(.c (.sl [TI]) cuts),(.c TI s)])) :=
 Hold.of (by kernel_rfl) h
theorem QUb (m:List TOp') (cuts:List Int) (s:Int):TCon Tryz.prog 93 [(.a [(.c (.sl ctOp) m)]),(.c (.sl [TI]) cuts),(.c TI s)] (Qdq (QW m cuts s)):=by
 refine Qo rfl fun hb=>tcg (n:=41) (sg:=Qem.sg) Qm (TOk.cons Qon (TOk.cons YX TOk.nil)) (by kernel_rfl) (by kernel_rfl) (QOp _ m cuts s ?_)
 have hl_m_0:(m).length≤9223372036854775807:=hb.1.1.1
 have hl_cuts:cuts.length≤9223372036854775807:=hb.2.1.1
 refine ⟨fun h=>R_eq (by grind [QW,m_in]),fun h=>?_⟩
 have hc:ZJ m cuts=true∧0≤s∧s≤cuts.length:=by grind [m_in]
 have hl:=Qbk hc.1
 have e1:(ZJ m cuts&&m_in s 0 cuts.length)=true:=by grind [m_in]
 refine ⟨fun h1=>?_,fun h1=>?_⟩
 ·have h1:0<s:=by simpa using h1
  rw [Qr (x:=s-1) (by omega) (by omega),show Int.toNat (s-1)=s.toNat-1 by omega]
  refine ⟨⟨by omega,by omega⟩,(Qzo (fun r'=>r'=Qdq (QW m cuts s)) m cuts s _ ⟨fun h2=>?_,fun h2=>?_⟩).h⟩
  ·have h2:s<cuts.length:=by simpa using h2
   exact ⟨⟨by omega,by omega⟩,R_eq (by simp [QW,e1,h1,h2])⟩
  ·exact R_eq (by simp at h2;simp [QW,e1,h1,Int.not_lt.2 h2])
 ·have h1:¬ 0<s:=by simpa using h1
  refine (Qzo (fun r'=>r'=Qdq (QW m cuts s)) m cuts s _ ⟨fun h2=>?_,fun h2=>?_⟩).h
  ·have h2:s<cuts.length:=by simpa using h2
   exact ⟨⟨by omega,by omega⟩,R_eq (by simp [QW,e1,h1,h2])⟩
  ·exact R_eq (by simp at h2;simp [QW,e1,h1,Int.not_lt.2 h2])
theorem QiM:Qj Tryz.prog Qem:=Qn fun x _=>QUb x.1 x.2.1 x.2.2.1
def Qib (t:Int):TRes:=zre (zci t)
def Qlg:TRow:=Qk 81 [(.a ZL)] fun x=>(none,Qib (Zj x.1))
def QFx:List TRow:=[QeN]
def QVQ:TCode :=
 (zsq [(.reg [zop 1 (.box 30 0 6),zmv 2 (zki 0)]),(zsq [(.reg [zfa 3 1 0,zLd 4 3 1,zfa 5 1 1,zld 6 5 1,zca 7 76 [4,6],zno 8 7]),(.cond 8 (zsq [(.reg [zmv 2 (zki 0)]),.ret]) .skip)]),(.reg [zfa 9 1 1,zld 10 9 1,zle 11 10,zbi 12 .add 11 (zki 1),zmv 2 12]),.ret])
def QXf:List (ARv × Md):=[(.t 2,.one .d)]
theorem QNJ (c:QN) (h :
 (zif (!(ZJ c.1 c.2.1)) (K (Qib (0:Int))) (K (Qib (w64 (((c.2.1).length:Int)+(1:Int))))))):Hold (tawp QFx (0+0) QVQ (TQ 0 0 QXf K) (Qg [(.a (Tup.cells ZL c))])) :=
 Hold.of (by kernel_rfl) h
theorem QOQ (c:QN):TCon Tryz.prog 81 [(.a (Tup.cells ZL c))] (Qib (Zj c)):=by
 refine Qo rfl fun hb=>tcg (n:=13) (sg:=Qlg.sg) Qm (TOk.cons Qon TOk.nil) (by kernel_rfl) (by kernel_rfl) (QNJ _ c ?_)
 have hl_c_0:(c.1).length≤9223372036854775807:=hb.1.1.1
 have hl_c_1:(c.2.1).length≤9223372036854775807:=hb.1.2.1.1
 have hl_c_3:(c.2.2.2.1).length≤9223372036854775807:=hb.1.2.2.2.1.1
 have hl_c_4:(c.2.2.2.2.1).length≤9223372036854775807:=hb.1.2.2.2.2.1.1
 have hl_c_5:(c.2.2.2.2.2).length≤9223372036854775807:=hb.1.2.2.2.2.2.1.1
 grind [Zj]
theorem QNo:Qj Tryz.prog Qlg:=Qn fun x _=>QOQ x.1
end
end Go.Proofs.YtjbdljkhbglnhaaGreat.Am

