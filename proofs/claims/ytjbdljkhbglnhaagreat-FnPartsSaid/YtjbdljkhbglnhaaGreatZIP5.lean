/- -/
import Derived.Test.YtjbdljkhbglnhaaGreatZIP4
import Derived.Test.YtjbdljkhbglnhaaGreatZIP1
namespace Go.Proofs.YtjbdljkhbglnhaaGreat.Am
open Go Go.RowKit Go.Proofs.YtjbdljkhbglnhaaGreat
set_option linter.all false
noncomputable section
variable (K:TRes→Prop)
def Qb0 (t:Bool):TRes:=zre (zcb t)
def Qoe:TRow:=Qk 75 [(.a [(.sl ctOp)]),(.c (.sl QK))] fun x=>(none,Qb0 (YL x.1 x.2.1))
def Qpr:List TRow:=[QaF,YN,Jc,QgU,Qi5]
def QtL:TCode :=
 (zsq [(zsq [(.reg [zmv 15 5,zmv 16 1,zle 17 16,zbi 18 .lss 15 17]),(.cond 18 .skip (.exit 0))]),(.block 1 (zsq [(.draw [zmv 21 1,zmv 22 5,zia 23 21 22 QK,zfa 24 23 0,zld 25 24 1,zca 26 42 [25],zno 27 26,zmv 28 27,.grp 28 false [zmv 29 1,zmv 30 5,zia 31 29 30 QK,zfa 32 31 1,zld 33 32 1,zca 34 42 [33],zno 35 34] 36 35,zmv 37 36,.grp 37 false [zmv 38 1,zmv 39 5,zia 40 38 39 QK,zfa 41 40 0,zld 42 41 1,zle 43 42,zLd 44 2 1,zca 45 153 [44],zbi 46 .neq 43 45] 47 46,zmv 48 47,.grp 48 false [zmv 49 1,zmv 50 5,zia 51 49 50 QK,zfa 52 51 1,zld 53 52 1,zle 54 53,zLd 55 2 1,zca 56 154 [55],zbi 57 .neq 54 56] 58 57] [(19,24),(20,24),(21,24),(22,24),(30,35),(31,35),(32,35),(33,35)]),(.cond 58 (zsq [(.reg [zmv 4 (zkb false)]),.ret]) .skip)])),(.reg [zmv 19 5,zbi 20 .add 19 (zki 1),zmv 5 20])])
def QuB:List (Nat × Md):=[(1,.one .d),(2,.b [.d]),(5,.one .d)]
def Qsa:TCode :=
 (zsq [(.reg [zmv 4 (zkb true)]),.ret])
def QLU:TCode :=
 (zsq [(.reg [zop 2 (.box 26 0 1),zmv 4 (zkb false)]),(zsq [(.reg [zLd 6 2 1,zca 7 74 [6],zno 8 7,zmv 9 8,.grp 9 false [zmv 10 1,zle 11 10,zca 12 77 [11,(zki 1),(zki 5)],zno 13 12] 14 13]),(.cond 14 (zsq [(.reg [zmv 4 (zkb false)]),.ret]) .skip)]),(zsq [(.reg [zmv 5 (zki 0)]),(.block 0 (.loop QuB QtL))]),Qsa])
def QrB:List (ARv × Md):=[(.t 4,.one .d)]
def QtC:Qb:=TQ 0 0 QrB K
def QXT:Qb:=Qseq (tawp Qpr 0 Qsa (QtC K)) (QtC K)
def QMu:Qb:=Qblk 0 (QXT K)
def QiC (m:List TOp') (b:List Qy) (i:Int):Prop:=Loop Qpr 0 QuB QtL (QMu K) ⟨[(1,(zcs QK b)),(2,(.p 0 0 0)),(5,(zci i))],[(0,(.box [(zcs ctOp m)]))],1⟩
theorem Qyd (m:List TOp') (b:List Qy) (i:Int) (h :
 (zif (decide (i<(b.length:Int))) ((((0:Int)≤i∧Int.toNat i<b.length)∧(((!(!(QJ ((gtd QX b (Int.toNat i)).1))))=true→((0:Int)≤i∧Int.toNat i<b.length))∧(((!((!(QJ ((gtd QX b (Int.toNat i)).1)))||(!(QJ ((gtd QX b (Int.toNat i)).2)))))=true→((0:Int)≤i∧Int.toNat i<b.length))∧((!(((!(QJ ((gtd QX b (Int.toNat i)).1)))||(!(QJ ((gtd QX b (Int.toNat i)).2))))||((((gtd QX b (Int.toNat i)).1).length:Int) != (Q6 m))))=true→((0:Int)≤i∧Int.toNat i<b.length)))))∧(zif ((((!(QJ ((gtd QX b (Int.toNat i)).1)))||(!(QJ ((gtd QX b (Int.toNat i)).2))))||((((gtd QX b (Int.toNat i)).1).length:Int) != (Q6 m)))||((((gtd QX b (Int.toNat i)).2).length:Int) != (Q5 m))) (K (Qb0 false)) (QiC K m b (w64 (i+(1:Int)))))) (K (Qb0 true)))):QiC K m b i :=
 Loop.of (by kernel_rfl) h
theorem QUp (m:List TOp') (b:List Qy) (h :
 (zif ((!(QT m))||(!(m_in (b.length:Int) (1:Int) (5:Int)))) (K (Qb0 false)) (QiC K m b 0))):Hold (tawp Qpr (0+0) QLU (TQ 0 0 QrB K) (Qi [(.a [(.c (.sl ctOp) m)]),(.c (.sl QK) b)])) :=
 Hold.of (by kernel_rfl) h
theorem QFr (m:List TOp') (b:List Qy):TCon Tryz.prog 75 [(.a [(.c (.sl ctOp) m)]),(.c (.sl QK) b)] (Qb0 (YL m b)):=by
 refine Qo rfl fun hb=>tcg (n:=59) (sg:=Qoe.sg) Qm (TOk.cons Qck (TOk.cons Y5 (TOk.cons Jr (TOk.cons QCO (TOk.cons QuE TOk.nil))))) (by kernel_rfl) (by kernel_rfl) (QUp _ m b ?_)
 have hl_m_0:(m).length≤9223372036854775807:=hb.1.1.1
 have hl_b:b.length≤9223372036854775807:=hb.2.1.1
 refine ⟨fun h=>R_eq (by grind [YL,m_in]),fun h=>?_⟩
 refine Zj b (fun r k=>r.all (JS m)=b.all (JS m)→QiC (fun r'=>r'=Qb0 (YL m b)) m b k) ?_ ?_ rfl
 ·intro he
  refine Qyd (fun r'=>r'=Qb0 (YL m b)) m b _ ⟨fun h=>by simp at h,fun _=>?_⟩
  grind [YL]
 ·intro k x r hk hlt hg ih he
  refine Qyd (fun r'=>r'=Qb0 (YL m b)) m b _ ⟨fun _=>?_,fun h=>by simp at h;omega⟩
  rw [Int.toNat_natCast,hg,Qp (x:=(k:Int)+1) (by omega) (by omega)]
  have e:(!(QJ x.1)||!(QJ x.2)||((x.1.length:Int) != Q6 m)||((x.2.length:Int) != Q5 m)) = !JS m x:=by grind [JS,Qr]
  rw [e]
  grind [YL]
theorem QLt:Ql Tryz.prog Qoe:=Qn fun x _=>QFr x.1 x.2.1
def Qdn (t:Bool):TRes:=zre (zcb t)
def Qgn:TRow:=Qk 76 [(.a [(.sl ctOp)]),(.c (.sl [TI]))] fun x=>(none,Qdn (Zy x.1 x.2.1))
def QkS:List TRow:=[YN,QaF]
def QvX:TCode :=
 (zsq [(zsq [(.reg [zmv 6 5,zmv 7 1,zle 8 7,zbi 9 .lss 6 8]),(.cond 9 .skip (.exit 0))]),(.block 1 (zsq [(.draw [zmv 12 1,zmv 13 5,zia 14 12 13 [TI],zld 15 14 1,zfa 16 2 0,zld 17 16 1,zle 18 17,zbi 19 .sub 18 (zki 1),zca 20 77 [15,(zki 1),19],zno 21 20,zmv 22 21,.grp 22 false [zmv 23 5,zbi 24 .gtr 23 (zki 0),zmv 25 24,.grp 25 true [zmv 26 1,zmv 27 5,zia 28 26 27 [TI],zld 29 28 1,zmv 30 1,zmv 31 5,zbi 32 .sub 31 (zki 1),zia 33 30 32 [TI],zld 34 33 1,zbi 35 .leq 29 34] 36 35] 37 36] []),(.cond 37 (zsq [(.reg [zmv 4 (zkb false)]),.ret]) .skip)])),(.reg [zmv 10 5,zbi 11 .add 10 (zki 1),zmv 5 11])])
def Qr5:List (Nat × Md):=[(1,.one .d),(2,.b [.d]),(5,.one .d)]
def QBv:TCode :=
 (zsq [(.reg [zLd 38 2 1,zca 39 74 [38],zmv 4 39]),.ret])
def QJg:TCode :=
 (zsq [(.reg [zop 2 (.box 26 0 1),zmv 4 (zkb false)]),(zsq [(.reg [zmv 5 (zki 0)]),(.block 0 (.loop Qr5 QvX))]),QBv])
def QAN:List (ARv × Md):=[(.t 4,.one .d)]
def Qyw:Qb:=TQ 0 0 QAN K
def QG8:Qb:=Qseq (tawp QkS 0 QBv (Qyw K)) (Qyw K)
def QMr:Qb:=Qblk 0 (QG8 K)
def QjN (m:List TOp') (cuts:List Int) (i:Int):Prop:=Loop QkS 0 Qr5 QvX (QMr K) ⟨[(1,(zcs [TI] cuts)),(2,(.p 0 0 0)),(5,(zci i))],[(0,(.box [(zcs ctOp m)]))],1⟩
theorem Qs0 (m:List TOp') (cuts:List Int) (i:Int) (h :
 (zif (decide (i<(cuts.length:Int))) ((((0:Int)≤i∧Int.toNat i<cuts.length)∧((!(!(m_in (gtd (0:Int) cuts (Int.toNat i)) (1:Int) (w64 ((m.length:Int)-(1:Int))))))=true→((decide (i>(0:Int)))=true→(((0:Int)≤i∧Int.toNat i<cuts.length)∧((0:Int)≤w64 (i-(1:Int))∧Int.toNat (w64 (i-(1:Int)))<cuts.length)))))∧(zif ((!(m_in (gtd (0:Int) cuts (Int.toNat i)) (1:Int) (w64 ((m.length:Int)-(1:Int)))))||((decide (i>(0:Int)))&&(decide ((gtd (0:Int) cuts (Int.toNat i))≤(gtd (0:Int) cuts (Int.toNat (w64 (i-(1:Int))))))))) (K (Qdn false)) (QjN K m cuts (w64 (i+(1:Int)))))) (K (Qdn (QT m))))):QjN K m cuts i :=
 Loop.of (by kernel_rfl) h
theorem QHb (m:List TOp') (cuts:List Int) (h :
 (QjN K m cuts 0)):Hold (tawp QkS (0+0) QJg (TQ 0 0 QAN K) (Qi [(.a [(.c (.sl ctOp) m)]),(.c (.sl [TI]) cuts)])) :=
 Hold.of (by kernel_rfl) h
theorem QGZ (m:List TOp') (cuts:List Int):TCon Tryz.prog 76 [(.a [(.c (.sl ctOp) m)]),(.c (.sl [TI]) cuts)] (Qdn (Zy m cuts)):=by
 refine Qo rfl fun hb=>tcg (n:=40) (sg:=Qgn.sg) Qm (TOk.cons Y5 (TOk.cons Qck TOk.nil)) (by kernel_rfl) (by kernel_rfl) (QHb _ m cuts ?_)
 have hl_m_0:(m).length≤9223372036854775807:=hb.1.1.1
 have hl_cuts:cuts.length≤9223372036854775807:=hb.2.1.1
 refine Zj cuts (fun r k=>YC (m.length-1) (Qf3 cuts k) r=YC (m.length-1) none cuts→QjN (fun r'=>r'=Qdn (Zy m cuts)) m cuts k) ?_ ?_ rfl
 ·intro he
  refine Qs0 (fun r'=>r'=Qdn (Zy m cuts)) m cuts _ ⟨fun h=>by simp at h,fun _=>?_⟩
  grind [YC,Zy]
 ·intro k x r hk hlt hg ih he
  refine Qs0 (fun r'=>r'=Qdn (Zy m cuts)) m cuts _ ⟨fun _=>?_,fun h=>by simp at h;omega⟩
  rw [Int.toNat_natCast,hg,Qp (x:=(k:Int)+1) (by omega) (by omega),Qp (x:=(m.length:Int)-1) (by omega) (by omega)]
  have ep:Qf3 cuts (k+1)=some x:=by simp [Qf3,hg]
  rw [ep] at ih
  rcases Nat.eq_zero_or_pos k with h0 | h0
  ·subst h0
   simp only [YC,Qf3,if_true] at he
   grind [Zy]
  ·have e2:=Qby h0 (by omega:k≤9223372036854775807)
   simp only [YC,Qf3,if_neg (Nat.ne_of_gt h0)] at he
   grind [Zy]
theorem Qos:Ql Tryz.prog Qgn:=Qn fun x _=>QGZ x.1 x.2.1
def Qdr (t:Int × Int):TRes:=zre (.tp [(zci t.1),(zci t.2)])
def Qer:TRow:=Qk 93 [(.a [(.sl ctOp)]),(.c (.sl [TI])),(.c TI)] fun x=>(none,Qdr (QV x.1 x.2.1 x.2.2.1))
def Qsn:List TRow:=[Qgn,YN]
def QqM:TCode :=
 (zsq [(zsq [(.reg [zmv 31 2,zmv 32 1,zle 33 32,zbi 34 .lss 31 33]),(.cond 34 (.reg [zmv 35 1,zmv 36 2,zia 37 35 36 [TI],zld 38 37 1,zmv 9 38]) .skip)]),(.reg [zmv 39 8,zmv 40 9,zmv 6 39,zmv 7 40]),.ret])
def QHg:List (Nat × Md):=zdl [1,2,8,9]
def QNR:TCode:=.wk QHg QqM
def QSV:TCode :=
 (zsq [(.reg [zop 3 (.box 26 0 1),zmv 6 (zki 0),zmv 7 (zki 0)]),(zsq [(.reg [zLd 10 3 1,zmv 11 1,zca 12 76 [10,11],zno 13 12,zmv 14 13,.grp 14 false [zmv 15 2,zmv 16 1,zle 17 16,zca 18 77 [15,(zki 0),17],zno 19 18] 20 19]),(.cond 20 (zsq [(.reg [zmv 6 (zki 0),zmv 7 (zki 0)]),.ret]) .skip)]),(.reg [zmv 8 (zki 0)]),(.reg [zfa 21 3 0,zld 22 21 1,zle 23 22,zmv 9 23]),(zsq [(.reg [zmv 24 2,zbi 25 .gtr 24 (zki 0)]),(.cond 25 (.reg [zmv 26 1,zmv 27 2,zbi 28 .sub 27 (zki 1),zia 29 26 28 [TI],zld 30 29 1,zmv 8 30]) .skip)]),QNR])
def QyZ:List (ARv × Md):=[(.t 6,.one .d),(.t 7,.one .d)]
def QTv:Qb:=TQ 0 0 QyZ K
@[irreducible] def QkJ (m:List TOp') (cuts:List Int) (s:Int) (fro:Int):Prop:=tawp Qsn 0 QqM (QTv K) ⟨[(1,(zcs [TI] cuts)),(2,(zci s)),(8,(zci fro)),(9,(zci (m.length:Int)))],[],0⟩
theorem QC2 (m:List TOp') (cuts:List Int) (s:Int) (fro:Int) (h :
 (zif (decide (s<(cuts.length:Int))) (((0:Int)≤s∧Int.toNat s<cuts.length)∧K (Qdr (fro,(gtd (0:Int) cuts (Int.toNat s))))) (K (Qdr (fro,(m.length:Int)))))):Hold (QkJ K m cuts s fro) :=
 Hold.of (by kernel_rfl) h
theorem QWh (m:List TOp') (cuts:List Int) (s:Int) (h :
 (zif ((!(Zy m cuts))||(!(m_in s (0:Int) (cuts.length:Int)))) (K (Qdr ((0:Int),(0:Int)))) (zif (decide (s>(0:Int))) (((0:Int)≤w64 (s-(1:Int))∧Int.toNat (w64 (s-(1:Int)))<cuts.length)∧(QkJ K m cuts s (gtd (0:Int) cuts (Int.toNat (w64 (s-(1:Int))))))) (QkJ K m cuts s 0)))):Hold (tawp Qsn (0+0) QSV (TQ 0 0 QyZ K) (Qi [(.a [(.c (.sl ctOp) m)]),(.c (.sl [TI]) cuts),(.c TI s)])) :=
 Hold.of (by kernel_rfl) h
theorem QXP (m:List TOp') (cuts:List Int) (s:Int):TCon Tryz.prog 93 [(.a [(.c (.sl ctOp) m)]),(.c (.sl [TI]) cuts),(.c TI s)] (Qdr (QV m cuts s)):=by
 refine Qo rfl fun hb=>tcg (n:=41) (sg:=Qer.sg) Qm (TOk.cons Qos (TOk.cons Y5 TOk.nil)) (by kernel_rfl) (by kernel_rfl) (QWh _ m cuts s ?_)
 have hl_m_0:(m).length≤9223372036854775807:=hb.1.1.1
 have hl_cuts:cuts.length≤9223372036854775807:=hb.2.1.1
 refine ⟨fun h=>R_eq (by grind [QV,m_in]),fun h=>?_⟩
 have hc:Zy m cuts=true∧0≤s∧s≤cuts.length:=by grind [m_in]
 have hl:=Qa9 hc.1
 have e1:(Zy m cuts&&m_in s 0 cuts.length)=true:=by grind [m_in]
 refine ⟨fun h1=>?_,fun h1=>?_⟩
 ·have h1:0<s:=by simpa using h1
  rw [Qp (x:=s-1) (by omega) (by omega),show Int.toNat (s-1)=s.toNat-1 by omega]
  refine ⟨⟨by omega,by omega⟩,(QC2 (fun r'=>r'=Qdr (QV m cuts s)) m cuts s _ ⟨fun h2=>?_,fun h2=>?_⟩).h⟩
  ·have h2:s<cuts.length:=by simpa using h2
   exact ⟨⟨by omega,by omega⟩,R_eq (by simp [QV,e1,h1,h2])⟩
  ·exact R_eq (by simp at h2;simp [QV,e1,h1,Int.not_lt.2 h2])
 ·have h1:¬ 0<s:=by simpa using h1
  refine (QC2 (fun r'=>r'=Qdr (QV m cuts s)) m cuts s _ ⟨fun h2=>?_,fun h2=>?_⟩).h
  ·have h2:s<cuts.length:=by simpa using h2
   exact ⟨⟨by omega,by omega⟩,R_eq (by simp [QV,e1,h1,h2])⟩
  ·exact R_eq (by simp at h2;simp [QV,e1,h1,Int.not_lt.2 h2])
theorem Qgx:Ql Tryz.prog Qer:=Qn fun x _=>QXP x.1 x.2.1 x.2.2.1
def QhC (t:Int):TRes:=zre (zci t)
def Qoy:TRow:=Qk 81 [(.a ZW)] fun x=>(none,QhC (QZ x.1))
def QQU:List TRow:=[Qgn]
def QE4:TCode :=
 (zsq [(.reg [zop 1 (.box 30 0 6),zmv 2 (zki 0)]),(zsq [(.reg [zfa 3 1 0,zLd 4 3 1,zfa 5 1 1,zld 6 5 1,zca 7 76 [4,6],zno 8 7]),(.cond 8 (zsq [(.reg [zmv 2 (zki 0)]),.ret]) .skip)]),(.reg [zfa 9 1 1,zld 10 9 1,zle 11 10,zbi 12 .add 11 (zki 1),zmv 2 12]),.ret])
def QNK:List (ARv × Md):=[(.t 2,.one .d)]
theorem QTk (c:QM) (h :
 (zif (!(Zy c.1 c.2.1)) (K (QhC (0:Int))) (K (QhC (w64 (((c.2.1).length:Int)+(1:Int))))))):Hold (tawp QQU (0+0) QE4 (TQ 0 0 QNK K) (Qi [(.a (Tup.cells ZW c))])) :=
 Hold.of (by kernel_rfl) h
theorem QKz (c:QM):TCon Tryz.prog 81 [(.a (Tup.cells ZW c))] (QhC (QZ c)):=by
 refine Qo rfl fun hb=>tcg (n:=13) (sg:=Qoy.sg) Qm (TOk.cons Qos TOk.nil) (by kernel_rfl) (by kernel_rfl) (QTk _ c ?_)
 have hl_c_0:(c.1).length≤9223372036854775807:=hb.1.1.1
 have hl_c_1:(c.2.1).length≤9223372036854775807:=hb.1.2.1.1
 have hl_c_3:(c.2.2.2.1).length≤9223372036854775807:=hb.1.2.2.2.1.1
 have hl_c_4:(c.2.2.2.2.1).length≤9223372036854775807:=hb.1.2.2.2.2.1.1
 have hl_c_5:(c.2.2.2.2.2).length≤9223372036854775807:=hb.1.2.2.2.2.2.1.1
 grind [QZ]
theorem QQ6:Ql Tryz.prog Qoy:=Qn fun x _=>QKz x.1
end
end Go.Proofs.YtjbdljkhbglnhaaGreat.Am

