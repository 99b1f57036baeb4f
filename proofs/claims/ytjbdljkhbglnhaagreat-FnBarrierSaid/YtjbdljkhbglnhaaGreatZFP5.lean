/- -/
import Derived.Test.YtjbdljkhbglnhaaGreatZFP4
import Derived.Test.YtjbdljkhbglnhaaGreatZFP1
namespace Go.Proofs.YtjbdljkhbglnhaaGreat.Am
open Go Go.RowKit Go.Proofs.YtjbdljkhbglnhaaGreat
set_option linter.all false
noncomputable section
variable (K:TRes→Prop)
def QoQ (t:Bool):TRes:=zre (zcb t)
def Ql8:TRow:=Qh 167 [(.a [(.sl ctOp)]),(.a Qx)] fun x=>(none,QoQ (Jp x.1 x.2.1))
def QP0:List TRow:=[Qaq,Qe2,Qaa,Qd2]
def Q2v:TCode :=
 (zsq [(.reg [zop 2 (.box 26 0 1),zop 3 (.box 108 1 2),zmv 4 (zkb false)]),(.draw [zLd 5 2 1,zca 6 131 [5],zmv 7 6,.grp 7 true [zfa 8 3 0,zld 9 8 1,zLd 10 2 1,zca 11 115 [10],zca 12 114 [9,11]] 13 12,zmv 14 13,.grp 14 true [zfa 15 3 1,zld 16 15 1,zLd 17 2 1,zca 18 117 [17],zca 19 114 [16,18]] 20 19,zmv 4 20] [(3,6),(4,6),(10,13),(11,13)]),.ret])
def QO8:List (ARv × Md):=[(.t 4,.one .d)]
theorem QI7 (m:List TOp') (p:Qp) (h :
 K (QoQ (((QT m)&&(Qt p.1 (Za m)))&&(Qt p.2 (Q8 m))))):Hold (tawp QP0 (0+0) Q2v (TQ 0 0 QO8 K) (Qf [(.a [(.c (.sl ctOp) m)]),(.a [(.c (.sl [TI]) p.1),(.c (.sl [TI]) p.2)])])) :=
 Hold.of (by kernel_rfl) h
theorem QL6 (m:List TOp') (p:Qp):TCon Tryz.prog 167 [(.a [(.c (.sl ctOp) m)]),(.a [(.c (.sl [TI]) p.1),(.c (.sl [TI]) p.2)])] (QoQ (Jp m p)):=by
 refine Qo rfl fun hb=>tcg (n:=21) (sg:=Ql8.sg) Qj (TOk.cons Qbb (TOk.cons Qi6 (TOk.cons Qay (TOk.cons Qlq TOk.nil)))) (by kernel_rfl) (by kernel_rfl) (QI7 _ m p ?_)
 have hl_m_0:(m).length≤9223372036854775807:=hb.1.1.1
 have hl_p_0:(p.1).length≤9223372036854775807:=hb.2.1.1.1
 have hl_p_1:(p.2).length≤9223372036854775807:=hb.2.1.2.1.1
 exact R_eq rfl
theorem QY8:Qg Tryz.prog Ql8:=Qk fun x _=>QL6 x.1 x.2.1
def Qb4 (t:Bool):TRes:=zre (zcb t)
def QoT:TRow:=Qh 75 [(.a [(.sl ctOp)]),(.c (.sl Qx))] fun x=>(none,Qb4 (Yj x.1 x.2.1))
def QqP:List TRow:=[Qa9,YR,Jd,Qis,Qig]
def Qwv:TCode :=
 (zsq [(zsq [(.reg [zmv 15 5,zmv 16 1,zle 17 16,zbi 18 .lss 15 17]),(.cond 18 .skip (.exit 0))]),(.block 1 (zsq [(.draw [zmv 21 1,zmv 22 5,zia 23 21 22 Qx,zfa 24 23 0,zld 25 24 1,zca 26 42 [25],zno 27 26,zmv 28 27,.grp 28 false [zmv 29 1,zmv 30 5,zia 31 29 30 Qx,zfa 32 31 1,zld 33 32 1,zca 34 42 [33],zno 35 34] 36 35,zmv 37 36,.grp 37 false [zmv 38 1,zmv 39 5,zia 40 38 39 Qx,zfa 41 40 0,zld 42 41 1,zle 43 42,zLd 44 2 1,zca 45 153 [44],zbi 46 .neq 43 45] 47 46,zmv 48 47,.grp 48 false [zmv 49 1,zmv 50 5,zia 51 49 50 Qx,zfa 52 51 1,zld 53 52 1,zle 54 53,zLd 55 2 1,zca 56 154 [55],zbi 57 .neq 54 56] 58 57] [(19,24),(20,24),(21,24),(22,24),(30,35),(31,35),(32,35),(33,35)]),(.cond 58 (zsq [(.reg [zmv 4 (zkb false)]),.ret]) .skip)])),(.reg [zmv 19 5,zbi 20 .add 19 (zki 1),zmv 5 20])])
def Qr9:List (Nat × Md):=[(1,.one .d),(2,.b [.d]),(5,.one .d)]
def QyF:TCode :=
 (zsq [(.reg [zmv 4 (zkb true)]),.ret])
def QJB:TCode :=
 (zsq [(.reg [zop 2 (.box 26 0 1),zmv 4 (zkb false)]),(zsq [(.reg [zLd 6 2 1,zca 7 74 [6],zno 8 7,zmv 9 8,.grp 9 false [zmv 10 1,zle 11 10,zca 12 77 [11,(zki 1),(zki 5)],zno 13 12] 14 13]),(.cond 14 (zsq [(.reg [zmv 4 (zkb false)]),.ret]) .skip)]),(zsq [(.reg [zmv 5 (zki 0)]),(.block 0 (.loop Qr9 Qwv))]),QyF])
def QEd:List (ARv × Md):=[(.t 4,.one .d)]
def Qy6:Qb:=TQ 0 0 QEd K
def QKV:Qb:=Qseq (tawp QqP 0 QyF (Qy6 K)) (Qy6 K)
def QWD:Qb:=Qblk 0 (QKV K)
def Qk2 (m:List TOp') (b:List Qp) (i:Int):Prop:=Loop QqP 0 Qr9 Qwv (QWD K) ⟨[(1,(zcs Qx b)),(2,(.p 0 0 0)),(5,(zci i))],[(0,(.box [(zcs ctOp m)]))],1⟩
theorem QGc (m:List TOp') (b:List Qp) (i:Int) (h :
 (zif (decide (i<(b.length:Int))) ((((0:Int)≤i∧Int.toNat i<b.length)∧(((!(!(QN ((gtd QY b (Int.toNat i)).1))))=true→((0:Int)≤i∧Int.toNat i<b.length))∧(((!((!(QN ((gtd QY b (Int.toNat i)).1)))||(!(QN ((gtd QY b (Int.toNat i)).2)))))=true→((0:Int)≤i∧Int.toNat i<b.length))∧((!(((!(QN ((gtd QY b (Int.toNat i)).1)))||(!(QN ((gtd QY b (Int.toNat i)).2))))||((((gtd QY b (Int.toNat i)).1).length:Int) != (Za m))))=true→((0:Int)≤i∧Int.toNat i<b.length)))))∧(zif ((((!(QN ((gtd QY b (Int.toNat i)).1)))||(!(QN ((gtd QY b (Int.toNat i)).2))))||((((gtd QY b (Int.toNat i)).1).length:Int) != (Za m)))||((((gtd QY b (Int.toNat i)).2).length:Int) != (Q8 m))) (K (Qb4 false)) (Qk2 K m b (w64 (i+(1:Int)))))) (K (Qb4 true)))):Qk2 K m b i :=
 Loop.of (by kernel_rfl) h
theorem QMP (m:List TOp') (b:List Qp) (h :
 (zif ((!(QT m))||(!(m_in (b.length:Int) (1:Int) (5:Int)))) (K (Qb4 false)) (Qk2 K m b 0))):Hold (tawp QqP (0+0) QJB (TQ 0 0 QEd K) (Qf [(.a [(.c (.sl ctOp) m)]),(.c (.sl Qx) b)])) :=
 Hold.of (by kernel_rfl) h
theorem QOI (m:List TOp') (b:List Qp):TCon Tryz.prog 75 [(.a [(.c (.sl ctOp) m)]),(.c (.sl Qx) b)] (Qb4 (Yj m b)):=by
 refine Qo rfl fun hb=>tcg (n:=59) (sg:=QoT.sg) Qj (TOk.cons QbY (TOk.cons Y9 (TOk.cons Jw (TOk.cons Qwn (TOk.cons QGX TOk.nil))))) (by kernel_rfl) (by kernel_rfl) (QMP _ m b ?_)
 have hl_m_0:(m).length≤9223372036854775807:=hb.1.1.1
 have hl_b:b.length≤9223372036854775807:=hb.2.1.1
 refine ⟨fun h=>R_eq (by grind [Yj,m_in]),fun h=>?_⟩
 refine Zk b (fun r k=>r.all (Jp m)=b.all (Jp m)→Qk2 (fun r'=>r'=Qb4 (Yj m b)) m b k) ?_ ?_ rfl
 ·intro he
  refine QGc (fun r'=>r'=Qb4 (Yj m b)) m b _ ⟨fun h=>by simp at h,fun _=>?_⟩
  grind [Yj]
 ·intro k x r hk hlt hg ih he
  refine QGc (fun r'=>r'=Qb4 (Yj m b)) m b _ ⟨fun _=>?_,fun h=>by simp at h;omega⟩
  rw [Int.toNat_natCast,hg,Qq (x:=(k:Int)+1) (by omega) (by omega)]
  have e:(!(QN x.1)||!(QN x.2)||((x.1.length:Int) != Za m)||((x.2.length:Int) != Q8 m)) = !Jp m x:=by grind [Jp,Qt]
  rw [e]
  grind [Yj]
theorem Q1U:Qg Tryz.prog QoT:=Qk fun x _=>QOI x.1 x.2.1
def QbK (t:Bool):TRes:=zre (zcb t)
def Qov:TRow:=Qh 87 [(.a [(.sl ctOp)]),(.c (.sl Qx))] fun x=>(none,QbK (Yj x.1 x.2.1))
def Qp8:List TRow:=[Qaq,Ql8]
def QyW:TCode :=
 (zsq [(.reg [zbi 23 .lss 22 21]),(.cond 23 .skip (.exit 0)),(.block 1 (zsq [(.reg [zia 24 20 22 Qx,zLd 25 24 2,zop 6 (.new 108 (z0s Qx)),zst 6 25 2]),(.reg [zLd 26 2 1,zLd 27 6 2,zca 28 167 [26,27],zno 29 28]),(.cond 29 (zsq [(.reg [zmv 4 (zkb false)]),.ret]) .skip)])),(.reg [zbi 30 .add 22 (zki 1),zmv 22 30])])
def QyI:List (Nat × Md):=[(2,.b [.d]),(20,.one .d),(21,.one .d),(22,.one .d)]
def Qu1:TCode :=
 (zsq [(.reg [zmv 4 (zkb true)]),.ret])
def QJj:TCode :=
 (zsq [(.reg [zop 2 (.box 26 0 1),zmv 4 (zkb false)]),(zsq [(.reg [zLd 7 2 1,zca 8 131 [7],zno 9 8,zmv 10 9,.grp 10 false [zmv 11 1,zle 12 11,zbi 13 .lss 12 (zki 1)] 14 13,zmv 15 14,.grp 15 false [zmv 16 1,zle 17 16,zbi 18 .gtr 17 (zki 5)] 19 18]),(.cond 19 (zsq [(.reg [zmv 4 (zkb false)]),.ret]) .skip)]),(zsq [(.reg [zmv 20 1,zle 21 20,zmv 22 (zki 0)]),(.block 0 (.loop QyI QyW))]),Qu1])
def QyH:List (ARv × Md):=[(.t 4,.one .d)]
def QGq:Qb:=TQ 0 0 QyH K
def QMj:Qb:=Qseq (tawp Qp8 0 Qu1 (QGq K)) (QGq K)
def QNa:Qb:=Qblk 0 (QMj K)
def Qpw (m:List TOp') (b:List Qp) (x:Int):Prop:=Loop Qp8 0 QyI QyW (QNa K) ⟨[(2,(.p 0 0 0)),(20,(zcs Qx b)),(21,(zci (b.length:Int))),(22,(zci x))],[(0,(.box [(zcs ctOp m)]))],1⟩
theorem Q08 (m:List TOp') (b:List Qp) (x:Int) (h :
 (zif (decide (x<(b.length:Int))) (((0:Int)≤x∧Int.toNat x<b.length)∧(zif (!(Jp m (gtd QY b (Int.toNat x)))) (K (QbK false)) (Qpw K m b (w64 (x+(1:Int)))))) (K (QbK true)))):Qpw K m b x :=
 Loop.of (by kernel_rfl) h
theorem QO6 (m:List TOp') (b:List Qp) (h :
 (zif (((!(QT m))||(decide ((b.length:Int)<(1:Int))))||(decide ((b.length:Int)>(5:Int)))) (K (QbK false)) (Qpw K m b 0))):Hold (tawp Qp8 (0+0) QJj (TQ 0 0 QyH K) (Qf [(.a [(.c (.sl ctOp) m)]),(.c (.sl Qx) b)])) :=
 Hold.of (by kernel_rfl) h
theorem QWm (m:List TOp') (b:List Qp):TCon Tryz.prog 87 [(.a [(.c (.sl ctOp) m)]),(.c (.sl Qx) b)] (QbK (Yj m b)):=by
 refine Qo rfl fun hb=>tcg (n:=31) (sg:=Qov.sg) Qj (TOk.cons Qbb (TOk.cons QY8 TOk.nil)) (by kernel_rfl) (by kernel_rfl) (QO6 _ m b ?_)
 have hl_m_0:(m).length≤9223372036854775807:=hb.1.1.1
 have hl_b:b.length≤9223372036854775807:=hb.2.1.1
 refine ⟨fun h=>R_eq (by grind [Yj,m_in]),fun h=>?_⟩
 exact Qba (Q:=fun x=>QbK x=QbK (Yj m b)) (p:=Jp m) (c:=fun x=>!(Jp m x)) QY hl_b (fun _=>rfl) (fun i h=>Q08 (fun r'=>r'=QbK (Yj m b)) m b i h) (R_eq (by grind [Yj,m_in]))
theorem Q3l:Qg Tryz.prog Qov:=Qk fun x _=>QWm x.1 x.2.1
def QcP (t:Bool):TRes:=zre (zcb t)
def QgY:TRow:=Qh 76 [(.a [(.sl ctOp)]),(.c (.sl [TI]))] fun x=>(none,QcP (Zj x.1 x.2.1))
def Qrw:List TRow:=[YR,Qa9]
def QD4:TCode :=
 (zsq [(zsq [(.reg [zmv 6 5,zmv 7 1,zle 8 7,zbi 9 .lss 6 8]),(.cond 9 .skip (.exit 0))]),(.block 1 (zsq [(.draw [zmv 12 1,zmv 13 5,zia 14 12 13 [TI],zld 15 14 1,zfa 16 2 0,zld 17 16 1,zle 18 17,zbi 19 .sub 18 (zki 1),zca 20 77 [15,(zki 1),19],zno 21 20,zmv 22 21,.grp 22 false [zmv 23 5,zbi 24 .gtr 23 (zki 0),zmv 25 24,.grp 25 true [zmv 26 1,zmv 27 5,zia 28 26 27 [TI],zld 29 28 1,zmv 30 1,zmv 31 5,zbi 32 .sub 31 (zki 1),zia 33 30 32 [TI],zld 34 33 1,zbi 35 .leq 29 34] 36 35] 37 36] []),(.cond 37 (zsq [(.reg [zmv 4 (zkb false)]),.ret]) .skip)])),(.reg [zmv 10 5,zbi 11 .add 10 (zki 1),zmv 5 11])])
def QBG:List (Nat × Md):=[(1,.one .d),(2,.b [.d]),(5,.one .d)]
def QtA:TCode :=
 (zsq [(.reg [zLd 38 2 1,zca 39 74 [38],zmv 4 39]),.ret])
def QNi:TCode :=
 (zsq [(.reg [zop 2 (.box 26 0 1),zmv 4 (zkb false)]),(zsq [(.reg [zmv 5 (zki 0)]),(.block 0 (.loop QBG QD4))]),QtA])
def QAc:List (ARv × Md):=[(.t 4,.one .d)]
def QxL:Qb:=TQ 0 0 QAc K
def QZ0:Qb:=Qseq (tawp Qrw 0 QtA (QxL K)) (QxL K)
def QV4:Qb:=Qblk 0 (QZ0 K)
def QhV (m:List TOp') (cuts:List Int) (i:Int):Prop:=Loop Qrw 0 QBG QD4 (QV4 K) ⟨[(1,(zcs [TI] cuts)),(2,(.p 0 0 0)),(5,(zci i))],[(0,(.box [(zcs ctOp m)]))],1⟩
theorem Qy7 (m:List TOp') (cuts:List Int) (i:Int) (h :
 (zif (decide (i<(cuts.length:Int))) ((((0:Int)≤i∧Int.toNat i<cuts.length)∧((!(!(m_in (gtd (0:Int) cuts (Int.toNat i)) (1:Int) (w64 ((m.length:Int)-(1:Int))))))=true→((decide (i>(0:Int)))=true→(((0:Int)≤i∧Int.toNat i<cuts.length)∧((0:Int)≤w64 (i-(1:Int))∧Int.toNat (w64 (i-(1:Int)))<cuts.length)))))∧(zif ((!(m_in (gtd (0:Int) cuts (Int.toNat i)) (1:Int) (w64 ((m.length:Int)-(1:Int)))))||((decide (i>(0:Int)))&&(decide ((gtd (0:Int) cuts (Int.toNat i))≤(gtd (0:Int) cuts (Int.toNat (w64 (i-(1:Int))))))))) (K (QcP false)) (QhV K m cuts (w64 (i+(1:Int)))))) (K (QcP (QT m))))):QhV K m cuts i :=
 Loop.of (by kernel_rfl) h
theorem QMQ (m:List TOp') (cuts:List Int) (h :
 (QhV K m cuts 0)):Hold (tawp Qrw (0+0) QNi (TQ 0 0 QAc K) (Qf [(.a [(.c (.sl ctOp) m)]),(.c (.sl [TI]) cuts)])) :=
 Hold.of (by kernel_rfl) h
theorem QJR (m:List TOp') (cuts:List Int):TCon Tryz.prog 76 [(.a [(.c (.sl ctOp) m)]),(.c (.sl [TI]) cuts)] (QcP (Zj m cuts)):=by
 refine Qo rfl fun hb=>tcg (n:=40) (sg:=QgY.sg) Qj (TOk.cons Y9 (TOk.cons QbY TOk.nil)) (by kernel_rfl) (by kernel_rfl) (QMQ _ m cuts ?_)
 have hl_m_0:(m).length≤9223372036854775807:=hb.1.1.1
 have hl_cuts:cuts.length≤9223372036854775807:=hb.2.1.1
 refine Zk cuts (fun r k=>Yf (m.length-1) (Qa0 cuts k) r=Yf (m.length-1) none cuts→QhV (fun r'=>r'=QcP (Zj m cuts)) m cuts k) ?_ ?_ rfl
 ·intro he
  refine Qy7 (fun r'=>r'=QcP (Zj m cuts)) m cuts _ ⟨fun h=>by simp at h,fun _=>?_⟩
  grind [Yf,Zj]
 ·intro k x r hk hlt hg ih he
  refine Qy7 (fun r'=>r'=QcP (Zj m cuts)) m cuts _ ⟨fun _=>?_,fun h=>by simp at h;omega⟩
  rw [Int.toNat_natCast,hg,Qq (x:=(k:Int)+1) (by omega) (by omega),Qq (x:=(m.length:Int)-1) (by omega) (by omega)]
  have ep:Qa0 cuts (k+1)=some x:=by simp [Qa0,hg]
  rw [ep] at ih
  rcases Nat.eq_zero_or_pos k with h0 | h0
  ·subst h0
   simp only [Yf,Qa0,if_true] at he
   grind [Zj]
  ·have e2:=QaY h0 (by omega:k≤9223372036854775807)
   simp only [Yf,Qa0,if_neg (Nat.ne_of_gt h0)] at he
   grind [Zj]
theorem QoL:Qg Tryz.prog QgY:=Qk fun x _=>QJR x.1 x.2.1
def Qcb (t:Bool):TRes:=zre (zcb t)
def QjZ:TRow:=Qh 136 [(.a [(.sl ctOp)]),(.c (.sl [TI]))] fun x=>(none,Qcb (Zj x.1 x.2.1))
def Ql2:List TRow:=[Qaq]
def QHc:TCode :=
 (zsq [(.reg [zbi 13 .lss 12 11]),(.cond 13 .skip (.exit 0)),(.block 1 (zsq [(.reg [zmv 14 12,zia 15 10 12 [TI],zld 16 15 1,zmv 5 14,zmv 6 16]),(.reg [zmv 17 6,zbi 18 .lss 17 (zki 1),zmv 19 18,.grp 19 false [zmv 20 6,zfa 21 2 0,zld 22 21 1,zle 23 22,zbi 24 .sub 23 (zki 1),zbi 25 .gtr 20 24] 26 25,zmv 27 26,.grp 27 false [zmv 28 5,zbi 29 .gtr 28 (zki 0),zmv 30 29,.grp 30 true [zmv 31 1,zmv 32 5,zbi 33 .sub 32 (zki 1),zia 34 31 33 [TI],zld 35 34 1,zmv 36 6,zbi 37 .geq 35 36] 38 37] 39 38]),(.cond 39 (zsq [(.reg [zmv 4 (zkb false)]),.ret]) .skip)])),(.reg [zbi 40 .add 12 (zki 1),zmv 12 40])])
def QD1:List (Nat × Md):=[(1,.one .d),(2,.b [.d]),(10,.one .d),(11,.one .d),(12,.one .d)]
def QCC:TCode :=
 (zsq [(.reg [zmv 4 (zkb true)]),.ret])
def Q1O:TCode :=
 (zsq [(.reg [zop 2 (.box 26 0 1),zmv 4 (zkb false)]),(zsq [(.reg [zLd 7 2 1,zca 8 131 [7],zno 9 8]),(.cond 9 (zsq [(.reg [zmv 4 (zkb false)]),.ret]) .skip)]),(zsq [(.reg [zmv 10 1,zle 11 10,zmv 12 (zki 0)]),(.block 0 (.loop QD1 QHc))]),QCC])
def QCv:List (ARv × Md):=[(.t 4,.one .d)]
def Qu4:Qb:=TQ 0 0 QCv K
def QI1:Qb:=Qseq (tawp Ql2 0 QCC (Qu4 K)) (Qu4 K)
def QXg:Qb:=Qblk 0 (QI1 K)
def Qhu (m:List TOp') (cuts:List Int) (x:Int):Prop:=Loop Ql2 0 QD1 QHc (QXg K) ⟨[(1,(zcs [TI] cuts)),(2,(.p 0 0 0)),(10,(zcs [TI] cuts)),(11,(zci (cuts.length:Int))),(12,(zci x))],[(0,(.box [(zcs ctOp m)]))],1⟩
theorem QFO (m:List TOp') (cuts:List Int) (x:Int) (h :
 (zif (decide (x<(cuts.length:Int))) (((0:Int)≤x∧Int.toNat x<cuts.length)∧(((!((decide ((gtd (0:Int) cuts (Int.toNat x))<(1:Int)))||(decide ((gtd (0:Int) cuts (Int.toNat x))>(w64 ((m.length:Int)-(1:Int)))))))=true→((decide (x>(0:Int)))=true→((0:Int)≤w64 (x-(1:Int))∧Int.toNat (w64 (x-(1:Int)))<cuts.length)))∧(zif (((decide ((gtd (0:Int) cuts (Int.toNat x))<(1:Int)))||(decide ((gtd (0:Int) cuts (Int.toNat x))>(w64 ((m.length:Int)-(1:Int))))))||((decide (x>(0:Int)))&&(decide ((gtd (0:Int) cuts (Int.toNat (w64 (x-(1:Int)))))≥(gtd (0:Int) cuts (Int.toNat x)))))) (K (Qcb false)) (Qhu K m cuts (w64 (x+(1:Int))))))) (K (Qcb true)))):Qhu K m cuts x :=
 Loop.of (by kernel_rfl) h
theorem QHz (m:List TOp') (cuts:List Int) (h :
 (zif (!(QT m)) (K (Qcb false)) (Qhu K m cuts 0))):Hold (tawp Ql2 (0+0) Q1O (TQ 0 0 QCv K) (Qf [(.a [(.c (.sl ctOp) m)]),(.c (.sl [TI]) cuts)])) :=
 Hold.of (by kernel_rfl) h
theorem QYz (m:List TOp') (cuts:List Int):TCon Tryz.prog 136 [(.a [(.c (.sl ctOp) m)]),(.c (.sl [TI]) cuts)] (Qcb (Zj m cuts)):=by
 refine Qo rfl fun hb=>tcg (n:=41) (sg:=QjZ.sg) Qj (TOk.cons Qbb TOk.nil) (by kernel_rfl) (by kernel_rfl) (QHz _ m cuts ?_)
 have hl_m_0:(m).length≤9223372036854775807:=hb.1.1.1
 have hl_cuts:cuts.length≤9223372036854775807:=hb.2.1.1
 refine ⟨fun h=>R_eq (by grind [Zj]),fun h=>?_⟩
 refine Zk cuts (fun r k=>Yf (m.length-1) (Qa0 cuts k) r=Yf (m.length-1) none cuts→Qhu (fun r'=>r'=Qcb (Zj m cuts)) m cuts k) ?_ ?_ rfl
 ·intro he
  refine QFO (fun r'=>r'=Qcb (Zj m cuts)) m cuts _ ⟨fun h=>by simp at h,fun _=>?_⟩
  grind [Yf,Zj]
 ·intro k x r hk hlt hg ih he
  refine QFO (fun r'=>r'=Qcb (Zj m cuts)) m cuts _ ⟨fun _=>?_,fun h=>by simp at h;omega⟩
  rw [Int.toNat_natCast,hg,Qq (x:=(k:Int)+1) (by omega) (by omega),Qq (x:=(m.length:Int)-1) (by omega) (by omega)]
  have ep:Qa0 cuts (k+1)=some x:=by simp [Qa0,hg]
  rw [ep] at ih
  rcases Nat.eq_zero_or_pos k with h0 | h0
  ·subst h0
   simp only [Yf,Qa0,if_true,m_in] at he
   grind [Zj]
  ·have e2:=QaY h0 (by omega:k≤9223372036854775807)
   simp only [Yf,Qa0,if_neg (Nat.ne_of_gt h0),m_in] at he
   grind [Zj]
theorem QvE:Qg Tryz.prog QjZ:=Qk fun x _=>QYz x.1 x.2.1
def QcF (t:Int × Int):TRes:=zre (.tp [(zci t.1),(zci t.2)])
def QeC:TRow:=Qh 93 [(.a [(.sl ctOp)]),(.c (.sl [TI])),(.c TI)] fun x=>(none,QcF (QK x.1 x.2.1 x.2.2.1))
def QGS:List TRow:=[QgY,YR]
def QwI:TCode :=
 (zsq [(zsq [(.reg [zmv 31 2,zmv 32 1,zle 33 32,zbi 34 .lss 31 33]),(.cond 34 (.reg [zmv 35 1,zmv 36 2,zia 37 35 36 [TI],zld 38 37 1,zmv 9 38]) .skip)]),(.reg [zmv 39 8,zmv 40 9,zmv 6 39,zmv 7 40]),.ret])
def QZV:List (Nat × Md):=zdl [1,2,8,9]
def QI3:TCode:=.wk QZV QwI
def QS0:TCode :=
 (zsq [(.reg [zop 3 (.box 26 0 1),zmv 6 (zki 0),zmv 7 (zki 0)]),(zsq [(.reg [zLd 10 3 1,zmv 11 1,zca 12 76 [10,11],zno 13 12,zmv 14 13,.grp 14 false [zmv 15 2,zmv 16 1,zle 17 16,zca 18 77 [15,(zki 0),17],zno 19 18] 20 19]),(.cond 20 (zsq [(.reg [zmv 6 (zki 0),zmv 7 (zki 0)]),.ret]) .skip)]),(.reg [zmv 8 (zki 0)]),(.reg [zfa 21 3 0,zld 22 21 1,zle 23 22,zmv 9 23]),(zsq [(.reg [zmv 24 2,zbi 25 .gtr 24 (zki 0)]),(.cond 25 (.reg [zmv 26 1,zmv 27 2,zbi 28 .sub 27 (zki 1),zia 29 26 28 [TI],zld 30 29 1,zmv 8 30]) .skip)]),QI3])
def Qsv:List (ARv × Md):=[(.t 6,.one .d),(.t 7,.one .d)]
def QNR:Qb:=TQ 0 0 Qsv K
def QrT (m:List TOp') (cuts:List Int) (s:Int) (fro:Int):Prop:=tawp QGS 0 QwI (QNR K) ⟨[(1,(zcs [TI] cuts)),(2,(zci s)),(8,(zci fro)),(9,(zci (m.length:Int)))],[],0⟩
theorem Qse (m:List TOp') (cuts:List Int) (s:Int) (fro:Int) (h :
 (zif (decide (s<(cuts.length:Int))) (((0:Int)≤s∧Int.toNat s<cuts.length)∧K (QcF (fro,(gtd (0:Int) cuts (Int.toNat s))))) (K (QcF (fro,(m.length:Int)))))):Hold (QrT K m cuts s fro) :=
 Hold.of (by kernel_rfl) h
theorem QZC (m:List TOp') (cuts:List Int) (s:Int) (h :
 (zif ((!(Zj m cuts))||(!(m_in s (0:Int) (cuts.length:Int)))) (K (QcF ((0:Int),(0:Int)))) (zif (decide (s>(0:Int))) (((0:Int)≤w64 (s-(1:Int))∧Int.toNat (w64 (s-(1:Int)))<cuts.length)∧(QrT K m cuts s (gtd (0:Int) cuts (Int.toNat (w64 (s-(1:Int))))))) (QrT K m cuts s 0)))):Hold (tawp QGS (0+0) QS0 (TQ 0 0 Qsv K) (Qf [(.a [(.c (.sl ctOp) m)]),(.c (.sl [TI]) cuts),(.c TI s)])) :=
 Hold.of (by kernel_rfl) h
theorem QM0 (m:List TOp') (cuts:List Int) (s:Int):TCon Tryz.prog 93 [(.a [(.c (.sl ctOp) m)]),(.c (.sl [TI]) cuts),(.c TI s)] (QcF (QK m cuts s)):=by
 refine Qo rfl fun hb=>tcg (n:=41) (sg:=QeC.sg) Qj (TOk.cons QoL (TOk.cons Y9 TOk.nil)) (by kernel_rfl) (by kernel_rfl) (QZC _ m cuts s ?_)
 have hl_m_0:(m).length≤9223372036854775807:=hb.1.1.1
 have hl_cuts:cuts.length≤9223372036854775807:=hb.2.1.1
 refine ⟨fun h=>R_eq (by grind [QK,m_in]),fun h=>?_⟩
 have hc:Zj m cuts=true∧0≤s∧s≤cuts.length:=by grind [m_in]
 have hl:=QaU hc.1
 have e1:(Zj m cuts&&m_in s 0 cuts.length)=true:=by grind [m_in]
 refine ⟨fun h1=>?_,fun h1=>?_⟩
 ·have h1:0<s:=by simpa using h1
  rw [Qq (x:=s-1) (by omega) (by omega),show Int.toNat (s-1)=s.toNat-1 by omega]
  refine ⟨⟨by omega,by omega⟩,(Qse (fun r'=>r'=QcF (QK m cuts s)) m cuts s _ ⟨fun h2=>?_,fun h2=>?_⟩).h⟩
  ·have h2:s<cuts.length:=by simpa using h2
   exact ⟨⟨by omega,by omega⟩,R_eq (by simp [QK,e1,h1,h2])⟩
  ·exact R_eq (by simp at h2;simp [QK,e1,h1,Int.not_lt.2 h2])
 ·have h1:¬ 0<s:=by simpa using h1
  refine (Qse (fun r'=>r'=QcF (QK m cuts s)) m cuts s _ ⟨fun h2=>?_,fun h2=>?_⟩).h
  ·have h2:s<cuts.length:=by simpa using h2
   exact ⟨⟨by omega,by omega⟩,R_eq (by simp [QK,e1,h1,h2])⟩
  ·exact R_eq (by simp at h2;simp [QK,e1,h1,Int.not_lt.2 h2])
theorem Qke:Qg Tryz.prog QeC:=Qk fun x _=>QM0 x.1 x.2.1 x.2.2.1
def QdB (t:Int × Int):TRes:=zre (.tp [(zci t.1),(zci t.2)])
def Qfa:TRow:=Qh 71 [(.a [(.sl ctOp)]),(.c (.sl [TI])),(.c TI)] fun x=>(none,QdB (QK x.1 x.2.1 x.2.2.1))
def QzX:List TRow:=[QjZ]
def QuU:TCode :=
 (zsq [(zsq [(.reg [zmv 34 2,zmv 35 1,zle 36 35,zbi 37 .lss 34 36]),(.cond 37 (.reg [zmv 38 1,zmv 39 2,zia 40 38 39 [TI],zld 41 40 1,zmv 9 41]) .skip)]),(.reg [zmv 42 8,zmv 43 9,zmv 6 42,zmv 7 43]),.ret])
def QLD:List (Nat × Md):=zdl [1,2,8,9]
def QVw:TCode:=.wk QLD QuU
def QLs:TCode :=
 (zsq [(.reg [zop 3 (.box 26 0 1),zmv 6 (zki 0),zmv 7 (zki 0)]),(zsq [(.reg [zLd 10 3 1,zmv 11 1,zca 12 136 [10,11],zno 13 12,zmv 14 13,.grp 14 false [zmv 15 2,zbi 16 .lss 15 (zki 0)] 17 16,zmv 18 17,.grp 18 false [zmv 19 2,zmv 20 1,zle 21 20,zbi 22 .gtr 19 21] 23 22]),(.cond 23 (zsq [(.reg [zmv 6 (zki 0),zmv 7 (zki 0)]),.ret]) .skip)]),(.draw [zfa 24 3 0,zld 25 24 1,zle 26 25,zmv 8 (zki 0),zmv 9 26] []),(zsq [(.reg [zmv 27 2,zbi 28 .gtr 27 (zki 0)]),(.cond 28 (.reg [zmv 29 1,zmv 30 2,zbi 31 .sub 30 (zki 1),zia 32 29 31 [TI],zld 33 32 1,zmv 8 33]) .skip)]),QVw])
def QvI:List (ARv × Md):=[(.t 6,.one .d),(.t 7,.one .d)]
def QQt:Qb:=TQ 0 0 QvI K
def QpG (m:List TOp') (cuts:List Int) (s:Int) (fro:Int):Prop:=tawp QzX 0 QuU (QQt K) ⟨[(1,(zcs [TI] cuts)),(2,(zci s)),(8,(zci fro)),(9,(zci (m.length:Int)))],[],0⟩
theorem Quh (m:List TOp') (cuts:List Int) (s:Int) (fro:Int) (h :
 (zif (decide (s<(cuts.length:Int))) (((0:Int)≤s∧Int.toNat s<cuts.length)∧K (QdB (fro,(gtd (0:Int) cuts (Int.toNat s))))) (K (QdB (fro,(m.length:Int)))))):Hold (QpG K m cuts s fro) :=
 Hold.of (by kernel_rfl) h
theorem QIL (m:List TOp') (cuts:List Int) (s:Int) (h :
 (zif (((!(Zj m cuts))||(decide (s<(0:Int))))||(decide (s>(cuts.length:Int)))) (K (QdB ((0:Int),(0:Int)))) (zif (decide (s>(0:Int))) (((0:Int)≤w64 (s-(1:Int))∧Int.toNat (w64 (s-(1:Int)))<cuts.length)∧(QpG K m cuts s (gtd (0:Int) cuts (Int.toNat (w64 (s-(1:Int))))))) (QpG K m cuts s 0)))):Hold (tawp QzX (0+0) QLs (TQ 0 0 QvI K) (Qf [(.a [(.c (.sl ctOp) m)]),(.c (.sl [TI]) cuts),(.c TI s)])) :=
 Hold.of (by kernel_rfl) h
theorem QJV (m:List TOp') (cuts:List Int) (s:Int):TCon Tryz.prog 71 [(.a [(.c (.sl ctOp) m)]),(.c (.sl [TI]) cuts),(.c TI s)] (QdB (QK m cuts s)):=by
 refine Qo rfl fun hb=>tcg (n:=44) (sg:=Qfa.sg) Qj (TOk.cons QvE TOk.nil) (by kernel_rfl) (by kernel_rfl) (QIL _ m cuts s ?_)
 have hl_m_0:(m).length≤9223372036854775807:=hb.1.1.1
 have hl_cuts:cuts.length≤9223372036854775807:=hb.2.1.1
 refine ⟨fun h=>R_eq (by grind [QK,m_in]),fun h=>?_⟩
 have hc:Zj m cuts=true∧0≤s∧s≤cuts.length:=by grind [m_in]
 have hl:=QaU hc.1
 have e1:(Zj m cuts&&m_in s 0 cuts.length)=true:=by grind [m_in]
 refine ⟨fun h1=>?_,fun h1=>?_⟩
 ·have h1:0<s:=by simpa using h1
  rw [Qq (x:=s-1) (by omega) (by omega),show Int.toNat (s-1)=s.toNat-1 by omega]
  refine ⟨⟨by omega,by omega⟩,(Quh (fun r'=>r'=QdB (QK m cuts s)) m cuts s _ ⟨fun h2=>?_,fun h2=>?_⟩).h⟩
  ·have h2:s<cuts.length:=by simpa using h2
   exact ⟨⟨by omega,by omega⟩,R_eq (by simp [QK,e1,h1,h2])⟩
  ·exact R_eq (by simp at h2;simp [QK,e1,h1,Int.not_lt.2 h2])
 ·have h1:¬ 0<s:=by simpa using h1
  refine (Quh (fun r'=>r'=QdB (QK m cuts s)) m cuts s _ ⟨fun h2=>?_,fun h2=>?_⟩).h
  ·have h2:s<cuts.length:=by simpa using h2
   exact ⟨⟨by omega,by omega⟩,R_eq (by simp [QK,e1,h1,h2])⟩
  ·exact R_eq (by simp at h2;simp [QK,e1,h1,Int.not_lt.2 h2])
theorem Qm9:Qg Tryz.prog Qfa:=Qk fun x _=>QJV x.1 x.2.1 x.2.2.1
def Qlw (t:Int):TRes:=zre (zci t)
def Qq4:TRow:=Qh 81 [(.a Q0)] fun x=>(none,Qlw (QR x.1))
def QT5:List TRow:=[QgY]
def QN9:TCode :=
 (zsq [(.reg [zop 1 (.box 30 0 6),zmv 2 (zki 0)]),(zsq [(.reg [zfa 3 1 0,zLd 4 3 1,zfa 5 1 1,zld 6 5 1,zca 7 76 [4,6],zno 8 7]),(.cond 8 (zsq [(.reg [zmv 2 (zki 0)]),.ret]) .skip)]),(.reg [zfa 9 1 1,zld 10 9 1,zle 11 10,zbi 12 .add 11 (zki 1),zmv 2 12]),.ret])
def QK9:List (ARv × Md):=[(.t 2,.one .d)]
theorem QZU (c:QC) (h :
 (zif (!(Zj c.1 c.2.1)) (K (Qlw (0:Int))) (K (Qlw (w64 (((c.2.1).length:Int)+(1:Int))))))):Hold (tawp QT5 (0+0) QN9 (TQ 0 0 QK9 K) (Qf [(.a (Tup.cells Q0 c))])) :=
 Hold.of (by kernel_rfl) h
theorem QS9 (c:QC):TCon Tryz.prog 81 [(.a (Tup.cells Q0 c))] (Qlw (QR c)):=by
 refine Qo rfl fun hb=>tcg (n:=13) (sg:=Qq4.sg) Qj (TOk.cons QoL TOk.nil) (by kernel_rfl) (by kernel_rfl) (QZU _ c ?_)
 have hl_c_0:(c.1).length≤9223372036854775807:=hb.1.1.1
 have hl_c_1:(c.2.1).length≤9223372036854775807:=hb.1.2.1.1
 have hl_c_3:(c.2.2.2.1).length≤9223372036854775807:=hb.1.2.2.2.1.1
 have hl_c_4:(c.2.2.2.2.1).length≤9223372036854775807:=hb.1.2.2.2.2.1.1
 have hl_c_5:(c.2.2.2.2.2).length≤9223372036854775807:=hb.1.2.2.2.2.2.1.1
 grind [QR]
theorem Q2U:Qg Tryz.prog Qq4:=Qk fun x _=>QS9 x.1
def QhM (t:Int):TRes:=zre (zci t)
def QeE:TRow:=Qh 59 [(.a Q0)] fun x=>(none,QhM (QR x.1))
def Q1D:List TRow:=[QjZ]
def QYk:TCode :=
 (zsq [(.reg [zop 1 (.box 30 0 6),zmv 2 (zki 0)]),(zsq [(.reg [zfa 3 1 0,zLd 4 3 1,zfa 5 1 1,zld 6 5 1,zca 7 136 [4,6],zno 8 7]),(.cond 8 (zsq [(.reg [zmv 2 (zki 0)]),.ret]) .skip)]),(.reg [zfa 9 1 1,zld 10 9 1,zle 11 10,zbi 12 .add 11 (zki 1),zmv 2 12]),.ret])
def Q0u:List (ARv × Md):=[(.t 2,.one .d)]
theorem Q12 (c:QC) (h :
 (zif (!(Zj c.1 c.2.1)) (K (QhM (0:Int))) (K (QhM (w64 (((c.2.1).length:Int)+(1:Int))))))):Hold (tawp Q1D (0+0) QYk (TQ 0 0 Q0u K) (Qf [(.a (Tup.cells Q0 c))])) :=
 Hold.of (by kernel_rfl) h
theorem Q2q (c:QC):TCon Tryz.prog 59 [(.a (Tup.cells Q0 c))] (QhM (QR c)):=by
 refine Qo rfl fun hb=>tcg (n:=13) (sg:=QeE.sg) Qj (TOk.cons QvE TOk.nil) (by kernel_rfl) (by kernel_rfl) (Q12 _ c ?_)
 have hl_c_0:(c.1).length≤9223372036854775807:=hb.1.1.1
 have hl_c_1:(c.2.1).length≤9223372036854775807:=hb.1.2.1.1
 have hl_c_3:(c.2.2.2.1).length≤9223372036854775807:=hb.1.2.2.2.1.1
 have hl_c_4:(c.2.2.2.2.1).length≤9223372036854775807:=hb.1.2.2.2.2.1.1
 have hl_c_5:(c.2.2.2.2.2).length≤9223372036854775807:=hb.1.2.2.2.2.2.1.1
 grind [QR]
theorem QjO:Qg Tryz.prog QeE:=Qk fun x _=>Q2q x.1
end
end Go.Proofs.YtjbdljkhbglnhaaGreat.Am

