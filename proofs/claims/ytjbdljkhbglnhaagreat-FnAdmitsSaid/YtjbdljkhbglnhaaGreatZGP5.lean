/- -/
import Derived.Test.YtjbdljkhbglnhaaGreatZGP4
import Derived.Test.YtjbdljkhbglnhaaGreatZGP1
namespace Go.Proofs.YtjbdljkhbglnhaaGreat.Am
open Go Go.RowKit Go.Proofs.YtjbdljkhbglnhaaGreat
set_option linter.all false
noncomputable section
variable (K:TRes→Prop)
def QiU (t:Bool):TRes:=zre (zcb t)
def QlR:TRow:=Qi 167 [(.a [(.sl ctOp)]),(.a Qx)] fun x=>(none,QiU (YR x.1 x.2.1))
def QGh:List TRow:=[JX,Qc7,JJ,Qde]
def QDn:TCode :=
 (zsq [(.reg [zop 2 (.box 26 0 1),zop 3 (.box 108 1 2),zmv 4 (zkb false)]),(.draw [zLd 5 2 1,zca 6 131 [5],zmv 7 6,.grp 7 true [zfa 8 3 0,zld 9 8 1,zLd 10 2 1,zca 11 115 [10],zca 12 114 [9,11]] 13 12,zmv 14 13,.grp 14 true [zfa 15 3 1,zld 16 15 1,zLd 17 2 1,zca 18 117 [17],zca 19 114 [16,18]] 20 19,zmv 4 20] [(3,6),(4,6),(10,13),(11,13)]),.ret])
def QIq:List (ARv × Md):=[(.t 4,.one .d)]
theorem QE4 (m:List TOp') (p:Qd) (h :
 K (QiU (((QE m)&&(Qq p.1 (QX m)))&&(Qq p.2 (Q1 m))))):Hold (tawp QGh (0+0) QDn (TQ 0 0 QIq K) (Qf [(.a [(.c (.sl ctOp) m)]),(.a [(.c (.sl [TI]) p.1),(.c (.sl [TI]) p.2)])])) :=
 Hold.of (by kernel_rfl) h
theorem QK2 (m:List TOp') (p:Qd):TCon Tryz.prog 167 [(.a [(.c (.sl ctOp) m)]),(.a [(.c (.sl [TI]) p.1),(.c (.sl [TI]) p.2)])] (QiU (YR m p)):=by
 refine Qr rfl fun hb=>tcg (n:=21) (sg:=QlR.sg) Qk (TOk.cons Qar (TOk.cons QgF (TOk.cons Qaa (TOk.cons QiR TOk.nil)))) (by kernel_rfl) (by kernel_rfl) (QE4 _ m p ?_)
 have hl_m_0:(m).length≤9223372036854775807:=hb.1.1.1
 have hl_p_0:(p.1).length≤9223372036854775807:=hb.2.1.1.1
 have hl_p_1:(p.2).length≤9223372036854775807:=hb.2.1.2.1.1
 exact R_eq rfl
theorem QBv:Qj Tryz.prog QlR:=Ql fun x _=>QK2 x.1 x.2.1
def QbA (t:Bool):TRes:=zre (zcb t)
def QjX:TRow:=Qi 75 [(.a [(.sl ctOp)]),(.c (.sl Qx))] fun x=>(none,QbA (ZM x.1 x.2.1))
def QmH:List TRow:=[QbC,Jj,Qb7,QhC,Qf8]
def Qtt:TCode :=
 (zsq [(zsq [(.reg [zmv 15 5,zmv 16 1,zle 17 16,zbi 18 .lss 15 17]),(.cond 18 .skip (.exit 0))]),(.block 1 (zsq [(.draw [zmv 21 1,zmv 22 5,zia 23 21 22 Qx,zfa 24 23 0,zld 25 24 1,zca 26 42 [25],zno 27 26,zmv 28 27,.grp 28 false [zmv 29 1,zmv 30 5,zia 31 29 30 Qx,zfa 32 31 1,zld 33 32 1,zca 34 42 [33],zno 35 34] 36 35,zmv 37 36,.grp 37 false [zmv 38 1,zmv 39 5,zia 40 38 39 Qx,zfa 41 40 0,zld 42 41 1,zle 43 42,zLd 44 2 1,zca 45 153 [44],zbi 46 .neq 43 45] 47 46,zmv 48 47,.grp 48 false [zmv 49 1,zmv 50 5,zia 51 49 50 Qx,zfa 52 51 1,zld 53 52 1,zle 54 53,zLd 55 2 1,zca 56 154 [55],zbi 57 .neq 54 56] 58 57] [(19,24),(20,24),(21,24),(22,24),(30,35),(31,35),(32,35),(33,35)]),(.cond 58 (zsq [(.reg [zmv 4 (zkb false)]),.ret]) .skip)])),(.reg [zmv 19 5,zbi 20 .add 19 (zki 1),zmv 5 20])])
def QtC:List (Nat × Md):=[(1,.one .d),(2,.b [.d]),(5,.one .d)]
def Qxz:TCode :=
 (zsq [(.reg [zmv 4 (zkb true)]),.ret])
def QAR:TCode :=
 (zsq [(.reg [zop 2 (.box 26 0 1),zmv 4 (zkb false)]),(zsq [(.reg [zLd 6 2 1,zca 7 74 [6],zno 8 7,zmv 9 8,.grp 9 false [zmv 10 1,zle 11 10,zca 12 77 [11,(zki 1),(zki 5)],zno 13 12] 14 13]),(.cond 14 (zsq [(.reg [zmv 4 (zkb false)]),.ret]) .skip)]),(zsq [(.reg [zmv 5 (zki 0)]),(.block 0 (.loop QtC Qtt))]),Qxz])
def QsT:List (ARv × Md):=[(.t 4,.one .d)]
def Qw4:Qb:=TQ 0 0 QsT K
def QAc:Qb:=Qseq (tawp QmH 0 Qxz (Qw4 K)) (Qw4 K)
def QM7:Qb:=Qblk 0 (QAc K)
def QhE (m:List TOp') (b:List Qd) (i:Int):Prop:=Loop QmH 0 QtC Qtt (QM7 K) ⟨[(1,(zcs Qx b)),(2,(.p 0 0 0)),(5,(zci i))],[(0,(.box [(zcs ctOp m)]))],1⟩
theorem QoP (m:List TOp') (b:List Qd) (i:Int) (h :
 (zif (decide (i<(b.length:Int))) ((((0:Int)≤i∧Int.toNat i<b.length)∧(((!(!(QW ((gtd Zj b (Int.toNat i)).1))))=true→((0:Int)≤i∧Int.toNat i<b.length))∧(((!((!(QW ((gtd Zj b (Int.toNat i)).1)))||(!(QW ((gtd Zj b (Int.toNat i)).2)))))=true→((0:Int)≤i∧Int.toNat i<b.length))∧((!(((!(QW ((gtd Zj b (Int.toNat i)).1)))||(!(QW ((gtd Zj b (Int.toNat i)).2))))||((((gtd Zj b (Int.toNat i)).1).length:Int) != (QX m))))=true→((0:Int)≤i∧Int.toNat i<b.length)))))∧(zif ((((!(QW ((gtd Zj b (Int.toNat i)).1)))||(!(QW ((gtd Zj b (Int.toNat i)).2))))||((((gtd Zj b (Int.toNat i)).1).length:Int) != (QX m)))||((((gtd Zj b (Int.toNat i)).2).length:Int) != (Q1 m))) (K (QbA false)) (QhE K m b (w64 (i+(1:Int)))))) (K (QbA true)))):QhE K m b i :=
 Loop.of (by kernel_rfl) h
theorem QCp (m:List TOp') (b:List Qd) (h :
 (zif ((!(QE m))||(!(m_in (b.length:Int) (1:Int) (5:Int)))) (K (QbA false)) (QhE K m b 0))):Hold (tawp QmH (0+0) QAR (TQ 0 0 QsT K) (Qf [(.a [(.c (.sl ctOp) m)]),(.c (.sl Qx) b)])) :=
 Hold.of (by kernel_rfl) h
theorem QLV (m:List TOp') (b:List Qd):TCon Tryz.prog 75 [(.a [(.c (.sl ctOp) m)]),(.c (.sl Qx) b)] (QbA (ZM m b)):=by
 refine Qr rfl fun hb=>tcg (n:=59) (sg:=QjX.sg) Qk (TOk.cons Qdn (TOk.cons JM (TOk.cons Qea (TOk.cons Qyw (TOk.cons Qwf TOk.nil))))) (by kernel_rfl) (by kernel_rfl) (QCp _ m b ?_)
 have hl_m_0:(m).length≤9223372036854775807:=hb.1.1.1
 have hl_b:b.length≤9223372036854775807:=hb.2.1.1
 refine ⟨fun h=>R_eq (by grind [ZM,m_in]),fun h=>?_⟩
 refine Zz b (fun r k=>r.all (YR m)=b.all (YR m)→QhE (fun r'=>r'=QbA (ZM m b)) m b k) ?_ ?_ rfl
 ·intro he
  refine QoP (fun r'=>r'=QbA (ZM m b)) m b _ ⟨fun h=>by simp at h,fun _=>?_⟩
  grind [ZM]
 ·intro k x r hk hlt hg ih he
  refine QoP (fun r'=>r'=QbA (ZM m b)) m b _ ⟨fun _=>?_,fun h=>by simp at h;omega⟩
  rw [Int.toNat_natCast,hg,Qp (x:=(k:Int)+1) (by omega) (by omega)]
  have e:(!(QW x.1)||!(QW x.2)||((x.1.length:Int) != QX m)||((x.2.length:Int) != Q1 m)) = !YR m x:=by grind [YR,Qq]
  rw [e]
  grind [ZM]
theorem QDt:Qj Tryz.prog QjX:=Ql fun x _=>QLV x.1 x.2.1
def QbL (t:Bool):TRes:=zre (zcb t)
def Qkf:TRow:=Qi 87 [(.a [(.sl ctOp)]),(.c (.sl Qx))] fun x=>(none,QbL (ZM x.1 x.2.1))
def QjY:List TRow:=[JX,QlR]
def QoL:TCode :=
 (zsq [(.reg [zbi 23 .lss 22 21]),(.cond 23 .skip (.exit 0)),(.block 1 (zsq [(.reg [zia 24 20 22 Qx,zLd 25 24 2,zop 6 (.new 108 (z0s Qx)),zst 6 25 2]),(.reg [zLd 26 2 1,zLd 27 6 2,zca 28 167 [26,27],zno 29 28]),(.cond 29 (zsq [(.reg [zmv 4 (zkb false)]),.ret]) .skip)])),(.reg [zbi 30 .add 22 (zki 1),zmv 22 30])])
def QqZ:List (Nat × Md):=[(2,.b [.d]),(20,.one .d),(21,.one .d),(22,.one .d)]
def Qw1:TCode :=
 (zsq [(.reg [zmv 4 (zkb true)]),.ret])
def QHb:TCode :=
 (zsq [(.reg [zop 2 (.box 26 0 1),zmv 4 (zkb false)]),(zsq [(.reg [zLd 7 2 1,zca 8 131 [7],zno 9 8,zmv 10 9,.grp 10 false [zmv 11 1,zle 12 11,zbi 13 .lss 12 (zki 1)] 14 13,zmv 15 14,.grp 15 false [zmv 16 1,zle 17 16,zbi 18 .gtr 17 (zki 5)] 19 18]),(.cond 19 (zsq [(.reg [zmv 4 (zkb false)]),.ret]) .skip)]),(zsq [(.reg [zmv 20 1,zle 21 20,zmv 22 (zki 0)]),(.block 0 (.loop QqZ QoL))]),Qw1])
def QrG:List (ARv × Md):=[(.t 4,.one .d)]
def QvN:Qb:=TQ 0 0 QrG K
def QNb:Qb:=Qseq (tawp QjY 0 Qw1 (QvN K)) (QvN K)
def QOe:Qb:=Qblk 0 (QNb K)
def Qlh (m:List TOp') (b:List Qd) (x:Int):Prop:=Loop QjY 0 QqZ QoL (QOe K) ⟨[(2,(.p 0 0 0)),(20,(zcs Qx b)),(21,(zci (b.length:Int))),(22,(zci x))],[(0,(.box [(zcs ctOp m)]))],1⟩
theorem QA4 (m:List TOp') (b:List Qd) (x:Int) (h :
 (zif (decide (x<(b.length:Int))) (((0:Int)≤x∧Int.toNat x<b.length)∧(zif (!(YR m (gtd Zj b (Int.toNat x)))) (K (QbL false)) (Qlh K m b (w64 (x+(1:Int)))))) (K (QbL true)))):Qlh K m b x :=
 Loop.of (by kernel_rfl) h
theorem QEN (m:List TOp') (b:List Qd) (h :
 (zif (((!(QE m))||(decide ((b.length:Int)<(1:Int))))||(decide ((b.length:Int)>(5:Int)))) (K (QbL false)) (Qlh K m b 0))):Hold (tawp QjY (0+0) QHb (TQ 0 0 QrG K) (Qf [(.a [(.c (.sl ctOp) m)]),(.c (.sl Qx) b)])) :=
 Hold.of (by kernel_rfl) h
theorem QCO (m:List TOp') (b:List Qd):TCon Tryz.prog 87 [(.a [(.c (.sl ctOp) m)]),(.c (.sl Qx) b)] (QbL (ZM m b)):=by
 refine Qr rfl fun hb=>tcg (n:=31) (sg:=Qkf.sg) Qk (TOk.cons Qar (TOk.cons QBv TOk.nil)) (by kernel_rfl) (by kernel_rfl) (QEN _ m b ?_)
 have hl_m_0:(m).length≤9223372036854775807:=hb.1.1.1
 have hl_b:b.length≤9223372036854775807:=hb.2.1.1
 refine ⟨fun h=>R_eq (by grind [ZM,m_in]),fun h=>?_⟩
 exact Qa1 (Q:=fun x=>QbL x=QbL (ZM m b)) (p:=YR m) (c:=fun x=>!(YR m x)) Zj hl_b (fun _=>rfl) (fun i h=>QA4 (fun r'=>r'=QbL (ZM m b)) m b i h) (R_eq (by grind [ZM,m_in]))
theorem QAg:Qj Tryz.prog Qkf:=Ql fun x _=>QCO x.1 x.2.1
def Qca (t:Bool):TRes:=zre (zcb t)
def Qig:TRow:=Qi 76 [(.a [(.sl ctOp)]),(.c (.sl [TI]))] fun x=>(none,Qca (Q5 x.1 x.2.1))
def QlP:List TRow:=[Jj,QbC]
def QvS:TCode :=
 (zsq [(zsq [(.reg [zmv 6 5,zmv 7 1,zle 8 7,zbi 9 .lss 6 8]),(.cond 9 .skip (.exit 0))]),(.block 1 (zsq [(.draw [zmv 12 1,zmv 13 5,zia 14 12 13 [TI],zld 15 14 1,zfa 16 2 0,zld 17 16 1,zle 18 17,zbi 19 .sub 18 (zki 1),zca 20 77 [15,(zki 1),19],zno 21 20,zmv 22 21,.grp 22 false [zmv 23 5,zbi 24 .gtr 23 (zki 0),zmv 25 24,.grp 25 true [zmv 26 1,zmv 27 5,zia 28 26 27 [TI],zld 29 28 1,zmv 30 1,zmv 31 5,zbi 32 .sub 31 (zki 1),zia 33 30 32 [TI],zld 34 33 1,zbi 35 .leq 29 34] 36 35] 37 36] []),(.cond 37 (zsq [(.reg [zmv 4 (zkb false)]),.ret]) .skip)])),(.reg [zmv 10 5,zbi 11 .add 10 (zki 1),zmv 5 11])])
def QrY:List (Nat × Md):=[(1,.one .d),(2,.b [.d]),(5,.one .d)]
def Qye:TCode :=
 (zsq [(.reg [zLd 38 2 1,zca 39 74 [38],zmv 4 39]),.ret])
def QCE:TCode :=
 (zsq [(.reg [zop 2 (.box 26 0 1),zmv 4 (zkb false)]),(zsq [(.reg [zmv 5 (zki 0)]),(.block 0 (.loop QrY QvS))]),Qye])
def Qsi:List (ARv × Md):=[(.t 4,.one .d)]
def Qwe:Qb:=TQ 0 0 Qsi K
def QCy:Qb:=Qseq (tawp QlP 0 Qye (Qwe K)) (Qwe K)
def QAT:Qb:=Qblk 0 (QCy K)
def Qh3 (m:List TOp') (cuts:List Int) (i:Int):Prop:=Loop QlP 0 QrY QvS (QAT K) ⟨[(1,(zcs [TI] cuts)),(2,(.p 0 0 0)),(5,(zci i))],[(0,(.box [(zcs ctOp m)]))],1⟩
theorem Qsb (m:List TOp') (cuts:List Int) (i:Int) (h :
 (zif (decide (i<(cuts.length:Int))) ((((0:Int)≤i∧Int.toNat i<cuts.length)∧((!(!(m_in (gtd (0:Int) cuts (Int.toNat i)) (1:Int) (w64 ((m.length:Int)-(1:Int))))))=true→((decide (i>(0:Int)))=true→(((0:Int)≤i∧Int.toNat i<cuts.length)∧((0:Int)≤w64 (i-(1:Int))∧Int.toNat (w64 (i-(1:Int)))<cuts.length)))))∧(zif ((!(m_in (gtd (0:Int) cuts (Int.toNat i)) (1:Int) (w64 ((m.length:Int)-(1:Int)))))||((decide (i>(0:Int)))&&(decide ((gtd (0:Int) cuts (Int.toNat i))≤(gtd (0:Int) cuts (Int.toNat (w64 (i-(1:Int))))))))) (K (Qca false)) (Qh3 K m cuts (w64 (i+(1:Int)))))) (K (Qca (QE m))))):Qh3 K m cuts i :=
 Loop.of (by kernel_rfl) h
theorem QNk (m:List TOp') (cuts:List Int) (h :
 (Qh3 K m cuts 0)):Hold (tawp QlP (0+0) QCE (TQ 0 0 Qsi K) (Qf [(.a [(.c (.sl ctOp) m)]),(.c (.sl [TI]) cuts)])) :=
 Hold.of (by kernel_rfl) h
theorem QPL (m:List TOp') (cuts:List Int):TCon Tryz.prog 76 [(.a [(.c (.sl ctOp) m)]),(.c (.sl [TI]) cuts)] (Qca (Q5 m cuts)):=by
 refine Qr rfl fun hb=>tcg (n:=40) (sg:=Qig.sg) Qk (TOk.cons JM (TOk.cons Qdn TOk.nil)) (by kernel_rfl) (by kernel_rfl) (QNk _ m cuts ?_)
 have hl_m_0:(m).length≤9223372036854775807:=hb.1.1.1
 have hl_cuts:cuts.length≤9223372036854775807:=hb.2.1.1
 refine Zz cuts (fun r k=>ZY (m.length-1) (QaN cuts k) r=ZY (m.length-1) none cuts→Qh3 (fun r'=>r'=Qca (Q5 m cuts)) m cuts k) ?_ ?_ rfl
 ·intro he
  refine Qsb (fun r'=>r'=Qca (Q5 m cuts)) m cuts _ ⟨fun h=>by simp at h,fun _=>?_⟩
  grind [ZY,Q5]
 ·intro k x r hk hlt hg ih he
  refine Qsb (fun r'=>r'=Qca (Q5 m cuts)) m cuts _ ⟨fun _=>?_,fun h=>by simp at h;omega⟩
  rw [Int.toNat_natCast,hg,Qp (x:=(k:Int)+1) (by omega) (by omega),Qp (x:=(m.length:Int)-1) (by omega) (by omega)]
  have ep:QaN cuts (k+1)=some x:=by simp [QaN,hg]
  rw [ep] at ih
  rcases Nat.eq_zero_or_pos k with h0 | h0
  ·subst h0
   simp only [ZY,QaN,if_true] at he
   grind [Q5]
  ·have e2:=QaD h0 (by omega:k≤9223372036854775807)
   simp only [ZY,QaN,if_neg (Nat.ne_of_gt h0)] at he
   grind [Q5]
theorem Qqc:Qj Tryz.prog Qig:=Ql fun x _=>QPL x.1 x.2.1
def Qbp (t:Bool):TRes:=zre (zcb t)
def Qgc:TRow:=Qi 136 [(.a [(.sl ctOp)]),(.c (.sl [TI]))] fun x=>(none,Qbp (Q5 x.1 x.2.1))
def QnD:List TRow:=[JX]
def Qxd:TCode :=
 (zsq [(.reg [zbi 13 .lss 12 11]),(.cond 13 .skip (.exit 0)),(.block 1 (zsq [(.reg [zmv 14 12,zia 15 10 12 [TI],zld 16 15 1,zmv 5 14,zmv 6 16]),(.reg [zmv 17 6,zbi 18 .lss 17 (zki 1),zmv 19 18,.grp 19 false [zmv 20 6,zfa 21 2 0,zld 22 21 1,zle 23 22,zbi 24 .sub 23 (zki 1),zbi 25 .gtr 20 24] 26 25,zmv 27 26,.grp 27 false [zmv 28 5,zbi 29 .gtr 28 (zki 0),zmv 30 29,.grp 30 true [zmv 31 1,zmv 32 5,zbi 33 .sub 32 (zki 1),zia 34 31 33 [TI],zld 35 34 1,zmv 36 6,zbi 37 .geq 35 36] 38 37] 39 38]),(.cond 39 (zsq [(.reg [zmv 4 (zkb false)]),.ret]) .skip)])),(.reg [zbi 40 .add 12 (zki 1),zmv 12 40])])
def Qyg:List (Nat × Md):=[(1,.one .d),(2,.b [.d]),(10,.one .d),(11,.one .d),(12,.one .d)]
def Qpf:TCode :=
 (zsq [(.reg [zmv 4 (zkb true)]),.ret])
def QMD:TCode :=
 (zsq [(.reg [zop 2 (.box 26 0 1),zmv 4 (zkb false)]),(zsq [(.reg [zLd 7 2 1,zca 8 131 [7],zno 9 8]),(.cond 9 (zsq [(.reg [zmv 4 (zkb false)]),.ret]) .skip)]),(zsq [(.reg [zmv 10 1,zle 11 10,zmv 12 (zki 0)]),(.block 0 (.loop Qyg Qxd))]),Qpf])
def QqF:List (ARv × Md):=[(.t 4,.one .d)]
def QuI:Qb:=TQ 0 0 QqF K
def QBU:Qb:=Qseq (tawp QnD 0 Qpf (QuI K)) (QuI K)
def QEv:Qb:=Qblk 0 (QBU K)
def QhZ (m:List TOp') (cuts:List Int) (x:Int):Prop:=Loop QnD 0 Qyg Qxd (QEv K) ⟨[(1,(zcs [TI] cuts)),(2,(.p 0 0 0)),(10,(zcs [TI] cuts)),(11,(zci (cuts.length:Int))),(12,(zci x))],[(0,(.box [(zcs ctOp m)]))],1⟩
theorem Qtm (m:List TOp') (cuts:List Int) (x:Int) (h :
 (zif (decide (x<(cuts.length:Int))) (((0:Int)≤x∧Int.toNat x<cuts.length)∧(((!((decide ((gtd (0:Int) cuts (Int.toNat x))<(1:Int)))||(decide ((gtd (0:Int) cuts (Int.toNat x))>(w64 ((m.length:Int)-(1:Int)))))))=true→((decide (x>(0:Int)))=true→((0:Int)≤w64 (x-(1:Int))∧Int.toNat (w64 (x-(1:Int)))<cuts.length)))∧(zif (((decide ((gtd (0:Int) cuts (Int.toNat x))<(1:Int)))||(decide ((gtd (0:Int) cuts (Int.toNat x))>(w64 ((m.length:Int)-(1:Int))))))||((decide (x>(0:Int)))&&(decide ((gtd (0:Int) cuts (Int.toNat (w64 (x-(1:Int)))))≥(gtd (0:Int) cuts (Int.toNat x)))))) (K (Qbp false)) (QhZ K m cuts (w64 (x+(1:Int))))))) (K (Qbp true)))):QhZ K m cuts x :=
 Loop.of (by kernel_rfl) h
theorem QFc (m:List TOp') (cuts:List Int) (h :
 (zif (!(QE m)) (K (Qbp false)) (QhZ K m cuts 0))):Hold (tawp QnD (0+0) QMD (TQ 0 0 QqF K) (Qf [(.a [(.c (.sl ctOp) m)]),(.c (.sl [TI]) cuts)])) :=
 Hold.of (by kernel_rfl) h
theorem QOL (m:List TOp') (cuts:List Int):TCon Tryz.prog 136 [(.a [(.c (.sl ctOp) m)]),(.c (.sl [TI]) cuts)] (Qbp (Q5 m cuts)):=by
 refine Qr rfl fun hb=>tcg (n:=41) (sg:=Qgc.sg) Qk (TOk.cons Qar TOk.nil) (by kernel_rfl) (by kernel_rfl) (QFc _ m cuts ?_)
 have hl_m_0:(m).length≤9223372036854775807:=hb.1.1.1
 have hl_cuts:cuts.length≤9223372036854775807:=hb.2.1.1
 refine ⟨fun h=>R_eq (by grind [Q5]),fun h=>?_⟩
 refine Zz cuts (fun r k=>ZY (m.length-1) (QaN cuts k) r=ZY (m.length-1) none cuts→QhZ (fun r'=>r'=Qbp (Q5 m cuts)) m cuts k) ?_ ?_ rfl
 ·intro he
  refine Qtm (fun r'=>r'=Qbp (Q5 m cuts)) m cuts _ ⟨fun h=>by simp at h,fun _=>?_⟩
  grind [ZY,Q5]
 ·intro k x r hk hlt hg ih he
  refine Qtm (fun r'=>r'=Qbp (Q5 m cuts)) m cuts _ ⟨fun _=>?_,fun h=>by simp at h;omega⟩
  rw [Int.toNat_natCast,hg,Qp (x:=(k:Int)+1) (by omega) (by omega),Qp (x:=(m.length:Int)-1) (by omega) (by omega)]
  have ep:QaN cuts (k+1)=some x:=by simp [QaN,hg]
  rw [ep] at ih
  rcases Nat.eq_zero_or_pos k with h0 | h0
  ·subst h0
   simp only [ZY,QaN,if_true,m_in] at he
   grind [Q5]
  ·have e2:=QaD h0 (by omega:k≤9223372036854775807)
   simp only [ZY,QaN,if_neg (Nat.ne_of_gt h0),m_in] at he
   grind [Q5]
theorem QoZ:Qj Tryz.prog Qgc:=Ql fun x _=>QOL x.1 x.2.1
def QcI (t:Int × Int):TRes:=zre (.tp [(zci t.1),(zci t.2)])
def Qec:TRow:=Qi 93 [(.a [(.sl ctOp)]),(.c (.sl [TI])),(.c TI)] fun x=>(none,QcI (Qs x.1 x.2.1 x.2.2.1))
def Qp7:List TRow:=[Qig,Jj]
def QoS:TCode :=
 (zsq [(zsq [(.reg [zmv 31 2,zmv 32 1,zle 33 32,zbi 34 .lss 31 33]),(.cond 34 (.reg [zmv 35 1,zmv 36 2,zia 37 35 36 [TI],zld 38 37 1,zmv 9 38]) .skip)]),(.reg [zmv 39 8,zmv 40 9,zmv 6 39,zmv 7 40]),.ret])
def QGT:List (Nat × Md):=zdl [1,2,8,9]
def QNl:TCode:=.wk QGT QoS
def QMj:TCode :=
 (zsq [(.reg [zop 3 (.box 26 0 1),zmv 6 (zki 0),zmv 7 (zki 0)]),(zsq [(.reg [zLd 10 3 1,zmv 11 1,zca 12 76 [10,11],zno 13 12,zmv 14 13,.grp 14 false [zmv 15 2,zmv 16 1,zle 17 16,zca 18 77 [15,(zki 0),17],zno 19 18] 20 19]),(.cond 20 (zsq [(.reg [zmv 6 (zki 0),zmv 7 (zki 0)]),.ret]) .skip)]),(.reg [zmv 8 (zki 0)]),(.reg [zfa 21 3 0,zld 22 21 1,zle 23 22,zmv 9 23]),(zsq [(.reg [zmv 24 2,zbi 25 .gtr 24 (zki 0)]),(.cond 25 (.reg [zmv 26 1,zmv 27 2,zbi 28 .sub 27 (zki 1),zia 29 26 28 [TI],zld 30 29 1,zmv 8 30]) .skip)]),QNl])
def Qxi:List (ARv × Md):=[(.t 6,.one .d),(.t 7,.one .d)]
def QBB:Qb:=TQ 0 0 Qxi K
@[irreducible] def QmL (m:List TOp') (cuts:List Int) (s:Int) (fro:Int):Prop:=tawp Qp7 0 QoS (QBB K) ⟨[(1,(zcs [TI] cuts)),(2,(zci s)),(8,(zci fro)),(9,(zci (m.length:Int)))],[],0⟩
theorem Qsd (m:List TOp') (cuts:List Int) (s:Int) (fro:Int) (h :
 (zif (decide (s<(cuts.length:Int))) (((0:Int)≤s∧Int.toNat s<cuts.length)∧K (QcI (fro,(gtd (0:Int) cuts (Int.toNat s))))) (K (QcI (fro,(m.length:Int)))))):Hold (QmL K m cuts s fro) :=
 Hold.of (by kernel_rfl) h
theorem QMf (m:List TOp') (cuts:List Int) (s:Int) (h :
 (zif ((!(Q5 m cuts))||(!(m_in s (0:Int) (cuts.length:Int)))) (K (QcI ((0:Int),(0:Int)))) (zif (decide (s>(0:Int))) (((0:Int)≤w64 (s-(1:Int))∧Int.toNat (w64 (s-(1:Int)))<cuts.length)∧(QmL K m cuts s (gtd (0:Int) cuts (Int.toNat (w64 (s-(1:Int))))))) (QmL K m cuts s 0)))):Hold (tawp Qp7 (0+0) QMj (TQ 0 0 Qxi K) (Qf [(.a [(.c (.sl ctOp) m)]),(.c (.sl [TI]) cuts),(.c TI s)])) :=
 Hold.of (by kernel_rfl) h
theorem QOP (m:List TOp') (cuts:List Int) (s:Int):TCon Tryz.prog 93 [(.a [(.c (.sl ctOp) m)]),(.c (.sl [TI]) cuts),(.c TI s)] (QcI (Qs m cuts s)):=by
 refine Qr rfl fun hb=>tcg (n:=41) (sg:=Qec.sg) Qk (TOk.cons Qqc (TOk.cons JM TOk.nil)) (by kernel_rfl) (by kernel_rfl) (QMf _ m cuts s ?_)
 have hl_m_0:(m).length≤9223372036854775807:=hb.1.1.1
 have hl_cuts:cuts.length≤9223372036854775807:=hb.2.1.1
 refine ⟨fun h=>R_eq (by grind [Qs,m_in]),fun h=>?_⟩
 have hc:Q5 m cuts=true∧0≤s∧s≤cuts.length:=by grind [m_in]
 have hl:=QaM hc.1
 have e1:(Q5 m cuts&&m_in s 0 cuts.length)=true:=by grind [m_in]
 refine ⟨fun h1=>?_,fun h1=>?_⟩
 ·have h1:0<s:=by simpa using h1
  rw [Qp (x:=s-1) (by omega) (by omega),show Int.toNat (s-1)=s.toNat-1 by omega]
  refine ⟨⟨by omega,by omega⟩,(Qsd (fun r'=>r'=QcI (Qs m cuts s)) m cuts s _ ⟨fun h2=>?_,fun h2=>?_⟩).h⟩
  ·have h2:s<cuts.length:=by simpa using h2
   exact ⟨⟨by omega,by omega⟩,R_eq (by simp [Qs,e1,h1,h2])⟩
  ·exact R_eq (by simp at h2;simp [Qs,e1,h1,Int.not_lt.2 h2])
 ·have h1:¬ 0<s:=by simpa using h1
  refine (Qsd (fun r'=>r'=QcI (Qs m cuts s)) m cuts s _ ⟨fun h2=>?_,fun h2=>?_⟩).h
  ·have h2:s<cuts.length:=by simpa using h2
   exact ⟨⟨by omega,by omega⟩,R_eq (by simp [Qs,e1,h1,h2])⟩
  ·exact R_eq (by simp at h2;simp [Qs,e1,h1,Int.not_lt.2 h2])
theorem QlC:Qj Tryz.prog Qec:=Ql fun x _=>QOP x.1 x.2.1 x.2.2.1
def QcM (t:Int × Int):TRes:=zre (.tp [(zci t.1),(zci t.2)])
def QeH:TRow:=Qi 71 [(.a [(.sl ctOp)]),(.c (.sl [TI])),(.c TI)] fun x=>(none,QcM (Qs x.1 x.2.1 x.2.2.1))
def Qw9:List TRow:=[Qgc]
def QwS:TCode :=
 (zsq [(zsq [(.reg [zmv 34 2,zmv 35 1,zle 36 35,zbi 37 .lss 34 36]),(.cond 37 (.reg [zmv 38 1,zmv 39 2,zia 40 38 39 [TI],zld 41 40 1,zmv 9 41]) .skip)]),(.reg [zmv 42 8,zmv 43 9,zmv 6 42,zmv 7 43]),.ret])
def QEu:List (Nat × Md):=zdl [1,2,8,9]
def QDo:TCode:=.wk QEu QwS
def QMF:TCode :=
 (zsq [(.reg [zop 3 (.box 26 0 1),zmv 6 (zki 0),zmv 7 (zki 0)]),(zsq [(.reg [zLd 10 3 1,zmv 11 1,zca 12 136 [10,11],zno 13 12,zmv 14 13,.grp 14 false [zmv 15 2,zbi 16 .lss 15 (zki 0)] 17 16,zmv 18 17,.grp 18 false [zmv 19 2,zmv 20 1,zle 21 20,zbi 22 .gtr 19 21] 23 22]),(.cond 23 (zsq [(.reg [zmv 6 (zki 0),zmv 7 (zki 0)]),.ret]) .skip)]),(.draw [zfa 24 3 0,zld 25 24 1,zle 26 25,zmv 8 (zki 0),zmv 9 26] []),(zsq [(.reg [zmv 27 2,zbi 28 .gtr 27 (zki 0)]),(.cond 28 (.reg [zmv 29 1,zmv 30 2,zbi 31 .sub 30 (zki 1),zia 32 29 31 [TI],zld 33 32 1,zmv 8 33]) .skip)]),QDo])
def Qn9:List (ARv × Md):=[(.t 6,.one .d),(.t 7,.one .d)]
def QIo:Qb:=TQ 0 0 Qn9 K
@[irreducible] def Qld (m:List TOp') (cuts:List Int) (s:Int) (fro:Int):Prop:=tawp Qw9 0 QwS (QIo K) ⟨[(1,(zcs [TI] cuts)),(2,(zci s)),(8,(zci fro)),(9,(zci (m.length:Int)))],[],0⟩
theorem Qxm (m:List TOp') (cuts:List Int) (s:Int) (fro:Int) (h :
 (zif (decide (s<(cuts.length:Int))) (((0:Int)≤s∧Int.toNat s<cuts.length)∧K (QcM (fro,(gtd (0:Int) cuts (Int.toNat s))))) (K (QcM (fro,(m.length:Int)))))):Hold (Qld K m cuts s fro) :=
 Hold.of (by kernel_rfl) h
theorem QMC (m:List TOp') (cuts:List Int) (s:Int) (h :
 (zif (((!(Q5 m cuts))||(decide (s<(0:Int))))||(decide (s>(cuts.length:Int)))) (K (QcM ((0:Int),(0:Int)))) (zif (decide (s>(0:Int))) (((0:Int)≤w64 (s-(1:Int))∧Int.toNat (w64 (s-(1:Int)))<cuts.length)∧(Qld K m cuts s (gtd (0:Int) cuts (Int.toNat (w64 (s-(1:Int))))))) (Qld K m cuts s 0)))):Hold (tawp Qw9 (0+0) QMF (TQ 0 0 Qn9 K) (Qf [(.a [(.c (.sl ctOp) m)]),(.c (.sl [TI]) cuts),(.c TI s)])) :=
 Hold.of (by kernel_rfl) h
theorem QMJ (m:List TOp') (cuts:List Int) (s:Int):TCon Tryz.prog 71 [(.a [(.c (.sl ctOp) m)]),(.c (.sl [TI]) cuts),(.c TI s)] (QcM (Qs m cuts s)):=by
 refine Qr rfl fun hb=>tcg (n:=44) (sg:=QeH.sg) Qk (TOk.cons QoZ TOk.nil) (by kernel_rfl) (by kernel_rfl) (QMC _ m cuts s ?_)
 have hl_m_0:(m).length≤9223372036854775807:=hb.1.1.1
 have hl_cuts:cuts.length≤9223372036854775807:=hb.2.1.1
 refine ⟨fun h=>R_eq (by grind [Qs,m_in]),fun h=>?_⟩
 have hc:Q5 m cuts=true∧0≤s∧s≤cuts.length:=by grind [m_in]
 have hl:=QaM hc.1
 have e1:(Q5 m cuts&&m_in s 0 cuts.length)=true:=by grind [m_in]
 refine ⟨fun h1=>?_,fun h1=>?_⟩
 ·have h1:0<s:=by simpa using h1
  rw [Qp (x:=s-1) (by omega) (by omega),show Int.toNat (s-1)=s.toNat-1 by omega]
  refine ⟨⟨by omega,by omega⟩,(Qxm (fun r'=>r'=QcM (Qs m cuts s)) m cuts s _ ⟨fun h2=>?_,fun h2=>?_⟩).h⟩
  ·have h2:s<cuts.length:=by simpa using h2
   exact ⟨⟨by omega,by omega⟩,R_eq (by simp [Qs,e1,h1,h2])⟩
  ·exact R_eq (by simp at h2;simp [Qs,e1,h1,Int.not_lt.2 h2])
 ·have h1:¬ 0<s:=by simpa using h1
  refine (Qxm (fun r'=>r'=QcM (Qs m cuts s)) m cuts s _ ⟨fun h2=>?_,fun h2=>?_⟩).h
  ·have h2:s<cuts.length:=by simpa using h2
   exact ⟨⟨by omega,by omega⟩,R_eq (by simp [Qs,e1,h1,h2])⟩
  ·exact R_eq (by simp at h2;simp [Qs,e1,h1,Int.not_lt.2 h2])
theorem Qlq:Qj Tryz.prog QeH:=Ql fun x _=>QMJ x.1 x.2.1 x.2.2.1
def QhS (t:Int):TRes:=zre (zci t)
def Qcv:TRow:=Qi 59 [(.a QU)] fun x=>(none,QhS (QB x.1))
def QN0:List TRow:=[Qgc]
def QKJ:TCode :=
 (zsq [(.reg [zop 1 (.box 30 0 6),zmv 2 (zki 0)]),(zsq [(.reg [zfa 3 1 0,zLd 4 3 1,zfa 5 1 1,zld 6 5 1,zca 7 136 [4,6],zno 8 7]),(.cond 8 (zsq [(.reg [zmv 2 (zki 0)]),.ret]) .skip)]),(.reg [zfa 9 1 1,zld 10 9 1,zle 11 10,zbi 12 .add 11 (zki 1),zmv 2 12]),.ret])
def QEi:List (ARv × Md):=[(.t 2,.one .d)]
theorem QBb (c:Qh) (h :
 (zif (!(Q5 c.1 c.2.1)) (K (QhS (0:Int))) (K (QhS (w64 (((c.2.1).length:Int)+(1:Int))))))):Hold (tawp QN0 (0+0) QKJ (TQ 0 0 QEi K) (Qf [(.a (Tup.cells QU c))])) :=
 Hold.of (by kernel_rfl) h
theorem QJI (c:Qh):TCon Tryz.prog 59 [(.a (Tup.cells QU c))] (QhS (QB c)):=by
 refine Qr rfl fun hb=>tcg (n:=13) (sg:=Qcv.sg) Qk (TOk.cons QoZ TOk.nil) (by kernel_rfl) (by kernel_rfl) (QBb _ c ?_)
 have hl_c_0:(c.1).length≤9223372036854775807:=hb.1.1.1
 have hl_c_1:(c.2.1).length≤9223372036854775807:=hb.1.2.1.1
 have hl_c_3:(c.2.2.2.1).length≤9223372036854775807:=hb.1.2.2.2.1.1
 have hl_c_4:(c.2.2.2.2.1).length≤9223372036854775807:=hb.1.2.2.2.2.1.1
 have hl_c_5:(c.2.2.2.2.2).length≤9223372036854775807:=hb.1.2.2.2.2.2.1.1
 grind [QB]
theorem QeO:Qj Tryz.prog Qcv:=Ql fun x _=>QJI x.1
end
end Go.Proofs.YtjbdljkhbglnhaaGreat.Am

