/- -/
import Derived.Test.YtjbdljkhbglnhaaGreatZCP4
import Derived.Test.YtjbdljkhbglnhaaGreatZCP1
namespace Go.Proofs.YtjbdljkhbglnhaaGreat.Am
open Go Go.RowKit Go.Proofs.YtjbdljkhbglnhaaGreat
set_option linter.all false
noncomputable section
variable (K:TRes→Prop)
def QkQ (t:Bool):TRes:=zre (zcb t)
def QiA:TRow:=Qf 167 [(.a [(.sl ctOp)]),(.a Qw)] fun x=>(none,QkQ (Z5 x.1 x.2.1))
def QPI:List TRow:=[JU,QdP,JO,Qef]
def QI1:TCode :=
 (zsq [(.reg [zop 2 (.box 26 0 1),zop 3 (.box 108 1 2),zmv 4 (zkb false)]),(.draw [zLd 5 2 1,zca 6 131 [5],zmv 7 6,.grp 7 true [zfa 8 3 0,zld 9 8 1,zLd 10 2 1,zca 11 115 [10],zca 12 114 [9,11]] 13 12,zmv 14 13,.grp 14 true [zfa 15 3 1,zld 16 15 1,zLd 17 2 1,zca 18 117 [17],zca 19 114 [16,18]] 20 19,zmv 4 20] [(3,6),(4,6),(10,13),(11,13)]),.ret])
def QX0:List (ARv × Md):=[(.t 4,.one .d)]
theorem QF0 (m:List TOp') (p:Qi) (h :
 K (QkQ (((QN m)&&(Qr p.1 (Q7 m)))&&(Qr p.2 (Za m))))):Hold (tawp QPI (0+0) QI1 (TQ 0 0 QX0 K) (Qd [(.a [(.c (.sl ctOp) m)]),(.a [(.c (.sl [TI]) p.1),(.c (.sl [TI]) p.2)])])) :=
 Hold.of (by kernel_rfl) h
theorem QYm (m:List TOp') (p:Qi):TCon Tryz.prog 167 [(.a [(.c (.sl ctOp) m)]),(.a [(.c (.sl [TI]) p.1),(.c (.sl [TI]) p.2)])] (QkQ (Z5 m p)):=by
 refine Qj rfl fun hb=>tcg (n:=21) (sg:=QiA.sg) Qg (TOk.cons QaU (TOk.cons QjR (TOk.cons Qav (TOk.cons QgJ TOk.nil)))) (by kernel_rfl) (by kernel_rfl) (QF0 _ m p ?_)
 have hl_m_0:(m).length≤9223372036854775807:=hb.1.1.1
 have hl_p_0:(p.1).length≤9223372036854775807:=hb.2.1.1.1
 have hl_p_1:(p.2).length≤9223372036854775807:=hb.2.1.2.1.1
 exact R_eq rfl
theorem QrD:Qe Tryz.prog QiA:=Qh fun x _=>QYm x.1 x.2.1
def QbF (t:Bool):TRes:=zre (zcb t)
def Qf0:TRow:=Qf 75 [(.a [(.sl ctOp)]),(.c (.sl Qw))] fun x=>(none,QbF (ZG x.1 x.2.1))
def QpA:List TRow:=[Qcj,Jm,Qar,QiD,QiS]
def QC1:TCode :=
 (zsq [(zsq [(.reg [zmv 15 5,zmv 16 1,zle 17 16,zbi 18 .lss 15 17]),(.cond 18 .skip (.exit 0))]),(.block 1 (zsq [(.draw [zmv 21 1,zmv 22 5,zia 23 21 22 Qw,zfa 24 23 0,zld 25 24 1,zca 26 42 [25],zno 27 26,zmv 28 27,.grp 28 false [zmv 29 1,zmv 30 5,zia 31 29 30 Qw,zfa 32 31 1,zld 33 32 1,zca 34 42 [33],zno 35 34] 36 35,zmv 37 36,.grp 37 false [zmv 38 1,zmv 39 5,zia 40 38 39 Qw,zfa 41 40 0,zld 42 41 1,zle 43 42,zLd 44 2 1,zca 45 153 [44],zbi 46 .neq 43 45] 47 46,zmv 48 47,.grp 48 false [zmv 49 1,zmv 50 5,zia 51 49 50 Qw,zfa 52 51 1,zld 53 52 1,zle 54 53,zLd 55 2 1,zca 56 154 [55],zbi 57 .neq 54 56] 58 57] [(19,24),(20,24),(21,24),(22,24),(30,35),(31,35),(32,35),(33,35)]),(.cond 58 (zsq [(.reg [zmv 4 (zkb false)]),.ret]) .skip)])),(.reg [zmv 19 5,zbi 20 .add 19 (zki 1),zmv 5 20])])
def QBX:List (Nat × Md):=[(1,.one .d),(2,.b [.d]),(5,.one .d)]
def QBn:TCode :=
 (zsq [(.reg [zmv 4 (zkb true)]),.ret])
def QIo:TCode :=
 (zsq [(.reg [zop 2 (.box 26 0 1),zmv 4 (zkb false)]),(zsq [(.reg [zLd 6 2 1,zca 7 74 [6],zno 8 7,zmv 9 8,.grp 9 false [zmv 10 1,zle 11 10,zca 12 77 [11,(zki 1),(zki 5)],zno 13 12] 14 13]),(.cond 14 (zsq [(.reg [zmv 4 (zkb false)]),.ret]) .skip)]),(zsq [(.reg [zmv 5 (zki 0)]),(.block 0 (.loop QBX QC1))]),QBn])
def QCJ:List (ARv × Md):=[(.t 4,.one .d)]
def Qx8:Qb:=TQ 0 0 QCJ K
def QP5:Qb:=Qseq (tawp QpA 0 QBn (Qx8 K)) (Qx8 K)
def QPB:Qb:=Qblk 0 (QP5 K)
def Qhm (m:List TOp') (b:List Qi) (i:Int):Prop:=Loop QpA 0 QBX QC1 (QPB K) ⟨[(1,(zcs Qw b)),(2,(.p 0 0 0)),(5,(zci i))],[(0,(.box [(zcs ctOp m)]))],1⟩
theorem QAO (m:List TOp') (b:List Qi) (i:Int) (h :
 (zif (decide (i<(b.length:Int))) ((((0:Int)≤i∧Int.toNat i<b.length)∧(((!(!(QU ((gtd Zh b (Int.toNat i)).1))))=true→((0:Int)≤i∧Int.toNat i<b.length))∧(((!((!(QU ((gtd Zh b (Int.toNat i)).1)))||(!(QU ((gtd Zh b (Int.toNat i)).2)))))=true→((0:Int)≤i∧Int.toNat i<b.length))∧((!(((!(QU ((gtd Zh b (Int.toNat i)).1)))||(!(QU ((gtd Zh b (Int.toNat i)).2))))||((((gtd Zh b (Int.toNat i)).1).length:Int) != (Q7 m))))=true→((0:Int)≤i∧Int.toNat i<b.length)))))∧(zif ((((!(QU ((gtd Zh b (Int.toNat i)).1)))||(!(QU ((gtd Zh b (Int.toNat i)).2))))||((((gtd Zh b (Int.toNat i)).1).length:Int) != (Q7 m)))||((((gtd Zh b (Int.toNat i)).2).length:Int) != (Za m))) (K (QbF false)) (Qhm K m b (w64 (i+(1:Int)))))) (K (QbF true)))):Qhm K m b i :=
 Loop.of (by kernel_rfl) h
theorem QGq (m:List TOp') (b:List Qi) (h :
 (zif ((!(QN m))||(!(m_in (b.length:Int) (1:Int) (5:Int)))) (K (QbF false)) (Qhm K m b 0))):Hold (tawp QpA (0+0) QIo (TQ 0 0 QCJ K) (Qd [(.a [(.c (.sl ctOp) m)]),(.c (.sl Qw) b)])) :=
 Hold.of (by kernel_rfl) h
theorem QYv (m:List TOp') (b:List Qi):TCon Tryz.prog 75 [(.a [(.c (.sl ctOp) m)]),(.c (.sl Qw) b)] (QbF (ZG m b)):=by
 refine Qj rfl fun hb=>tcg (n:=59) (sg:=Qf0.sg) Qg (TOk.cons QeL (TOk.cons JJ (TOk.cons Qbm (TOk.cons Qwm (TOk.cons QAj TOk.nil))))) (by kernel_rfl) (by kernel_rfl) (QGq _ m b ?_)
 have hl_m_0:(m).length≤9223372036854775807:=hb.1.1.1
 have hl_b:b.length≤9223372036854775807:=hb.2.1.1
 refine ⟨fun h=>R_eq (by grind [ZG,m_in]),fun h=>?_⟩
 refine Zp b (fun r k=>r.all (Z5 m)=b.all (Z5 m)→Qhm (fun r'=>r'=QbF (ZG m b)) m b k) ?_ ?_ rfl
 ·intro he
  refine QAO (fun r'=>r'=QbF (ZG m b)) m b _ ⟨fun h=>by simp at h,fun _=>?_⟩
  grind [ZG]
 ·intro k x r hk hlt hg ih he
  refine QAO (fun r'=>r'=QbF (ZG m b)) m b _ ⟨fun _=>?_,fun h=>by simp at h;omega⟩
  rw [Int.toNat_natCast,hg,Qq (x:=(k:Int)+1) (by omega) (by omega)]
  have e:(!(QU x.1)||!(QU x.2)||((x.1.length:Int) != Q7 m)||((x.2.length:Int) != Za m)) = !Z5 m x:=by grind [Z5,Qr]
  rw [e]
  grind [ZG]
theorem QpC:Qe Tryz.prog Qf0:=Qh fun x _=>QYv x.1 x.2.1
def QbU (t:Bool):TRes:=zre (zcb t)
def Qkj:TRow:=Qf 87 [(.a [(.sl ctOp)]),(.c (.sl Qw))] fun x=>(none,QbU (ZG x.1 x.2.1))
def Qnb:List TRow:=[JU,QiA]
def Qsc:TCode :=
 (zsq [(.reg [zbi 23 .lss 22 21]),(.cond 23 .skip (.exit 0)),(.block 1 (zsq [(.reg [zia 24 20 22 Qw,zLd 25 24 2,zop 6 (.new 108 (z0s Qw)),zst 6 25 2]),(.reg [zLd 26 2 1,zLd 27 6 2,zca 28 167 [26,27],zno 29 28]),(.cond 29 (zsq [(.reg [zmv 4 (zkb false)]),.ret]) .skip)])),(.reg [zbi 30 .add 22 (zki 1),zmv 22 30])])
def QrW:List (Nat × Md):=[(2,.b [.d]),(20,.one .d),(21,.one .d),(22,.one .d)]
def Qx9:TCode :=
 (zsq [(.reg [zmv 4 (zkb true)]),.ret])
def QR5:TCode :=
 (zsq [(.reg [zop 2 (.box 26 0 1),zmv 4 (zkb false)]),(zsq [(.reg [zLd 7 2 1,zca 8 131 [7],zno 9 8,zmv 10 9,.grp 10 false [zmv 11 1,zle 12 11,zbi 13 .lss 12 (zki 1)] 14 13,zmv 15 14,.grp 15 false [zmv 16 1,zle 17 16,zbi 18 .gtr 17 (zki 5)] 19 18]),(.cond 19 (zsq [(.reg [zmv 4 (zkb false)]),.ret]) .skip)]),(zsq [(.reg [zmv 20 1,zle 21 20,zmv 22 (zki 0)]),(.block 0 (.loop QrW Qsc))]),Qx9])
def Qvu:List (ARv × Md):=[(.t 4,.one .d)]
def QCT:Qb:=TQ 0 0 Qvu K
def QYi:Qb:=Qseq (tawp Qnb 0 Qx9 (QCT K)) (QCT K)
def QOU:Qb:=Qblk 0 (QYi K)
def QpD (m:List TOp') (b:List Qi) (x:Int):Prop:=Loop Qnb 0 QrW Qsc (QOU K) ⟨[(2,(.p 0 0 0)),(20,(zcs Qw b)),(21,(zci (b.length:Int))),(22,(zci x))],[(0,(.box [(zcs ctOp m)]))],1⟩
theorem QGI (m:List TOp') (b:List Qi) (x:Int) (h :
 (zif (decide (x<(b.length:Int))) (((0:Int)≤x∧Int.toNat x<b.length)∧(zif (!(Z5 m (gtd Zh b (Int.toNat x)))) (K (QbU false)) (QpD K m b (w64 (x+(1:Int)))))) (K (QbU true)))):QpD K m b x :=
 Loop.of (by kernel_rfl) h
theorem QS8 (m:List TOp') (b:List Qi) (h :
 (zif (((!(QN m))||(decide ((b.length:Int)<(1:Int))))||(decide ((b.length:Int)>(5:Int)))) (K (QbU false)) (QpD K m b 0))):Hold (tawp Qnb (0+0) QR5 (TQ 0 0 Qvu K) (Qd [(.a [(.c (.sl ctOp) m)]),(.c (.sl Qw) b)])) :=
 Hold.of (by kernel_rfl) h
theorem QNC (m:List TOp') (b:List Qi):TCon Tryz.prog 87 [(.a [(.c (.sl ctOp) m)]),(.c (.sl Qw) b)] (QbU (ZG m b)):=by
 refine Qj rfl fun hb=>tcg (n:=31) (sg:=Qkj.sg) Qg (TOk.cons QaU (TOk.cons QrD TOk.nil)) (by kernel_rfl) (by kernel_rfl) (QS8 _ m b ?_)
 have hl_m_0:(m).length≤9223372036854775807:=hb.1.1.1
 have hl_b:b.length≤9223372036854775807:=hb.2.1.1
 refine ⟨fun h=>R_eq (by grind [ZG,m_in]),fun h=>?_⟩
 exact Qbu (Q:=fun x=>QbU x=QbU (ZG m b)) (p:=Z5 m) (c:=fun x=>!(Z5 m x)) Zh hl_b (fun _=>rfl) (fun i h=>QGI (fun r'=>r'=QbU (ZG m b)) m b i h) (R_eq (by grind [ZG,m_in]))
theorem Qwk:Qe Tryz.prog Qkj:=Qh fun x _=>QNC x.1 x.2.1
def Qdz (t:Bool):TRes:=zre (zcb t)
def QfM:TRow:=Qf 76 [(.a [(.sl ctOp)]),(.c (.sl [TI]))] fun x=>(none,Qdz (Zg x.1 x.2.1))
def QlN:List TRow:=[Jm,Qcj]
def QwZ:TCode :=
 (zsq [(zsq [(.reg [zmv 6 5,zmv 7 1,zle 8 7,zbi 9 .lss 6 8]),(.cond 9 .skip (.exit 0))]),(.block 1 (zsq [(.draw [zmv 12 1,zmv 13 5,zia 14 12 13 [TI],zld 15 14 1,zfa 16 2 0,zld 17 16 1,zle 18 17,zbi 19 .sub 18 (zki 1),zca 20 77 [15,(zki 1),19],zno 21 20,zmv 22 21,.grp 22 false [zmv 23 5,zbi 24 .gtr 23 (zki 0),zmv 25 24,.grp 25 true [zmv 26 1,zmv 27 5,zia 28 26 27 [TI],zld 29 28 1,zmv 30 1,zmv 31 5,zbi 32 .sub 31 (zki 1),zia 33 30 32 [TI],zld 34 33 1,zbi 35 .leq 29 34] 36 35] 37 36] []),(.cond 37 (zsq [(.reg [zmv 4 (zkb false)]),.ret]) .skip)])),(.reg [zmv 10 5,zbi 11 .add 10 (zki 1),zmv 5 11])])
def Qq7:List (Nat × Md):=[(1,.one .d),(2,.b [.d]),(5,.one .d)]
def Qv1:TCode :=
 (zsq [(.reg [zLd 38 2 1,zca 39 74 [38],zmv 4 39]),.ret])
def QMB:TCode :=
 (zsq [(.reg [zop 2 (.box 26 0 1),zmv 4 (zkb false)]),(zsq [(.reg [zmv 5 (zki 0)]),(.block 0 (.loop Qq7 QwZ))]),Qv1])
def QAe:List (ARv × Md):=[(.t 4,.one .d)]
def QtJ:Qb:=TQ 0 0 QAe K
def QEL:Qb:=Qseq (tawp QlN 0 Qv1 (QtJ K)) (QtJ K)
def QL1:Qb:=Qblk 0 (QEL K)
def QiN (m:List TOp') (cuts:List Int) (i:Int):Prop:=Loop QlN 0 Qq7 QwZ (QL1 K) ⟨[(1,(zcs [TI] cuts)),(2,(.p 0 0 0)),(5,(zci i))],[(0,(.box [(zcs ctOp m)]))],1⟩
theorem QDg (m:List TOp') (cuts:List Int) (i:Int) (h :
 (zif (decide (i<(cuts.length:Int))) ((((0:Int)≤i∧Int.toNat i<cuts.length)∧((!(!(m_in (gtd (0:Int) cuts (Int.toNat i)) (1:Int) (w64 ((m.length:Int)-(1:Int))))))=true→((decide (i>(0:Int)))=true→(((0:Int)≤i∧Int.toNat i<cuts.length)∧((0:Int)≤w64 (i-(1:Int))∧Int.toNat (w64 (i-(1:Int)))<cuts.length)))))∧(zif ((!(m_in (gtd (0:Int) cuts (Int.toNat i)) (1:Int) (w64 ((m.length:Int)-(1:Int)))))||((decide (i>(0:Int)))&&(decide ((gtd (0:Int) cuts (Int.toNat i))≤(gtd (0:Int) cuts (Int.toNat (w64 (i-(1:Int))))))))) (K (Qdz false)) (QiN K m cuts (w64 (i+(1:Int)))))) (K (Qdz (QN m))))):QiN K m cuts i :=
 Loop.of (by kernel_rfl) h
theorem QGU (m:List TOp') (cuts:List Int) (h :
 (QiN K m cuts 0)):Hold (tawp QlN (0+0) QMB (TQ 0 0 QAe K) (Qd [(.a [(.c (.sl ctOp) m)]),(.c (.sl [TI]) cuts)])) :=
 Hold.of (by kernel_rfl) h
theorem QEz (m:List TOp') (cuts:List Int):TCon Tryz.prog 76 [(.a [(.c (.sl ctOp) m)]),(.c (.sl [TI]) cuts)] (Qdz (Zg m cuts)):=by
 refine Qj rfl fun hb=>tcg (n:=40) (sg:=QfM.sg) Qg (TOk.cons JJ (TOk.cons QeL TOk.nil)) (by kernel_rfl) (by kernel_rfl) (QGU _ m cuts ?_)
 have hl_m_0:(m).length≤9223372036854775807:=hb.1.1.1
 have hl_cuts:cuts.length≤9223372036854775807:=hb.2.1.1
 refine Zp cuts (fun r k=>Z2 (m.length-1) (QaG cuts k) r=Z2 (m.length-1) none cuts→QiN (fun r'=>r'=Qdz (Zg m cuts)) m cuts k) ?_ ?_ rfl
 ·intro he
  refine QDg (fun r'=>r'=Qdz (Zg m cuts)) m cuts _ ⟨fun h=>by simp at h,fun _=>?_⟩
  grind [Z2,Zg]
 ·intro k x r hk hlt hg ih he
  refine QDg (fun r'=>r'=Qdz (Zg m cuts)) m cuts _ ⟨fun _=>?_,fun h=>by simp at h;omega⟩
  rw [Int.toNat_natCast,hg,Qq (x:=(k:Int)+1) (by omega) (by omega),Qq (x:=(m.length:Int)-1) (by omega) (by omega)]
  have ep:QaG cuts (k+1)=some x:=by simp [QaG,hg]
  rw [ep] at ih
  rcases Nat.eq_zero_or_pos k with h0 | h0
  ·subst h0
   simp only [Z2,QaG,if_true] at he
   grind [Zg]
  ·have e2:=Qdl h0 (by omega:k≤9223372036854775807)
   simp only [Z2,QaG,if_neg (Nat.ne_of_gt h0)] at he
   grind [Zg]
theorem Qov:Qe Tryz.prog QfM:=Qh fun x _=>QEz x.1 x.2.1
def Qce (t:Bool):TRes:=zre (zcb t)
def QiE:TRow:=Qf 136 [(.a [(.sl ctOp)]),(.c (.sl [TI]))] fun x=>(none,Qce (Zg x.1 x.2.1))
def QqN:List TRow:=[JU]
def QsQ:TCode :=
 (zsq [(.reg [zbi 13 .lss 12 11]),(.cond 13 .skip (.exit 0)),(.block 1 (zsq [(.reg [zmv 14 12,zia 15 10 12 [TI],zld 16 15 1,zmv 5 14,zmv 6 16]),(.reg [zmv 17 6,zbi 18 .lss 17 (zki 1),zmv 19 18,.grp 19 false [zmv 20 6,zfa 21 2 0,zld 22 21 1,zle 23 22,zbi 24 .sub 23 (zki 1),zbi 25 .gtr 20 24] 26 25,zmv 27 26,.grp 27 false [zmv 28 5,zbi 29 .gtr 28 (zki 0),zmv 30 29,.grp 30 true [zmv 31 1,zmv 32 5,zbi 33 .sub 32 (zki 1),zia 34 31 33 [TI],zld 35 34 1,zmv 36 6,zbi 37 .geq 35 36] 38 37] 39 38]),(.cond 39 (zsq [(.reg [zmv 4 (zkb false)]),.ret]) .skip)])),(.reg [zbi 40 .add 12 (zki 1),zmv 12 40])])
def QsG:List (Nat × Md):=[(1,.one .d),(2,.b [.d]),(10,.one .d),(11,.one .d),(12,.one .d)]
def QAm:TCode :=
 (zsq [(.reg [zmv 4 (zkb true)]),.ret])
def QP2:TCode :=
 (zsq [(.reg [zop 2 (.box 26 0 1),zmv 4 (zkb false)]),(zsq [(.reg [zLd 7 2 1,zca 8 131 [7],zno 9 8]),(.cond 9 (zsq [(.reg [zmv 4 (zkb false)]),.ret]) .skip)]),(zsq [(.reg [zmv 10 1,zle 11 10,zmv 12 (zki 0)]),(.block 0 (.loop QsG QsQ))]),QAm])
def QrX:List (ARv × Md):=[(.t 4,.one .d)]
def Qxv:Qb:=TQ 0 0 QrX K
def QO3:Qb:=Qseq (tawp QqN 0 QAm (Qxv K)) (Qxv K)
def QM3:Qb:=Qblk 0 (QO3 K)
def QhP (m:List TOp') (cuts:List Int) (x:Int):Prop:=Loop QqN 0 QsG QsQ (QM3 K) ⟨[(1,(zcs [TI] cuts)),(2,(.p 0 0 0)),(10,(zcs [TI] cuts)),(11,(zci (cuts.length:Int))),(12,(zci x))],[(0,(.box [(zcs ctOp m)]))],1⟩
theorem QyA (m:List TOp') (cuts:List Int) (x:Int) (h :
 (zif (decide (x<(cuts.length:Int))) (((0:Int)≤x∧Int.toNat x<cuts.length)∧(((!((decide ((gtd (0:Int) cuts (Int.toNat x))<(1:Int)))||(decide ((gtd (0:Int) cuts (Int.toNat x))>(w64 ((m.length:Int)-(1:Int)))))))=true→((decide (x>(0:Int)))=true→((0:Int)≤w64 (x-(1:Int))∧Int.toNat (w64 (x-(1:Int)))<cuts.length)))∧(zif (((decide ((gtd (0:Int) cuts (Int.toNat x))<(1:Int)))||(decide ((gtd (0:Int) cuts (Int.toNat x))>(w64 ((m.length:Int)-(1:Int))))))||((decide (x>(0:Int)))&&(decide ((gtd (0:Int) cuts (Int.toNat (w64 (x-(1:Int)))))≥(gtd (0:Int) cuts (Int.toNat x)))))) (K (Qce false)) (QhP K m cuts (w64 (x+(1:Int))))))) (K (Qce true)))):QhP K m cuts x :=
 Loop.of (by kernel_rfl) h
theorem QIn (m:List TOp') (cuts:List Int) (h :
 (zif (!(QN m)) (K (Qce false)) (QhP K m cuts 0))):Hold (tawp QqN (0+0) QP2 (TQ 0 0 QrX K) (Qd [(.a [(.c (.sl ctOp) m)]),(.c (.sl [TI]) cuts)])) :=
 Hold.of (by kernel_rfl) h
theorem QVy (m:List TOp') (cuts:List Int):TCon Tryz.prog 136 [(.a [(.c (.sl ctOp) m)]),(.c (.sl [TI]) cuts)] (Qce (Zg m cuts)):=by
 refine Qj rfl fun hb=>tcg (n:=41) (sg:=QiE.sg) Qg (TOk.cons QaU TOk.nil) (by kernel_rfl) (by kernel_rfl) (QIn _ m cuts ?_)
 have hl_m_0:(m).length≤9223372036854775807:=hb.1.1.1
 have hl_cuts:cuts.length≤9223372036854775807:=hb.2.1.1
 refine ⟨fun h=>R_eq (by grind [Zg]),fun h=>?_⟩
 refine Zp cuts (fun r k=>Z2 (m.length-1) (QaG cuts k) r=Z2 (m.length-1) none cuts→QhP (fun r'=>r'=Qce (Zg m cuts)) m cuts k) ?_ ?_ rfl
 ·intro he
  refine QyA (fun r'=>r'=Qce (Zg m cuts)) m cuts _ ⟨fun h=>by simp at h,fun _=>?_⟩
  grind [Z2,Zg]
 ·intro k x r hk hlt hg ih he
  refine QyA (fun r'=>r'=Qce (Zg m cuts)) m cuts _ ⟨fun _=>?_,fun h=>by simp at h;omega⟩
  rw [Int.toNat_natCast,hg,Qq (x:=(k:Int)+1) (by omega) (by omega),Qq (x:=(m.length:Int)-1) (by omega) (by omega)]
  have ep:QaG cuts (k+1)=some x:=by simp [QaG,hg]
  rw [ep] at ih
  rcases Nat.eq_zero_or_pos k with h0 | h0
  ·subst h0
   simp only [Z2,QaG,if_true,m_in] at he
   grind [Zg]
  ·have e2:=Qdl h0 (by omega:k≤9223372036854775807)
   simp only [Z2,QaG,if_neg (Nat.ne_of_gt h0),m_in] at he
   grind [Zg]
theorem Qxu:Qe Tryz.prog QiE:=Qh fun x _=>QVy x.1 x.2.1
def Qcv (t:Int × Int):TRes:=zre (.tp [(zci t.1),(zci t.2)])
def Qf4:TRow:=Qf 93 [(.a [(.sl ctOp)]),(.c (.sl [TI])),(.c TI)] fun x=>(none,Qcv (Qt x.1 x.2.1 x.2.2.1))
def QAl:List TRow:=[QfM,Jm]
def QzM:TCode :=
 (zsq [(zsq [(.reg [zmv 31 2,zmv 32 1,zle 33 32,zbi 34 .lss 31 33]),(.cond 34 (.reg [zmv 35 1,zmv 36 2,zia 37 35 36 [TI],zld 38 37 1,zmv 9 38]) .skip)]),(.reg [zmv 39 8,zmv 40 9,zmv 6 39,zmv 7 40]),.ret])
def QFQ:List (Nat × Md):=zdl [1,2,8,9]
def QIx:TCode:=.wk QFQ QzM
def QW4:TCode :=
 (zsq [(.reg [zop 3 (.box 26 0 1),zmv 6 (zki 0),zmv 7 (zki 0)]),(zsq [(.reg [zLd 10 3 1,zmv 11 1,zca 12 76 [10,11],zno 13 12,zmv 14 13,.grp 14 false [zmv 15 2,zmv 16 1,zle 17 16,zca 18 77 [15,(zki 0),17],zno 19 18] 20 19]),(.cond 20 (zsq [(.reg [zmv 6 (zki 0),zmv 7 (zki 0)]),.ret]) .skip)]),(.reg [zmv 8 (zki 0)]),(.reg [zfa 21 3 0,zld 22 21 1,zle 23 22,zmv 9 23]),(zsq [(.reg [zmv 24 2,zbi 25 .gtr 24 (zki 0)]),(.cond 25 (.reg [zmv 26 1,zmv 27 2,zbi 28 .sub 27 (zki 1),zia 29 26 28 [TI],zld 30 29 1,zmv 8 30]) .skip)]),QIx])
def Qzw:List (ARv × Md):=[(.t 6,.one .d),(.t 7,.one .d)]
def QR1:Qb:=TQ 0 0 Qzw K
def Qpm (m:List TOp') (cuts:List Int) (s:Int) (fro:Int):Prop:=tawp QAl 0 QzM (QR1 K) ⟨[(1,(zcs [TI] cuts)),(2,(zci s)),(8,(zci fro)),(9,(zci (m.length:Int)))],[],0⟩
theorem QwE (m:List TOp') (cuts:List Int) (s:Int) (fro:Int) (h :
 (zif (decide (s<(cuts.length:Int))) (((0:Int)≤s∧Int.toNat s<cuts.length)∧K (Qcv (fro,(gtd (0:Int) cuts (Int.toNat s))))) (K (Qcv (fro,(m.length:Int)))))):Hold (Qpm K m cuts s fro) :=
 Hold.of (by kernel_rfl) h
theorem QE4 (m:List TOp') (cuts:List Int) (s:Int) (h :
 (zif ((!(Zg m cuts))||(!(m_in s (0:Int) (cuts.length:Int)))) (K (Qcv ((0:Int),(0:Int)))) (zif (decide (s>(0:Int))) (((0:Int)≤w64 (s-(1:Int))∧Int.toNat (w64 (s-(1:Int)))<cuts.length)∧(Qpm K m cuts s (gtd (0:Int) cuts (Int.toNat (w64 (s-(1:Int))))))) (Qpm K m cuts s 0)))):Hold (tawp QAl (0+0) QW4 (TQ 0 0 Qzw K) (Qd [(.a [(.c (.sl ctOp) m)]),(.c (.sl [TI]) cuts),(.c TI s)])) :=
 Hold.of (by kernel_rfl) h
theorem QH6 (m:List TOp') (cuts:List Int) (s:Int):TCon Tryz.prog 93 [(.a [(.c (.sl ctOp) m)]),(.c (.sl [TI]) cuts),(.c TI s)] (Qcv (Qt m cuts s)):=by
 refine Qj rfl fun hb=>tcg (n:=41) (sg:=Qf4.sg) Qg (TOk.cons Qov (TOk.cons JJ TOk.nil)) (by kernel_rfl) (by kernel_rfl) (QE4 _ m cuts s ?_)
 have hl_m_0:(m).length≤9223372036854775807:=hb.1.1.1
 have hl_cuts:cuts.length≤9223372036854775807:=hb.2.1.1
 refine ⟨fun h=>R_eq (by grind [Qt,m_in]),fun h=>?_⟩
 have hc:Zg m cuts=true∧0≤s∧s≤cuts.length:=by grind [m_in]
 have hl:=QaV hc.1
 have e1:(Zg m cuts&&m_in s 0 cuts.length)=true:=by grind [m_in]
 refine ⟨fun h1=>?_,fun h1=>?_⟩
 ·have h1:0<s:=by simpa using h1
  rw [Qq (x:=s-1) (by omega) (by omega),show Int.toNat (s-1)=s.toNat-1 by omega]
  refine ⟨⟨by omega,by omega⟩,(QwE (fun r'=>r'=Qcv (Qt m cuts s)) m cuts s _ ⟨fun h2=>?_,fun h2=>?_⟩).h⟩
  ·have h2:s<cuts.length:=by simpa using h2
   exact ⟨⟨by omega,by omega⟩,R_eq (by simp [Qt,e1,h1,h2])⟩
  ·exact R_eq (by simp at h2;simp [Qt,e1,h1,Int.not_lt.2 h2])
 ·have h1:¬ 0<s:=by simpa using h1
  refine (QwE (fun r'=>r'=Qcv (Qt m cuts s)) m cuts s _ ⟨fun h2=>?_,fun h2=>?_⟩).h
  ·have h2:s<cuts.length:=by simpa using h2
   exact ⟨⟨by omega,by omega⟩,R_eq (by simp [Qt,e1,h1,h2])⟩
  ·exact R_eq (by simp at h2;simp [Qt,e1,h1,Int.not_lt.2 h2])
theorem Ql6:Qe Tryz.prog Qf4:=Qh fun x _=>QH6 x.1 x.2.1 x.2.2.1
def Qcz (t:Int × Int):TRes:=zre (.tp [(zci t.1),(zci t.2)])
def Qe9:TRow:=Qf 71 [(.a [(.sl ctOp)]),(.c (.sl [TI])),(.c TI)] fun x=>(none,Qcz (Qt x.1 x.2.1 x.2.2.1))
def Qyj:List TRow:=[QiE]
def QCw:TCode :=
 (zsq [(zsq [(.reg [zmv 34 2,zmv 35 1,zle 36 35,zbi 37 .lss 34 36]),(.cond 37 (.reg [zmv 38 1,zmv 39 2,zia 40 38 39 [TI],zld 41 40 1,zmv 9 41]) .skip)]),(.reg [zmv 42 8,zmv 43 9,zmv 6 42,zmv 7 43]),.ret])
def QIz:List (Nat × Md):=zdl [1,2,8,9]
def QGP:TCode:=.wk QIz QCw
def QMl:TCode :=
 (zsq [(.reg [zop 3 (.box 26 0 1),zmv 6 (zki 0),zmv 7 (zki 0)]),(zsq [(.reg [zLd 10 3 1,zmv 11 1,zca 12 136 [10,11],zno 13 12,zmv 14 13,.grp 14 false [zmv 15 2,zbi 16 .lss 15 (zki 0)] 17 16,zmv 18 17,.grp 18 false [zmv 19 2,zmv 20 1,zle 21 20,zbi 22 .gtr 19 21] 23 22]),(.cond 23 (zsq [(.reg [zmv 6 (zki 0),zmv 7 (zki 0)]),.ret]) .skip)]),(.draw [zfa 24 3 0,zld 25 24 1,zle 26 25,zmv 8 (zki 0),zmv 9 26] []),(zsq [(.reg [zmv 27 2,zbi 28 .gtr 27 (zki 0)]),(.cond 28 (.reg [zmv 29 1,zmv 30 2,zbi 31 .sub 30 (zki 1),zia 32 29 31 [TI],zld 33 32 1,zmv 8 33]) .skip)]),QGP])
def Qr9:List (ARv × Md):=[(.t 6,.one .d),(.t 7,.one .d)]
def QPS:Qb:=TQ 0 0 Qr9 K
def QnH (m:List TOp') (cuts:List Int) (s:Int) (fro:Int):Prop:=tawp Qyj 0 QCw (QPS K) ⟨[(1,(zcs [TI] cuts)),(2,(zci s)),(8,(zci fro)),(9,(zci (m.length:Int)))],[],0⟩
theorem Qyw (m:List TOp') (cuts:List Int) (s:Int) (fro:Int) (h :
 (zif (decide (s<(cuts.length:Int))) (((0:Int)≤s∧Int.toNat s<cuts.length)∧K (Qcz (fro,(gtd (0:Int) cuts (Int.toNat s))))) (K (Qcz (fro,(m.length:Int)))))):Hold (QnH K m cuts s fro) :=
 Hold.of (by kernel_rfl) h
theorem QFl (m:List TOp') (cuts:List Int) (s:Int) (h :
 (zif (((!(Zg m cuts))||(decide (s<(0:Int))))||(decide (s>(cuts.length:Int)))) (K (Qcz ((0:Int),(0:Int)))) (zif (decide (s>(0:Int))) (((0:Int)≤w64 (s-(1:Int))∧Int.toNat (w64 (s-(1:Int)))<cuts.length)∧(QnH K m cuts s (gtd (0:Int) cuts (Int.toNat (w64 (s-(1:Int))))))) (QnH K m cuts s 0)))):Hold (tawp Qyj (0+0) QMl (TQ 0 0 Qr9 K) (Qd [(.a [(.c (.sl ctOp) m)]),(.c (.sl [TI]) cuts),(.c TI s)])) :=
 Hold.of (by kernel_rfl) h
theorem QFe (m:List TOp') (cuts:List Int) (s:Int):TCon Tryz.prog 71 [(.a [(.c (.sl ctOp) m)]),(.c (.sl [TI]) cuts),(.c TI s)] (Qcz (Qt m cuts s)):=by
 refine Qj rfl fun hb=>tcg (n:=44) (sg:=Qe9.sg) Qg (TOk.cons Qxu TOk.nil) (by kernel_rfl) (by kernel_rfl) (QFl _ m cuts s ?_)
 have hl_m_0:(m).length≤9223372036854775807:=hb.1.1.1
 have hl_cuts:cuts.length≤9223372036854775807:=hb.2.1.1
 refine ⟨fun h=>R_eq (by grind [Qt,m_in]),fun h=>?_⟩
 have hc:Zg m cuts=true∧0≤s∧s≤cuts.length:=by grind [m_in]
 have hl:=QaV hc.1
 have e1:(Zg m cuts&&m_in s 0 cuts.length)=true:=by grind [m_in]
 refine ⟨fun h1=>?_,fun h1=>?_⟩
 ·have h1:0<s:=by simpa using h1
  rw [Qq (x:=s-1) (by omega) (by omega),show Int.toNat (s-1)=s.toNat-1 by omega]
  refine ⟨⟨by omega,by omega⟩,(Qyw (fun r'=>r'=Qcz (Qt m cuts s)) m cuts s _ ⟨fun h2=>?_,fun h2=>?_⟩).h⟩
  ·have h2:s<cuts.length:=by simpa using h2
   exact ⟨⟨by omega,by omega⟩,R_eq (by simp [Qt,e1,h1,h2])⟩
  ·exact R_eq (by simp at h2;simp [Qt,e1,h1,Int.not_lt.2 h2])
 ·have h1:¬ 0<s:=by simpa using h1
  refine (Qyw (fun r'=>r'=Qcz (Qt m cuts s)) m cuts s _ ⟨fun h2=>?_,fun h2=>?_⟩).h
  ·have h2:s<cuts.length:=by simpa using h2
   exact ⟨⟨by omega,by omega⟩,R_eq (by simp [Qt,e1,h1,h2])⟩
  ·exact R_eq (by simp at h2;simp [Qt,e1,h1,Int.not_lt.2 h2])
theorem QoI:Qe Tryz.prog Qe9:=Qh fun x _=>QFe x.1 x.2.1 x.2.2.1
def Qjo (t:Int):TRes:=zre (zci t)
def QoO:TRow:=Qf 81 [(.a QV)] fun x=>(none,Qjo (QO x.1))
def QGB:List TRow:=[QfM]
def QN0:TCode :=
 (zsq [(.reg [zop 1 (.box 30 0 6),zmv 2 (zki 0)]),(zsq [(.reg [zfa 3 1 0,zLd 4 3 1,zfa 5 1 1,zld 6 5 1,zca 7 76 [4,6],zno 8 7]),(.cond 8 (zsq [(.reg [zmv 2 (zki 0)]),.ret]) .skip)]),(.reg [zfa 9 1 1,zld 10 9 1,zle 11 10,zbi 12 .add 11 (zki 1),zmv 2 12]),.ret])
def QJB:List (ARv × Md):=[(.t 2,.one .d)]
theorem QRn (c:Qo) (h :
 (zif (!(Zg c.1 c.2.1)) (K (Qjo (0:Int))) (K (Qjo (w64 (((c.2.1).length:Int)+(1:Int))))))):Hold (tawp QGB (0+0) QN0 (TQ 0 0 QJB K) (Qd [(.a (Tup.cells QV c))])) :=
 Hold.of (by kernel_rfl) h
theorem QS9 (c:Qo):TCon Tryz.prog 81 [(.a (Tup.cells QV c))] (Qjo (QO c)):=by
 refine Qj rfl fun hb=>tcg (n:=13) (sg:=QoO.sg) Qg (TOk.cons Qov TOk.nil) (by kernel_rfl) (by kernel_rfl) (QRn _ c ?_)
 have hl_c_0:(c.1).length≤9223372036854775807:=hb.1.1.1
 have hl_c_1:(c.2.1).length≤9223372036854775807:=hb.1.2.1.1
 have hl_c_3:(c.2.2.2.1).length≤9223372036854775807:=hb.1.2.2.2.1.1
 have hl_c_4:(c.2.2.2.2.1).length≤9223372036854775807:=hb.1.2.2.2.2.1.1
 have hl_c_5:(c.2.2.2.2.2).length≤9223372036854775807:=hb.1.2.2.2.2.2.1.1
 grind [QO]
theorem QOd:Qe Tryz.prog QoO:=Qh fun x _=>QS9 x.1
def Qif (t:Int):TRes:=zre (zci t)
def QeE:TRow:=Qf 59 [(.a QV)] fun x=>(none,Qif (QO x.1))
def QWs:List TRow:=[QiE]
def QMH:TCode :=
 (zsq [(.reg [zop 1 (.box 30 0 6),zmv 2 (zki 0)]),(zsq [(.reg [zfa 3 1 0,zLd 4 3 1,zfa 5 1 1,zld 6 5 1,zca 7 136 [4,6],zno 8 7]),(.cond 8 (zsq [(.reg [zmv 2 (zki 0)]),.ret]) .skip)]),(.reg [zfa 9 1 1,zld 10 9 1,zle 11 10,zbi 12 .add 11 (zki 1),zmv 2 12]),.ret])
def QTj:List (ARv × Md):=[(.t 2,.one .d)]
theorem QHC (c:Qo) (h :
 (zif (!(Zg c.1 c.2.1)) (K (Qif (0:Int))) (K (Qif (w64 (((c.2.1).length:Int)+(1:Int))))))):Hold (tawp QWs (0+0) QMH (TQ 0 0 QTj K) (Qd [(.a (Tup.cells QV c))])) :=
 Hold.of (by kernel_rfl) h
theorem QXo (c:Qo):TCon Tryz.prog 59 [(.a (Tup.cells QV c))] (Qif (QO c)):=by
 refine Qj rfl fun hb=>tcg (n:=13) (sg:=QeE.sg) Qg (TOk.cons Qxu TOk.nil) (by kernel_rfl) (by kernel_rfl) (QHC _ c ?_)
 have hl_c_0:(c.1).length≤9223372036854775807:=hb.1.1.1
 have hl_c_1:(c.2.1).length≤9223372036854775807:=hb.1.2.1.1
 have hl_c_3:(c.2.2.2.1).length≤9223372036854775807:=hb.1.2.2.2.1.1
 have hl_c_4:(c.2.2.2.2.1).length≤9223372036854775807:=hb.1.2.2.2.2.1.1
 have hl_c_5:(c.2.2.2.2.2).length≤9223372036854775807:=hb.1.2.2.2.2.2.1.1
 grind [QO]
theorem Qi8:Qe Tryz.prog QeE:=Qh fun x _=>QXo x.1
end
end Go.Proofs.YtjbdljkhbglnhaaGreat.Am

