/- -/
import Derived.Test.YtjbdljkhbglnhaaGreatZBP4
import Derived.Test.YtjbdljkhbglnhaaGreatZBP1
namespace Go.Proofs.YtjbdljkhbglnhaaGreat.Am
open Go Go.RowKit Go.Proofs.YtjbdljkhbglnhaaGreat
set_option linter.all false
noncomputable section
variable (K:TRes→Prop)
def Qne (t:Bool):TRes:=zre (zcb t)
def Qkr:TRow:=Qi 167 [(.a [(.sl ctOp)]),(.a QB)] fun x=>(none,Qne (Jd x.1 x.2.1))
def QDm:List TRow:=[JV,QdK,JA,QdI]
def QIF:TCode :=
 (zsq [(.reg [zop 2 (.box 26 0 1),zop 3 (.box 108 1 2),zmv 4 (zkb false)]),(.draw [zLd 5 2 1,zca 6 131 [5],zmv 7 6,.grp 7 true [zfa 8 3 0,zld 9 8 1,zLd 10 2 1,zca 11 115 [10],zca 12 114 [9,11]] 13 12,zmv 14 13,.grp 14 true [zfa 15 3 1,zld 16 15 1,zLd 17 2 1,zca 18 117 [17],zca 19 114 [16,18]] 20 19,zmv 4 20] [(3,6),(4,6),(10,13),(11,13)]),.ret])
def QBB:List (ARv × Md):=[(.t 4,.one .d)]
theorem QLr (m:List TOp') (p:Qg) (h :
 K (Qne (((QN m)&&(Qs p.1 (QZ m)))&&(Qs p.2 (Q1 m))))):Hold (tawp QDm (0+0) QIF (TQ 0 0 QBB K) (Qf [(.a [(.c (.sl ctOp) m)]),(.a [(.c (.sl [TI]) p.1),(.c (.sl [TI]) p.2)])])) :=
 Hold.of (by kernel_rfl) h
theorem QCn (m:List TOp') (p:Qg):TCon Tryz.prog 167 [(.a [(.c (.sl ctOp) m)]),(.a [(.c (.sl [TI]) p.1),(.c (.sl [TI]) p.2)])] (Qne (Jd m p)):=by
 refine Qr rfl fun hb=>tcg (n:=21) (sg:=Qkr.sg) Qk (TOk.cons QaP (TOk.cons Qg6 (TOk.cons Qac (TOk.cons QiW TOk.nil)))) (by kernel_rfl) (by kernel_rfl) (QLr _ m p ?_)
 have hl_m_0:(m).length≤9223372036854775807:=hb.1.1.1
 have hl_p_0:(p.1).length≤9223372036854775807:=hb.2.1.1.1
 have hl_p_1:(p.2).length≤9223372036854775807:=hb.2.1.2.1.1
 exact R_eq rfl
theorem QOf:Qj Tryz.prog Qkr:=Qm fun x _=>QCn x.1 x.2.1
def QbU (t:Bool):TRes:=zre (zcb t)
def Qm1:TRow:=Qi 75 [(.a [(.sl ctOp)]),(.c (.sl QB))] fun x=>(none,QbU (ZY x.1 x.2.1))
def QnS:List TRow:=[Qcq,J2,Qkk,Qg9,Qga]
def Qwu:TCode :=
 (zsq [(zsq [(.reg [zmv 15 5,zmv 16 1,zle 17 16,zbi 18 .lss 15 17]),(.cond 18 .skip (.exit 0))]),(.block 1 (zsq [(.draw [zmv 21 1,zmv 22 5,zia 23 21 22 QB,zfa 24 23 0,zld 25 24 1,zca 26 42 [25],zno 27 26,zmv 28 27,.grp 28 false [zmv 29 1,zmv 30 5,zia 31 29 30 QB,zfa 32 31 1,zld 33 32 1,zca 34 42 [33],zno 35 34] 36 35,zmv 37 36,.grp 37 false [zmv 38 1,zmv 39 5,zia 40 38 39 QB,zfa 41 40 0,zld 42 41 1,zle 43 42,zLd 44 2 1,zca 45 153 [44],zbi 46 .neq 43 45] 47 46,zmv 48 47,.grp 48 false [zmv 49 1,zmv 50 5,zia 51 49 50 QB,zfa 52 51 1,zld 53 52 1,zle 54 53,zLd 55 2 1,zca 56 154 [55],zbi 57 .neq 54 56] 58 57] [(19,24),(20,24),(21,24),(22,24),(30,35),(31,35),(32,35),(33,35)]),(.cond 58 (zsq [(.reg [zmv 4 (zkb false)]),.ret]) .skip)])),(.reg [zmv 19 5,zbi 20 .add 19 (zki 1),zmv 5 20])])
def QxZ:List (Nat × Md):=[(1,.one .d),(2,.b [.d]),(5,.one .d)]
def Qrb:TCode :=
 (zsq [(.reg [zmv 4 (zkb true)]),.ret])
def QHQ:TCode :=
 (zsq [(.reg [zop 2 (.box 26 0 1),zmv 4 (zkb false)]),(zsq [(.reg [zLd 6 2 1,zca 7 74 [6],zno 8 7,zmv 9 8,.grp 9 false [zmv 10 1,zle 11 10,zca 12 77 [11,(zki 1),(zki 5)],zno 13 12] 14 13]),(.cond 14 (zsq [(.reg [zmv 4 (zkb false)]),.ret]) .skip)]),(zsq [(.reg [zmv 5 (zki 0)]),(.block 0 (.loop QxZ Qwu))]),Qrb])
def Qxx:List (ARv × Md):=[(.t 4,.one .d)]
def QoE:Qb:=TQ 0 0 Qxx K
def QKw:Qb:=Qseq (tawp QnS 0 Qrb (QoE K)) (QoE K)
def QCS:Qb:=Qblk 0 (QKw K)
def QhH (m:List TOp') (b:List Qg) (i:Int):Prop:=Loop QnS 0 QxZ Qwu (QCS K) ⟨[(1,(zcs QB b)),(2,(.p 0 0 0)),(5,(zci i))],[(0,(.box [(zcs ctOp m)]))],1⟩
theorem QqM (m:List TOp') (b:List Qg) (i:Int) (h :
 (zif (decide (i<(b.length:Int))) ((((0:Int)≤i∧Int.toNat i<b.length)∧(((!(!(Q3 ((gtd Zh b (Int.toNat i)).1))))=true→((0:Int)≤i∧Int.toNat i<b.length))∧(((!((!(Q3 ((gtd Zh b (Int.toNat i)).1)))||(!(Q3 ((gtd Zh b (Int.toNat i)).2)))))=true→((0:Int)≤i∧Int.toNat i<b.length))∧((!(((!(Q3 ((gtd Zh b (Int.toNat i)).1)))||(!(Q3 ((gtd Zh b (Int.toNat i)).2))))||((((gtd Zh b (Int.toNat i)).1).length:Int) != (QZ m))))=true→((0:Int)≤i∧Int.toNat i<b.length)))))∧(zif ((((!(Q3 ((gtd Zh b (Int.toNat i)).1)))||(!(Q3 ((gtd Zh b (Int.toNat i)).2))))||((((gtd Zh b (Int.toNat i)).1).length:Int) != (QZ m)))||((((gtd Zh b (Int.toNat i)).2).length:Int) != (Q1 m))) (K (QbU false)) (QhH K m b (w64 (i+(1:Int)))))) (K (QbU true)))):QhH K m b i :=
 Loop.of (by kernel_rfl) h
theorem QML (m:List TOp') (b:List Qg) (h :
 (zif ((!(QN m))||(!(m_in (b.length:Int) (1:Int) (5:Int)))) (K (QbU false)) (QhH K m b 0))):Hold (tawp QnS (0+0) QHQ (TQ 0 0 Qxx K) (Qf [(.a [(.c (.sl ctOp) m)]),(.c (.sl QB) b)])) :=
 Hold.of (by kernel_rfl) h
theorem QD7 (m:List TOp') (b:List Qg):TCon Tryz.prog 75 [(.a [(.c (.sl ctOp) m)]),(.c (.sl QB) b)] (QbU (ZY m b)):=by
 refine Qr rfl fun hb=>tcg (n:=59) (sg:=Qm1.sg) Qk (TOk.cons Qfh (TOk.cons QaM (TOk.cons QNE (TOk.cons Qx1 (TOk.cons Qud TOk.nil))))) (by kernel_rfl) (by kernel_rfl) (QML _ m b ?_)
 have hl_m_0:(m).length≤9223372036854775807:=hb.1.1.1
 have hl_b:b.length≤9223372036854775807:=hb.2.1.1
 refine ⟨fun h=>R_eq (by grind [ZY,m_in]),fun h=>?_⟩
 refine Zt b (fun r k=>r.all (Jd m)=b.all (Jd m)→QhH (fun r'=>r'=QbU (ZY m b)) m b k) ?_ ?_ rfl
 ·intro he
  refine QqM (fun r'=>r'=QbU (ZY m b)) m b _ ⟨fun h=>by simp at h,fun _=>?_⟩
  grind [ZY]
 ·intro k x r hk hlt hg ih he
  refine QqM (fun r'=>r'=QbU (ZY m b)) m b _ ⟨fun _=>?_,fun h=>by simp at h;omega⟩
  rw [Int.toNat_natCast,hg,Qp (x:=(k:Int)+1) (by omega) (by omega)]
  have e:(!(Q3 x.1)||!(Q3 x.2)||((x.1.length:Int) != QZ m)||((x.2.length:Int) != Q1 m)) = !Jd m x:=by grind [Jd,Qs]
  rw [e]
  grind [ZY]
theorem QzI:Qj Tryz.prog Qm1:=Qm fun x _=>QD7 x.1 x.2.1
def QbC (t:Bool):TRes:=zre (zcb t)
def QlA:TRow:=Qi 87 [(.a [(.sl ctOp)]),(.c (.sl QB))] fun x=>(none,QbC (ZY x.1 x.2.1))
def Qj2:List TRow:=[JV,Qkr]
def Qxl:TCode :=
 (zsq [(.reg [zbi 23 .lss 22 21]),(.cond 23 .skip (.exit 0)),(.block 1 (zsq [(.reg [zia 24 20 22 QB,zLd 25 24 2,zop 6 (.new 108 (z0s QB)),zst 6 25 2]),(.reg [zLd 26 2 1,zLd 27 6 2,zca 28 167 [26,27],zno 29 28]),(.cond 29 (zsq [(.reg [zmv 4 (zkb false)]),.ret]) .skip)])),(.reg [zbi 30 .add 22 (zki 1),zmv 22 30])])
def Qq4:List (Nat × Md):=[(2,.b [.d]),(20,.one .d),(21,.one .d),(22,.one .d)]
def QvC:TCode :=
 (zsq [(.reg [zmv 4 (zkb true)]),.ret])
def QC8:TCode :=
 (zsq [(.reg [zop 2 (.box 26 0 1),zmv 4 (zkb false)]),(zsq [(.reg [zLd 7 2 1,zca 8 131 [7],zno 9 8,zmv 10 9,.grp 10 false [zmv 11 1,zle 12 11,zbi 13 .lss 12 (zki 1)] 14 13,zmv 15 14,.grp 15 false [zmv 16 1,zle 17 16,zbi 18 .gtr 17 (zki 5)] 19 18]),(.cond 19 (zsq [(.reg [zmv 4 (zkb false)]),.ret]) .skip)]),(zsq [(.reg [zmv 20 1,zle 21 20,zmv 22 (zki 0)]),(.block 0 (.loop Qq4 Qxl))]),QvC])
def Qu9:List (ARv × Md):=[(.t 4,.one .d)]
def Qo9:Qb:=TQ 0 0 Qu9 K
def QHs:Qb:=Qseq (tawp Qj2 0 QvC (Qo9 K)) (Qo9 K)
def QC0:Qb:=Qblk 0 (QHs K)
def Qnr (m:List TOp') (b:List Qg) (x:Int):Prop:=Loop Qj2 0 Qq4 Qxl (QC0 K) ⟨[(2,(.p 0 0 0)),(20,(zcs QB b)),(21,(zci (b.length:Int))),(22,(zci x))],[(0,(.box [(zcs ctOp m)]))],1⟩
theorem QNQ (m:List TOp') (b:List Qg) (x:Int) (h :
 (zif (decide (x<(b.length:Int))) (((0:Int)≤x∧Int.toNat x<b.length)∧(zif (!(Jd m (gtd Zh b (Int.toNat x)))) (K (QbC false)) (Qnr K m b (w64 (x+(1:Int)))))) (K (QbC true)))):Qnr K m b x :=
 Loop.of (by kernel_rfl) h
theorem QNy (m:List TOp') (b:List Qg) (h :
 (zif (((!(QN m))||(decide ((b.length:Int)<(1:Int))))||(decide ((b.length:Int)>(5:Int)))) (K (QbC false)) (Qnr K m b 0))):Hold (tawp Qj2 (0+0) QC8 (TQ 0 0 Qu9 K) (Qf [(.a [(.c (.sl ctOp) m)]),(.c (.sl QB) b)])) :=
 Hold.of (by kernel_rfl) h
theorem QKk (m:List TOp') (b:List Qg):TCon Tryz.prog 87 [(.a [(.c (.sl ctOp) m)]),(.c (.sl QB) b)] (QbC (ZY m b)):=by
 refine Qr rfl fun hb=>tcg (n:=31) (sg:=QlA.sg) Qk (TOk.cons QaP (TOk.cons QOf TOk.nil)) (by kernel_rfl) (by kernel_rfl) (QNy _ m b ?_)
 have hl_m_0:(m).length≤9223372036854775807:=hb.1.1.1
 have hl_b:b.length≤9223372036854775807:=hb.2.1.1
 refine ⟨fun h=>R_eq (by grind [ZY,m_in]),fun h=>?_⟩
 exact Qae (Q:=fun x=>QbC x=QbC (ZY m b)) (p:=Jd m) (c:=fun x=>!(Jd m x)) Zh hl_b (fun _=>rfl) (fun i h=>QNQ (fun r'=>r'=QbC (ZY m b)) m b i h) (R_eq (by grind [ZY,m_in]))
theorem Qz5:Qj Tryz.prog QlA:=Qm fun x _=>QKk x.1 x.2.1
def Qb9 (t:Bool):TRes:=zre (zcb t)
def QeN:TRow:=Qi 76 [(.a [(.sl ctOp)]),(.c (.sl [TI]))] fun x=>(none,Qb9 (Q4 x.1 x.2.1))
def Qkl:List TRow:=[J2,Qcq]
def Qw4:TCode :=
 (zsq [(zsq [(.reg [zmv 6 5,zmv 7 1,zle 8 7,zbi 9 .lss 6 8]),(.cond 9 .skip (.exit 0))]),(.block 1 (zsq [(.draw [zmv 12 1,zmv 13 5,zia 14 12 13 [TI],zld 15 14 1,zfa 16 2 0,zld 17 16 1,zle 18 17,zbi 19 .sub 18 (zki 1),zca 20 77 [15,(zki 1),19],zno 21 20,zmv 22 21,.grp 22 false [zmv 23 5,zbi 24 .gtr 23 (zki 0),zmv 25 24,.grp 25 true [zmv 26 1,zmv 27 5,zia 28 26 27 [TI],zld 29 28 1,zmv 30 1,zmv 31 5,zbi 32 .sub 31 (zki 1),zia 33 30 32 [TI],zld 34 33 1,zbi 35 .leq 29 34] 36 35] 37 36] []),(.cond 37 (zsq [(.reg [zmv 4 (zkb false)]),.ret]) .skip)])),(.reg [zmv 10 5,zbi 11 .add 10 (zki 1),zmv 5 11])])
def QqF:List (Nat × Md):=[(1,.one .d),(2,.b [.d]),(5,.one .d)]
def Qq5:TCode :=
 (zsq [(.reg [zLd 38 2 1,zca 39 74 [38],zmv 4 39]),.ret])
def QJ0:TCode :=
 (zsq [(.reg [zop 2 (.box 26 0 1),zmv 4 (zkb false)]),(zsq [(.reg [zmv 5 (zki 0)]),(.block 0 (.loop QqF Qw4))]),Qq5])
def QrH:List (ARv × Md):=[(.t 4,.one .d)]
def QyG:Qb:=TQ 0 0 QrH K
def QHf:Qb:=Qseq (tawp Qkl 0 Qq5 (QyG K)) (QyG K)
def QJn:Qb:=Qblk 0 (QHf K)
def Qij (m:List TOp') (cuts:List Int) (i:Int):Prop:=Loop Qkl 0 QqF Qw4 (QJn K) ⟨[(1,(zcs [TI] cuts)),(2,(.p 0 0 0)),(5,(zci i))],[(0,(.box [(zcs ctOp m)]))],1⟩
theorem Qvk (m:List TOp') (cuts:List Int) (i:Int) (h :
 (zif (decide (i<(cuts.length:Int))) ((((0:Int)≤i∧Int.toNat i<cuts.length)∧((!(!(m_in (gtd (0:Int) cuts (Int.toNat i)) (1:Int) (w64 ((m.length:Int)-(1:Int))))))=true→((decide (i>(0:Int)))=true→(((0:Int)≤i∧Int.toNat i<cuts.length)∧((0:Int)≤w64 (i-(1:Int))∧Int.toNat (w64 (i-(1:Int)))<cuts.length)))))∧(zif ((!(m_in (gtd (0:Int) cuts (Int.toNat i)) (1:Int) (w64 ((m.length:Int)-(1:Int)))))||((decide (i>(0:Int)))&&(decide ((gtd (0:Int) cuts (Int.toNat i))≤(gtd (0:Int) cuts (Int.toNat (w64 (i-(1:Int))))))))) (K (Qb9 false)) (Qij K m cuts (w64 (i+(1:Int)))))) (K (Qb9 (QN m))))):Qij K m cuts i :=
 Loop.of (by kernel_rfl) h
theorem QB0 (m:List TOp') (cuts:List Int) (h :
 (Qij K m cuts 0)):Hold (tawp Qkl (0+0) QJ0 (TQ 0 0 QrH K) (Qf [(.a [(.c (.sl ctOp) m)]),(.c (.sl [TI]) cuts)])) :=
 Hold.of (by kernel_rfl) h
theorem QOZ (m:List TOp') (cuts:List Int):TCon Tryz.prog 76 [(.a [(.c (.sl ctOp) m)]),(.c (.sl [TI]) cuts)] (Qb9 (Q4 m cuts)):=by
 refine Qr rfl fun hb=>tcg (n:=40) (sg:=QeN.sg) Qk (TOk.cons QaM (TOk.cons Qfh TOk.nil)) (by kernel_rfl) (by kernel_rfl) (QB0 _ m cuts ?_)
 have hl_m_0:(m).length≤9223372036854775807:=hb.1.1.1
 have hl_cuts:cuts.length≤9223372036854775807:=hb.2.1.1
 refine Zt cuts (fun r k=>ZT (m.length-1) (QaE cuts k) r=ZT (m.length-1) none cuts→Qij (fun r'=>r'=Qb9 (Q4 m cuts)) m cuts k) ?_ ?_ rfl
 ·intro he
  refine Qvk (fun r'=>r'=Qb9 (Q4 m cuts)) m cuts _ ⟨fun h=>by simp at h,fun _=>?_⟩
  grind [ZT,Q4]
 ·intro k x r hk hlt hg ih he
  refine Qvk (fun r'=>r'=Qb9 (Q4 m cuts)) m cuts _ ⟨fun _=>?_,fun h=>by simp at h;omega⟩
  rw [Int.toNat_natCast,hg,Qp (x:=(k:Int)+1) (by omega) (by omega),Qp (x:=(m.length:Int)-1) (by omega) (by omega)]
  have ep:QaE cuts (k+1)=some x:=by simp [QaE,hg]
  rw [ep] at ih
  rcases Nat.eq_zero_or_pos k with h0 | h0
  ·subst h0
   simp only [ZT,QaE,if_true] at he
   grind [Q4]
  ·have e2:=Qcd h0 (by omega:k≤9223372036854775807)
   simp only [ZT,QaE,if_neg (Nat.ne_of_gt h0)] at he
   grind [Q4]
theorem QkT:Qj Tryz.prog QeN:=Qm fun x _=>QOZ x.1 x.2.1
def Qb2 (t:Bool):TRes:=zre (zcb t)
def QgR:TRow:=Qi 136 [(.a [(.sl ctOp)]),(.c (.sl [TI]))] fun x=>(none,Qb2 (Q4 x.1 x.2.1))
def QmX:List TRow:=[JV]
def Qtl:TCode :=
 (zsq [(.reg [zbi 13 .lss 12 11]),(.cond 13 .skip (.exit 0)),(.block 1 (zsq [(.reg [zmv 14 12,zia 15 10 12 [TI],zld 16 15 1,zmv 5 14,zmv 6 16]),(.reg [zmv 17 6,zbi 18 .lss 17 (zki 1),zmv 19 18,.grp 19 false [zmv 20 6,zfa 21 2 0,zld 22 21 1,zle 23 22,zbi 24 .sub 23 (zki 1),zbi 25 .gtr 20 24] 26 25,zmv 27 26,.grp 27 false [zmv 28 5,zbi 29 .gtr 28 (zki 0),zmv 30 29,.grp 30 true [zmv 31 1,zmv 32 5,zbi 33 .sub 32 (zki 1),zia 34 31 33 [TI],zld 35 34 1,zmv 36 6,zbi 37 .geq 35 36] 38 37] 39 38]),(.cond 39 (zsq [(.reg [zmv 4 (zkb false)]),.ret]) .skip)])),(.reg [zbi 40 .add 12 (zki 1),zmv 12 40])])
def QyH:List (Nat × Md):=[(1,.one .d),(2,.b [.d]),(10,.one .d),(11,.one .d),(12,.one .d)]
def QsN:TCode :=
 (zsq [(.reg [zmv 4 (zkb true)]),.ret])
def QCX:TCode :=
 (zsq [(.reg [zop 2 (.box 26 0 1),zmv 4 (zkb false)]),(zsq [(.reg [zLd 7 2 1,zca 8 131 [7],zno 9 8]),(.cond 9 (zsq [(.reg [zmv 4 (zkb false)]),.ret]) .skip)]),(zsq [(.reg [zmv 10 1,zle 11 10,zmv 12 (zki 0)]),(.block 0 (.loop QyH Qtl))]),QsN])
def QqC:List (ARv × Md):=[(.t 4,.one .d)]
def QuX:Qb:=TQ 0 0 QqC K
def QEp:Qb:=Qseq (tawp QmX 0 QsN (QuX K)) (QuX K)
def QGA:Qb:=Qblk 0 (QEp K)
def Qgv (m:List TOp') (cuts:List Int) (x:Int):Prop:=Loop QmX 0 QyH Qtl (QGA K) ⟨[(1,(zcs [TI] cuts)),(2,(.p 0 0 0)),(10,(zcs [TI] cuts)),(11,(zci (cuts.length:Int))),(12,(zci x))],[(0,(.box [(zcs ctOp m)]))],1⟩
theorem QxD (m:List TOp') (cuts:List Int) (x:Int) (h :
 (zif (decide (x<(cuts.length:Int))) (((0:Int)≤x∧Int.toNat x<cuts.length)∧(((!((decide ((gtd (0:Int) cuts (Int.toNat x))<(1:Int)))||(decide ((gtd (0:Int) cuts (Int.toNat x))>(w64 ((m.length:Int)-(1:Int)))))))=true→((decide (x>(0:Int)))=true→((0:Int)≤w64 (x-(1:Int))∧Int.toNat (w64 (x-(1:Int)))<cuts.length)))∧(zif (((decide ((gtd (0:Int) cuts (Int.toNat x))<(1:Int)))||(decide ((gtd (0:Int) cuts (Int.toNat x))>(w64 ((m.length:Int)-(1:Int))))))||((decide (x>(0:Int)))&&(decide ((gtd (0:Int) cuts (Int.toNat (w64 (x-(1:Int)))))≥(gtd (0:Int) cuts (Int.toNat x)))))) (K (Qb2 false)) (Qgv K m cuts (w64 (x+(1:Int))))))) (K (Qb2 true)))):Qgv K m cuts x :=
 Loop.of (by kernel_rfl) h
theorem QOW (m:List TOp') (cuts:List Int) (h :
 (zif (!(QN m)) (K (Qb2 false)) (Qgv K m cuts 0))):Hold (tawp QmX (0+0) QCX (TQ 0 0 QqC K) (Qf [(.a [(.c (.sl ctOp) m)]),(.c (.sl [TI]) cuts)])) :=
 Hold.of (by kernel_rfl) h
theorem QAb (m:List TOp') (cuts:List Int):TCon Tryz.prog 136 [(.a [(.c (.sl ctOp) m)]),(.c (.sl [TI]) cuts)] (Qb2 (Q4 m cuts)):=by
 refine Qr rfl fun hb=>tcg (n:=41) (sg:=QgR.sg) Qk (TOk.cons QaP TOk.nil) (by kernel_rfl) (by kernel_rfl) (QOW _ m cuts ?_)
 have hl_m_0:(m).length≤9223372036854775807:=hb.1.1.1
 have hl_cuts:cuts.length≤9223372036854775807:=hb.2.1.1
 refine ⟨fun h=>R_eq (by grind [Q4]),fun h=>?_⟩
 refine Zt cuts (fun r k=>ZT (m.length-1) (QaE cuts k) r=ZT (m.length-1) none cuts→Qgv (fun r'=>r'=Qb2 (Q4 m cuts)) m cuts k) ?_ ?_ rfl
 ·intro he
  refine QxD (fun r'=>r'=Qb2 (Q4 m cuts)) m cuts _ ⟨fun h=>by simp at h,fun _=>?_⟩
  grind [ZT,Q4]
 ·intro k x r hk hlt hg ih he
  refine QxD (fun r'=>r'=Qb2 (Q4 m cuts)) m cuts _ ⟨fun _=>?_,fun h=>by simp at h;omega⟩
  rw [Int.toNat_natCast,hg,Qp (x:=(k:Int)+1) (by omega) (by omega),Qp (x:=(m.length:Int)-1) (by omega) (by omega)]
  have ep:QaE cuts (k+1)=some x:=by simp [QaE,hg]
  rw [ep] at ih
  rcases Nat.eq_zero_or_pos k with h0 | h0
  ·subst h0
   simp only [ZT,QaE,if_true,m_in] at he
   grind [Q4]
  ·have e2:=Qcd h0 (by omega:k≤9223372036854775807)
   simp only [ZT,QaE,if_neg (Nat.ne_of_gt h0),m_in] at he
   grind [Q4]
theorem Qsp:Qj Tryz.prog QgR:=Qm fun x _=>QAb x.1 x.2.1
def Qcs (t:Int × Int):TRes:=zre (.tp [(zci t.1),(zci t.2)])
def QeY:TRow:=Qi 93 [(.a [(.sl ctOp)]),(.c (.sl [TI])),(.c TI)] fun x=>(none,Qcs (Qq x.1 x.2.1 x.2.2.1))
def QtR:List TRow:=[QeN,J2]
def Qpa:TCode :=
 (zsq [(zsq [(.reg [zmv 31 2,zmv 32 1,zle 33 32,zbi 34 .lss 31 33]),(.cond 34 (.reg [zmv 35 1,zmv 36 2,zia 37 35 36 [TI],zld 38 37 1,zmv 9 38]) .skip)]),(.reg [zmv 39 8,zmv 40 9,zmv 6 39,zmv 7 40]),.ret])
def QKv:List (Nat × Md):=zdl [1,2,8,9]
def QF5:TCode:=.wk QKv Qpa
def QFE:TCode :=
 (zsq [(.reg [zop 3 (.box 26 0 1),zmv 6 (zki 0),zmv 7 (zki 0)]),(zsq [(.reg [zLd 10 3 1,zmv 11 1,zca 12 76 [10,11],zno 13 12,zmv 14 13,.grp 14 false [zmv 15 2,zmv 16 1,zle 17 16,zca 18 77 [15,(zki 0),17],zno 19 18] 20 19]),(.cond 20 (zsq [(.reg [zmv 6 (zki 0),zmv 7 (zki 0)]),.ret]) .skip)]),(.reg [zmv 8 (zki 0)]),(.reg [zfa 21 3 0,zld 22 21 1,zle 23 22,zmv 9 23]),(zsq [(.reg [zmv 24 2,zbi 25 .gtr 24 (zki 0)]),(.cond 25 (.reg [zmv 26 1,zmv 27 2,zbi 28 .sub 27 (zki 1),zia 29 26 28 [TI],zld 30 29 1,zmv 8 30]) .skip)]),QF5])
def Qvi:List (ARv × Md):=[(.t 6,.one .d),(.t 7,.one .d)]
def QEj:Qb:=TQ 0 0 Qvi K
def Qkd (m:List TOp') (cuts:List Int) (s:Int) (fro:Int):Prop:=tawp QtR 0 Qpa (QEj K) ⟨[(1,(zcs [TI] cuts)),(2,(zci s)),(8,(zci fro)),(9,(zci (m.length:Int)))],[],0⟩
theorem QwK (m:List TOp') (cuts:List Int) (s:Int) (fro:Int) (h :
 (zif (decide (s<(cuts.length:Int))) (((0:Int)≤s∧Int.toNat s<cuts.length)∧K (Qcs (fro,(gtd (0:Int) cuts (Int.toNat s))))) (K (Qcs (fro,(m.length:Int)))))):Hold (Qkd K m cuts s fro) :=
 Hold.of (by kernel_rfl) h
theorem QOz (m:List TOp') (cuts:List Int) (s:Int) (h :
 (zif ((!(Q4 m cuts))||(!(m_in s (0:Int) (cuts.length:Int)))) (K (Qcs ((0:Int),(0:Int)))) (zif (decide (s>(0:Int))) (((0:Int)≤w64 (s-(1:Int))∧Int.toNat (w64 (s-(1:Int)))<cuts.length)∧(Qkd K m cuts s (gtd (0:Int) cuts (Int.toNat (w64 (s-(1:Int))))))) (Qkd K m cuts s 0)))):Hold (tawp QtR (0+0) QFE (TQ 0 0 Qvi K) (Qf [(.a [(.c (.sl ctOp) m)]),(.c (.sl [TI]) cuts),(.c TI s)])) :=
 Hold.of (by kernel_rfl) h
theorem QN0 (m:List TOp') (cuts:List Int) (s:Int):TCon Tryz.prog 93 [(.a [(.c (.sl ctOp) m)]),(.c (.sl [TI]) cuts),(.c TI s)] (Qcs (Qq m cuts s)):=by
 refine Qr rfl fun hb=>tcg (n:=41) (sg:=QeY.sg) Qk (TOk.cons QkT (TOk.cons QaM TOk.nil)) (by kernel_rfl) (by kernel_rfl) (QOz _ m cuts s ?_)
 have hl_m_0:(m).length≤9223372036854775807:=hb.1.1.1
 have hl_cuts:cuts.length≤9223372036854775807:=hb.2.1.1
 refine ⟨fun h=>R_eq (by grind [Qq,m_in]),fun h=>?_⟩
 have hc:Q4 m cuts=true∧0≤s∧s≤cuts.length:=by grind [m_in]
 have hl:=Qay hc.1
 have e1:(Q4 m cuts&&m_in s 0 cuts.length)=true:=by grind [m_in]
 refine ⟨fun h1=>?_,fun h1=>?_⟩
 ·have h1:0<s:=by simpa using h1
  rw [Qp (x:=s-1) (by omega) (by omega),show Int.toNat (s-1)=s.toNat-1 by omega]
  refine ⟨⟨by omega,by omega⟩,(QwK (fun r'=>r'=Qcs (Qq m cuts s)) m cuts s _ ⟨fun h2=>?_,fun h2=>?_⟩).h⟩
  ·have h2:s<cuts.length:=by simpa using h2
   exact ⟨⟨by omega,by omega⟩,R_eq (by simp [Qq,e1,h1,h2])⟩
  ·exact R_eq (by simp at h2;simp [Qq,e1,h1,Int.not_lt.2 h2])
 ·have h1:¬ 0<s:=by simpa using h1
  refine (QwK (fun r'=>r'=Qcs (Qq m cuts s)) m cuts s _ ⟨fun h2=>?_,fun h2=>?_⟩).h
  ·have h2:s<cuts.length:=by simpa using h2
   exact ⟨⟨by omega,by omega⟩,R_eq (by simp [Qq,e1,h1,h2])⟩
  ·exact R_eq (by simp at h2;simp [Qq,e1,h1,Int.not_lt.2 h2])
theorem Qk9:Qj Tryz.prog QeY:=Qm fun x _=>QN0 x.1 x.2.1 x.2.2.1
def Qcj (t:Int × Int):TRes:=zre (.tp [(zci t.1),(zci t.2)])
def QeX:TRow:=Qi 71 [(.a [(.sl ctOp)]),(.c (.sl [TI])),(.c TI)] fun x=>(none,Qcj (Qq x.1 x.2.1 x.2.2.1))
def QtI:List TRow:=[QgR]
def QqU:TCode :=
 (zsq [(zsq [(.reg [zmv 34 2,zmv 35 1,zle 36 35,zbi 37 .lss 34 36]),(.cond 37 (.reg [zmv 38 1,zmv 39 2,zia 40 38 39 [TI],zld 41 40 1,zmv 9 41]) .skip)]),(.reg [zmv 42 8,zmv 43 9,zmv 6 42,zmv 7 43]),.ret])
def QOD:List (Nat × Md):=zdl [1,2,8,9]
def QPh:TCode:=.wk QOD QqU
def QzO:TCode :=
 (zsq [(.reg [zop 3 (.box 26 0 1),zmv 6 (zki 0),zmv 7 (zki 0)]),(zsq [(.reg [zLd 10 3 1,zmv 11 1,zca 12 136 [10,11],zno 13 12,zmv 14 13,.grp 14 false [zmv 15 2,zbi 16 .lss 15 (zki 0)] 17 16,zmv 18 17,.grp 18 false [zmv 19 2,zmv 20 1,zle 21 20,zbi 22 .gtr 19 21] 23 22]),(.cond 23 (zsq [(.reg [zmv 6 (zki 0),zmv 7 (zki 0)]),.ret]) .skip)]),(.draw [zfa 24 3 0,zld 25 24 1,zle 26 25,zmv 8 (zki 0),zmv 9 26] []),(zsq [(.reg [zmv 27 2,zbi 28 .gtr 27 (zki 0)]),(.cond 28 (.reg [zmv 29 1,zmv 30 2,zbi 31 .sub 30 (zki 1),zia 32 29 31 [TI],zld 33 32 1,zmv 8 33]) .skip)]),QPh])
def QxB:List (ARv × Md):=[(.t 6,.one .d),(.t 7,.one .d)]
def QK6:Qb:=TQ 0 0 QxB K
def QkM (m:List TOp') (cuts:List Int) (s:Int) (fro:Int):Prop:=tawp QtI 0 QqU (QK6 K) ⟨[(1,(zcs [TI] cuts)),(2,(zci s)),(8,(zci fro)),(9,(zci (m.length:Int)))],[],0⟩
theorem Qwv (m:List TOp') (cuts:List Int) (s:Int) (fro:Int) (h :
 (zif (decide (s<(cuts.length:Int))) (((0:Int)≤s∧Int.toNat s<cuts.length)∧K (Qcj (fro,(gtd (0:Int) cuts (Int.toNat s))))) (K (Qcj (fro,(m.length:Int)))))):Hold (QkM K m cuts s fro) :=
 Hold.of (by kernel_rfl) h
theorem QCJ (m:List TOp') (cuts:List Int) (s:Int) (h :
 (zif (((!(Q4 m cuts))||(decide (s<(0:Int))))||(decide (s>(cuts.length:Int)))) (K (Qcj ((0:Int),(0:Int)))) (zif (decide (s>(0:Int))) (((0:Int)≤w64 (s-(1:Int))∧Int.toNat (w64 (s-(1:Int)))<cuts.length)∧(QkM K m cuts s (gtd (0:Int) cuts (Int.toNat (w64 (s-(1:Int))))))) (QkM K m cuts s 0)))):Hold (tawp QtI (0+0) QzO (TQ 0 0 QxB K) (Qf [(.a [(.c (.sl ctOp) m)]),(.c (.sl [TI]) cuts),(.c TI s)])) :=
 Hold.of (by kernel_rfl) h
theorem QGF (m:List TOp') (cuts:List Int) (s:Int):TCon Tryz.prog 71 [(.a [(.c (.sl ctOp) m)]),(.c (.sl [TI]) cuts),(.c TI s)] (Qcj (Qq m cuts s)):=by
 refine Qr rfl fun hb=>tcg (n:=44) (sg:=QeX.sg) Qk (TOk.cons Qsp TOk.nil) (by kernel_rfl) (by kernel_rfl) (QCJ _ m cuts s ?_)
 have hl_m_0:(m).length≤9223372036854775807:=hb.1.1.1
 have hl_cuts:cuts.length≤9223372036854775807:=hb.2.1.1
 refine ⟨fun h=>R_eq (by grind [Qq,m_in]),fun h=>?_⟩
 have hc:Q4 m cuts=true∧0≤s∧s≤cuts.length:=by grind [m_in]
 have hl:=Qay hc.1
 have e1:(Q4 m cuts&&m_in s 0 cuts.length)=true:=by grind [m_in]
 refine ⟨fun h1=>?_,fun h1=>?_⟩
 ·have h1:0<s:=by simpa using h1
  rw [Qp (x:=s-1) (by omega) (by omega),show Int.toNat (s-1)=s.toNat-1 by omega]
  refine ⟨⟨by omega,by omega⟩,(Qwv (fun r'=>r'=Qcj (Qq m cuts s)) m cuts s _ ⟨fun h2=>?_,fun h2=>?_⟩).h⟩
  ·have h2:s<cuts.length:=by simpa using h2
   exact ⟨⟨by omega,by omega⟩,R_eq (by simp [Qq,e1,h1,h2])⟩
  ·exact R_eq (by simp at h2;simp [Qq,e1,h1,Int.not_lt.2 h2])
 ·have h1:¬ 0<s:=by simpa using h1
  refine (Qwv (fun r'=>r'=Qcj (Qq m cuts s)) m cuts s _ ⟨fun h2=>?_,fun h2=>?_⟩).h
  ·have h2:s<cuts.length:=by simpa using h2
   exact ⟨⟨by omega,by omega⟩,R_eq (by simp [Qq,e1,h1,h2])⟩
  ·exact R_eq (by simp at h2;simp [Qq,e1,h1,Int.not_lt.2 h2])
theorem Qi1:Qj Tryz.prog QeX:=Qm fun x _=>QGF x.1 x.2.1 x.2.2.1
def Qg3 (t:Int):TRes:=zre (zci t)
def Qj0:TRow:=Qi 81 [(.a QK)] fun x=>(none,Qg3 (QF x.1))
def QNn:List TRow:=[QeN]
def QAt:TCode :=
 (zsq [(.reg [zop 1 (.box 30 0 6),zmv 2 (zki 0)]),(zsq [(.reg [zfa 3 1 0,zLd 4 3 1,zfa 5 1 1,zld 6 5 1,zca 7 76 [4,6],zno 8 7]),(.cond 8 (zsq [(.reg [zmv 2 (zki 0)]),.ret]) .skip)]),(.reg [zfa 9 1 1,zld 10 9 1,zle 11 10,zbi 12 .add 11 (zki 1),zmv 2 12]),.ret])
def QCO:List (ARv × Md):=[(.t 2,.one .d)]
theorem QOm (c:Ql) (h :
 (zif (!(Q4 c.1 c.2.1)) (K (Qg3 (0:Int))) (K (Qg3 (w64 (((c.2.1).length:Int)+(1:Int))))))):Hold (tawp QNn (0+0) QAt (TQ 0 0 QCO K) (Qf [(.a (Tup.cells QK c))])) :=
 Hold.of (by kernel_rfl) h
theorem QLF (c:Ql):TCon Tryz.prog 81 [(.a (Tup.cells QK c))] (Qg3 (QF c)):=by
 refine Qr rfl fun hb=>tcg (n:=13) (sg:=Qj0.sg) Qk (TOk.cons QkT TOk.nil) (by kernel_rfl) (by kernel_rfl) (QOm _ c ?_)
 have hl_c_0:(c.1).length≤9223372036854775807:=hb.1.1.1
 have hl_c_1:(c.2.1).length≤9223372036854775807:=hb.1.2.1.1
 have hl_c_3:(c.2.2.2.1).length≤9223372036854775807:=hb.1.2.2.2.1.1
 have hl_c_4:(c.2.2.2.2.1).length≤9223372036854775807:=hb.1.2.2.2.2.1.1
 have hl_c_5:(c.2.2.2.2.2).length≤9223372036854775807:=hb.1.2.2.2.2.2.1.1
 grind [QF]
theorem QIU:Qj Tryz.prog Qj0:=Qm fun x _=>QLF x.1
def QfS (t:Int):TRes:=zre (zci t)
def Qck:TRow:=Qi 59 [(.a QK)] fun x=>(none,QfS (QF x.1))
def QQg:List TRow:=[QgR]
def QB6:TCode :=
 (zsq [(.reg [zop 1 (.box 30 0 6),zmv 2 (zki 0)]),(zsq [(.reg [zfa 3 1 0,zLd 4 3 1,zfa 5 1 1,zld 6 5 1,zca 7 136 [4,6],zno 8 7]),(.cond 8 (zsq [(.reg [zmv 2 (zki 0)]),.ret]) .skip)]),(.reg [zfa 9 1 1,zld 10 9 1,zle 11 10,zbi 12 .add 11 (zki 1),zmv 2 12]),.ret])
def QO6:List (ARv × Md):=[(.t 2,.one .d)]
theorem QLS (c:Ql) (h :
 (zif (!(Q4 c.1 c.2.1)) (K (QfS (0:Int))) (K (QfS (w64 (((c.2.1).length:Int)+(1:Int))))))):Hold (tawp QQg (0+0) QB6 (TQ 0 0 QO6 K) (Qf [(.a (Tup.cells QK c))])) :=
 Hold.of (by kernel_rfl) h
theorem QJV (c:Ql):TCon Tryz.prog 59 [(.a (Tup.cells QK c))] (QfS (QF c)):=by
 refine Qr rfl fun hb=>tcg (n:=13) (sg:=Qck.sg) Qk (TOk.cons Qsp TOk.nil) (by kernel_rfl) (by kernel_rfl) (QLS _ c ?_)
 have hl_c_0:(c.1).length≤9223372036854775807:=hb.1.1.1
 have hl_c_1:(c.2.1).length≤9223372036854775807:=hb.1.2.1.1
 have hl_c_3:(c.2.2.2.1).length≤9223372036854775807:=hb.1.2.2.2.1.1
 have hl_c_4:(c.2.2.2.2.1).length≤9223372036854775807:=hb.1.2.2.2.2.1.1
 have hl_c_5:(c.2.2.2.2.2).length≤9223372036854775807:=hb.1.2.2.2.2.2.1.1
 grind [QF]
theorem Qfu:Qj Tryz.prog Qck:=Qm fun x _=>QJV x.1
end
end Go.Proofs.YtjbdljkhbglnhaaGreat.Am

