/- -/
import Derived.Test.YtjbdljkhbglnhaaGreatZAP4
import Derived.Test.YtjbdljkhbglnhaaGreatZAP1
namespace Go.Proofs.YtjbdljkhbglnhaaGreat.Am
open Go Go.RowKit Go.Proofs.YtjbdljkhbglnhaaGreat
set_option linter.all false
noncomputable section
variable (K:TRes→Prop)
def Qji (t:Bool):TRes:=zre (zcb t)
def Ql4:TRow:=Qj 167 [(.a [(.sl ctOp)]),(.a QC)] fun x=>(none,Qji (Y5 x.1 x.2.1))
def QQY:List TRow:=[JS,Qdg,JJ,Qdn]
def QJN:TCode :=
 (zsq [(.reg [zop 2 (.box 26 0 1),zop 3 (.box 108 1 2),zmv 4 (zkb false)]),(.draw [zLd 5 2 1,zca 6 131 [5],zmv 7 6,.grp 7 true [zfa 8 3 0,zld 9 8 1,zLd 10 2 1,zca 11 115 [10],zca 12 114 [9,11]] 13 12,zmv 14 13,.grp 14 true [zfa 15 3 1,zld 16 15 1,zLd 17 2 1,zca 18 117 [17],zca 19 114 [16,18]] 20 19,zmv 4 20] [(3,6),(4,6),(10,13),(11,13)]),.ret])
def QEA:List (ARv × Md):=[(.t 4,.one .d)]
theorem QMp (m:List TOp') (p:Qh) (h :
 K (Qji (((QM m)&&(Qt p.1 (QZ m)))&&(Qt p.2 (Q3 m))))):Hold (tawp QQY (0+0) QJN (TQ 0 0 QEA K) (Qf [(.a [(.c (.sl ctOp) m)]),(.a [(.c (.sl [TI]) p.1),(.c (.sl [TI]) p.2)])])) :=
 Hold.of (by kernel_rfl) h
theorem QBY (m:List TOp') (p:Qh):TCon Tryz.prog 167 [(.a [(.c (.sl ctOp) m)]),(.a [(.c (.sl [TI]) p.1),(.c (.sl [TI]) p.2)])] (Qji (Y5 m p)):=by
 refine Qq rfl fun hb=>tcg (n:=21) (sg:=Ql4.sg) Ql (TOk.cons QaQ (TOk.cons QhX (TOk.cons Qak (TOk.cons Qf8 TOk.nil)))) (by kernel_rfl) (by kernel_rfl) (QMp _ m p ?_)
 have hl_m_0:(m).length≤9223372036854775807:=hb.1.1.1
 have hl_p_0:(p.1).length≤9223372036854775807:=hb.2.1.1.1
 have hl_p_1:(p.2).length≤9223372036854775807:=hb.2.1.2.1.1
 exact R_eq rfl
theorem QNo:Qi Tryz.prog Ql4:=Qm fun x _=>QBY x.1 x.2.1
def QbN (t:Bool):TRes:=zre (zcb t)
def QnO:TRow:=Qj 75 [(.a [(.sl ctOp)]),(.c (.sl QC))] fun x=>(none,QbN (ZP x.1 x.2.1))
def Qll:List TRow:=[QcU,JH,Qh6,QgZ,Qhs]
def QAm:TCode :=
 (zsq [(zsq [(.reg [zmv 15 5,zmv 16 1,zle 17 16,zbi 18 .lss 15 17]),(.cond 18 .skip (.exit 0))]),(.block 1 (zsq [(.draw [zmv 21 1,zmv 22 5,zia 23 21 22 QC,zfa 24 23 0,zld 25 24 1,zca 26 42 [25],zno 27 26,zmv 28 27,.grp 28 false [zmv 29 1,zmv 30 5,zia 31 29 30 QC,zfa 32 31 1,zld 33 32 1,zca 34 42 [33],zno 35 34] 36 35,zmv 37 36,.grp 37 false [zmv 38 1,zmv 39 5,zia 40 38 39 QC,zfa 41 40 0,zld 42 41 1,zle 43 42,zLd 44 2 1,zca 45 153 [44],zbi 46 .neq 43 45] 47 46,zmv 48 47,.grp 48 false [zmv 49 1,zmv 50 5,zia 51 49 50 QC,zfa 52 51 1,zld 53 52 1,zle 54 53,zLd 55 2 1,zca 56 154 [55],zbi 57 .neq 54 56] 58 57] [(19,24),(20,24),(21,24),(22,24),(30,35),(31,35),(32,35),(33,35)]),(.cond 58 (zsq [(.reg [zmv 4 (zkb false)]),.ret]) .skip)])),(.reg [zmv 19 5,zbi 20 .add 19 (zki 1),zmv 5 20])])
def QuZ:List (Nat × Md):=[(1,.one .d),(2,.b [.d]),(5,.one .d)]
def QsD:TCode :=
 (zsq [(.reg [zmv 4 (zkb true)]),.ret])
def QFj:TCode :=
 (zsq [(.reg [zop 2 (.box 26 0 1),zmv 4 (zkb false)]),(zsq [(.reg [zLd 6 2 1,zca 7 74 [6],zno 8 7,zmv 9 8,.grp 9 false [zmv 10 1,zle 11 10,zca 12 77 [11,(zki 1),(zki 5)],zno 13 12] 14 13]),(.cond 14 (zsq [(.reg [zmv 4 (zkb false)]),.ret]) .skip)]),(zsq [(.reg [zmv 5 (zki 0)]),(.block 0 (.loop QuZ QAm))]),QsD])
def Qw7:List (ARv × Md):=[(.t 4,.one .d)]
def Qsw:Qb:=TQ 0 0 Qw7 K
def QKN:Qb:=Qseq (tawp Qll 0 QsD (Qsw K)) (Qsw K)
def QNv:Qb:=Qblk 0 (QKN K)
def Qht (m:List TOp') (b:List Qh) (i:Int):Prop:=Loop Qll 0 QuZ QAm (QNv K) ⟨[(1,(zcs QC b)),(2,(.p 0 0 0)),(5,(zci i))],[(0,(.box [(zcs ctOp m)]))],1⟩
theorem Qyv (m:List TOp') (b:List Qh) (i:Int) (h :
 (zif (decide (i<(b.length:Int))) ((((0:Int)≤i∧Int.toNat i<b.length)∧(((!(!(Q2 ((gtd Zl b (Int.toNat i)).1))))=true→((0:Int)≤i∧Int.toNat i<b.length))∧(((!((!(Q2 ((gtd Zl b (Int.toNat i)).1)))||(!(Q2 ((gtd Zl b (Int.toNat i)).2)))))=true→((0:Int)≤i∧Int.toNat i<b.length))∧((!(((!(Q2 ((gtd Zl b (Int.toNat i)).1)))||(!(Q2 ((gtd Zl b (Int.toNat i)).2))))||((((gtd Zl b (Int.toNat i)).1).length:Int) != (QZ m))))=true→((0:Int)≤i∧Int.toNat i<b.length)))))∧(zif ((((!(Q2 ((gtd Zl b (Int.toNat i)).1)))||(!(Q2 ((gtd Zl b (Int.toNat i)).2))))||((((gtd Zl b (Int.toNat i)).1).length:Int) != (QZ m)))||((((gtd Zl b (Int.toNat i)).2).length:Int) != (Q3 m))) (K (QbN false)) (Qht K m b (w64 (i+(1:Int)))))) (K (QbN true)))):Qht K m b i :=
 Loop.of (by kernel_rfl) h
theorem QIo (m:List TOp') (b:List Qh) (h :
 (zif ((!(QM m))||(!(m_in (b.length:Int) (1:Int) (5:Int)))) (K (QbN false)) (Qht K m b 0))):Hold (tawp Qll (0+0) QFj (TQ 0 0 Qw7 K) (Qf [(.a [(.c (.sl ctOp) m)]),(.c (.sl QC) b)])) :=
 Hold.of (by kernel_rfl) h
theorem QI8 (m:List TOp') (b:List Qh):TCon Tryz.prog 75 [(.a [(.c (.sl ctOp) m)]),(.c (.sl QC) b)] (QbN (ZP m b)):=by
 refine Qq rfl fun hb=>tcg (n:=59) (sg:=QnO.sg) Ql (TOk.cons QeM (TOk.cons Qac (TOk.cons QuI (TOk.cons QxK (TOk.cons Qrn TOk.nil))))) (by kernel_rfl) (by kernel_rfl) (QIo _ m b ?_)
 have hl_m_0:(m).length≤9223372036854775807:=hb.1.1.1
 have hl_b:b.length≤9223372036854775807:=hb.2.1.1
 refine ⟨fun h=>R_eq (by grind [ZP,m_in]),fun h=>?_⟩
 refine Zj b (fun r k=>r.all (Y5 m)=b.all (Y5 m)→Qht (fun r'=>r'=QbN (ZP m b)) m b k) ?_ ?_ rfl
 ·intro he
  refine Qyv (fun r'=>r'=QbN (ZP m b)) m b _ ⟨fun h=>by simp at h,fun _=>?_⟩
  grind [ZP]
 ·intro k x r hk hlt hg ih he
  refine Qyv (fun r'=>r'=QbN (ZP m b)) m b _ ⟨fun _=>?_,fun h=>by simp at h;omega⟩
  rw [Int.toNat_natCast,hg,Qp (x:=(k:Int)+1) (by omega) (by omega)]
  have e:(!(Q2 x.1)||!(Q2 x.2)||((x.1.length:Int) != QZ m)||((x.2.length:Int) != Q3 m)) = !Y5 m x:=by grind [Y5,Qt]
  rw [e]
  grind [ZP]
theorem QQe:Qi Tryz.prog QnO:=Qm fun x _=>QI8 x.1 x.2.1
def QbP (t:Bool):TRes:=zre (zcb t)
def QnP:TRow:=Qj 87 [(.a [(.sl ctOp)]),(.c (.sl QC))] fun x=>(none,QbP (ZP x.1 x.2.1))
def Qjp:List TRow:=[JS,Ql4]
def Qq2:TCode :=
 (zsq [(.reg [zbi 23 .lss 22 21]),(.cond 23 .skip (.exit 0)),(.block 1 (zsq [(.reg [zia 24 20 22 QC,zLd 25 24 2,zop 6 (.new 108 (z0s QC)),zst 6 25 2]),(.reg [zLd 26 2 1,zLd 27 6 2,zca 28 167 [26,27],zno 29 28]),(.cond 29 (zsq [(.reg [zmv 4 (zkb false)]),.ret]) .skip)])),(.reg [zbi 30 .add 22 (zki 1),zmv 22 30])])
def Qxl:List (Nat × Md):=[(2,.b [.d]),(20,.one .d),(21,.one .d),(22,.one .d)]
def QuC:TCode :=
 (zsq [(.reg [zmv 4 (zkb true)]),.ret])
def QEg:TCode :=
 (zsq [(.reg [zop 2 (.box 26 0 1),zmv 4 (zkb false)]),(zsq [(.reg [zLd 7 2 1,zca 8 131 [7],zno 9 8,zmv 10 9,.grp 10 false [zmv 11 1,zle 12 11,zbi 13 .lss 12 (zki 1)] 14 13,zmv 15 14,.grp 15 false [zmv 16 1,zle 17 16,zbi 18 .gtr 17 (zki 5)] 19 18]),(.cond 19 (zsq [(.reg [zmv 4 (zkb false)]),.ret]) .skip)]),(zsq [(.reg [zmv 20 1,zle 21 20,zmv 22 (zki 0)]),(.block 0 (.loop Qxl Qq2))]),QuC])
def QqZ:List (ARv × Md):=[(.t 4,.one .d)]
def QqS:Qb:=TQ 0 0 QqZ K
def QPi:Qb:=Qseq (tawp Qjp 0 QuC (QqS K)) (QqS K)
def QO9:Qb:=Qblk 0 (QPi K)
def QjV (m:List TOp') (b:List Qh) (x:Int):Prop:=Loop Qjp 0 Qxl Qq2 (QO9 K) ⟨[(2,(.p 0 0 0)),(20,(zcs QC b)),(21,(zci (b.length:Int))),(22,(zci x))],[(0,(.box [(zcs ctOp m)]))],1⟩
theorem QEr (m:List TOp') (b:List Qh) (x:Int) (h :
 (zif (decide (x<(b.length:Int))) (((0:Int)≤x∧Int.toNat x<b.length)∧(zif (!(Y5 m (gtd Zl b (Int.toNat x)))) (K (QbP false)) (QjV K m b (w64 (x+(1:Int)))))) (K (QbP true)))):QjV K m b x :=
 Loop.of (by kernel_rfl) h
theorem QDX (m:List TOp') (b:List Qh) (h :
 (zif (((!(QM m))||(decide ((b.length:Int)<(1:Int))))||(decide ((b.length:Int)>(5:Int)))) (K (QbP false)) (QjV K m b 0))):Hold (tawp Qjp (0+0) QEg (TQ 0 0 QqZ K) (Qf [(.a [(.c (.sl ctOp) m)]),(.c (.sl QC) b)])) :=
 Hold.of (by kernel_rfl) h
theorem QCk (m:List TOp') (b:List Qh):TCon Tryz.prog 87 [(.a [(.c (.sl ctOp) m)]),(.c (.sl QC) b)] (QbP (ZP m b)):=by
 refine Qq rfl fun hb=>tcg (n:=31) (sg:=QnP.sg) Ql (TOk.cons QaQ (TOk.cons QNo TOk.nil)) (by kernel_rfl) (by kernel_rfl) (QDX _ m b ?_)
 have hl_m_0:(m).length≤9223372036854775807:=hb.1.1.1
 have hl_b:b.length≤9223372036854775807:=hb.2.1.1
 refine ⟨fun h=>R_eq (by grind [ZP,m_in]),fun h=>?_⟩
 exact Qb6 (Q:=fun x=>QbP x=QbP (ZP m b)) (p:=Y5 m) (c:=fun x=>!(Y5 m x)) Zl hl_b (fun _=>rfl) (fun i h=>QEr (fun r'=>r'=QbP (ZP m b)) m b i h) (R_eq (by grind [ZP,m_in]))
theorem QIa:Qi Tryz.prog QnP:=Qm fun x _=>QCk x.1 x.2.1
def Qcb (t:Bool):TRes:=zre (zcb t)
def Qg6:TRow:=Qj 76 [(.a [(.sl ctOp)]),(.c (.sl [TI]))] fun x=>(none,Qcb (Q7 x.1 x.2.1))
def QnT:List TRow:=[JH,QcU]
def QrT:TCode :=
 (zsq [(zsq [(.reg [zmv 6 5,zmv 7 1,zle 8 7,zbi 9 .lss 6 8]),(.cond 9 .skip (.exit 0))]),(.block 1 (zsq [(.draw [zmv 12 1,zmv 13 5,zia 14 12 13 [TI],zld 15 14 1,zfa 16 2 0,zld 17 16 1,zle 18 17,zbi 19 .sub 18 (zki 1),zca 20 77 [15,(zki 1),19],zno 21 20,zmv 22 21,.grp 22 false [zmv 23 5,zbi 24 .gtr 23 (zki 0),zmv 25 24,.grp 25 true [zmv 26 1,zmv 27 5,zia 28 26 27 [TI],zld 29 28 1,zmv 30 1,zmv 31 5,zbi 32 .sub 31 (zki 1),zia 33 30 32 [TI],zld 34 33 1,zbi 35 .leq 29 34] 36 35] 37 36] []),(.cond 37 (zsq [(.reg [zmv 4 (zkb false)]),.ret]) .skip)])),(.reg [zmv 10 5,zbi 11 .add 10 (zki 1),zmv 5 11])])
def QrC:List (Nat × Md):=[(1,.one .d),(2,.b [.d]),(5,.one .d)]
def Qo5:TCode :=
 (zsq [(.reg [zLd 38 2 1,zca 39 74 [38],zmv 4 39]),.ret])
def QOR:TCode :=
 (zsq [(.reg [zop 2 (.box 26 0 1),zmv 4 (zkb false)]),(zsq [(.reg [zmv 5 (zki 0)]),(.block 0 (.loop QrC QrT))]),Qo5])
def Qwv:List (ARv × Md):=[(.t 4,.one .d)]
def QuD:Qb:=TQ 0 0 Qwv K
def QCR:Qb:=Qseq (tawp QnT 0 Qo5 (QuD K)) (QuD K)
def QAO:Qb:=Qblk 0 (QCR K)
def Qit (m:List TOp') (cuts:List Int) (i:Int):Prop:=Loop QnT 0 QrC QrT (QAO K) ⟨[(1,(zcs [TI] cuts)),(2,(.p 0 0 0)),(5,(zci i))],[(0,(.box [(zcs ctOp m)]))],1⟩
theorem QwF (m:List TOp') (cuts:List Int) (i:Int) (h :
 (zif (decide (i<(cuts.length:Int))) ((((0:Int)≤i∧Int.toNat i<cuts.length)∧((!(!(m_in (gtd (0:Int) cuts (Int.toNat i)) (1:Int) (w64 ((m.length:Int)-(1:Int))))))=true→((decide (i>(0:Int)))=true→(((0:Int)≤i∧Int.toNat i<cuts.length)∧((0:Int)≤w64 (i-(1:Int))∧Int.toNat (w64 (i-(1:Int)))<cuts.length)))))∧(zif ((!(m_in (gtd (0:Int) cuts (Int.toNat i)) (1:Int) (w64 ((m.length:Int)-(1:Int)))))||((decide (i>(0:Int)))&&(decide ((gtd (0:Int) cuts (Int.toNat i))≤(gtd (0:Int) cuts (Int.toNat (w64 (i-(1:Int))))))))) (K (Qcb false)) (Qit K m cuts (w64 (i+(1:Int)))))) (K (Qcb (QM m))))):Qit K m cuts i :=
 Loop.of (by kernel_rfl) h
theorem QIi (m:List TOp') (cuts:List Int) (h :
 (Qit K m cuts 0)):Hold (tawp QnT (0+0) QOR (TQ 0 0 Qwv K) (Qf [(.a [(.c (.sl ctOp) m)]),(.c (.sl [TI]) cuts)])) :=
 Hold.of (by kernel_rfl) h
theorem QRg (m:List TOp') (cuts:List Int):TCon Tryz.prog 76 [(.a [(.c (.sl ctOp) m)]),(.c (.sl [TI]) cuts)] (Qcb (Q7 m cuts)):=by
 refine Qq rfl fun hb=>tcg (n:=40) (sg:=Qg6.sg) Ql (TOk.cons Qac (TOk.cons QeM TOk.nil)) (by kernel_rfl) (by kernel_rfl) (QIi _ m cuts ?_)
 have hl_m_0:(m).length≤9223372036854775807:=hb.1.1.1
 have hl_cuts:cuts.length≤9223372036854775807:=hb.2.1.1
 refine Zj cuts (fun r k=>ZT (m.length-1) (QaI cuts k) r=ZT (m.length-1) none cuts→Qit (fun r'=>r'=Qcb (Q7 m cuts)) m cuts k) ?_ ?_ rfl
 ·intro he
  refine QwF (fun r'=>r'=Qcb (Q7 m cuts)) m cuts _ ⟨fun h=>by simp at h,fun _=>?_⟩
  grind [ZT,Q7]
 ·intro k x r hk hlt hg ih he
  refine QwF (fun r'=>r'=Qcb (Q7 m cuts)) m cuts _ ⟨fun _=>?_,fun h=>by simp at h;omega⟩
  rw [Int.toNat_natCast,hg,Qp (x:=(k:Int)+1) (by omega) (by omega),Qp (x:=(m.length:Int)-1) (by omega) (by omega)]
  have ep:QaI cuts (k+1)=some x:=by simp [QaI,hg]
  rw [ep] at ih
  rcases Nat.eq_zero_or_pos k with h0 | h0
  ·subst h0
   simp only [ZT,QaI,if_true] at he
   grind [Q7]
  ·have e2:=QcH h0 (by omega:k≤9223372036854775807)
   simp only [ZT,QaI,if_neg (Nat.ne_of_gt h0)] at he
   grind [Q7]
theorem Qua:Qi Tryz.prog Qg6:=Qm fun x _=>QRg x.1 x.2.1
def QbX (t:Bool):TRes:=zre (zcb t)
def QiZ:TRow:=Qj 136 [(.a [(.sl ctOp)]),(.c (.sl [TI]))] fun x=>(none,QbX (Q7 x.1 x.2.1))
def Qkp:List TRow:=[JS]
def Qt9:TCode :=
 (zsq [(.reg [zbi 13 .lss 12 11]),(.cond 13 .skip (.exit 0)),(.block 1 (zsq [(.reg [zmv 14 12,zia 15 10 12 [TI],zld 16 15 1,zmv 5 14,zmv 6 16]),(.reg [zmv 17 6,zbi 18 .lss 17 (zki 1),zmv 19 18,.grp 19 false [zmv 20 6,zfa 21 2 0,zld 22 21 1,zle 23 22,zbi 24 .sub 23 (zki 1),zbi 25 .gtr 20 24] 26 25,zmv 27 26,.grp 27 false [zmv 28 5,zbi 29 .gtr 28 (zki 0),zmv 30 29,.grp 30 true [zmv 31 1,zmv 32 5,zbi 33 .sub 32 (zki 1),zia 34 31 33 [TI],zld 35 34 1,zmv 36 6,zbi 37 .geq 35 36] 38 37] 39 38]),(.cond 39 (zsq [(.reg [zmv 4 (zkb false)]),.ret]) .skip)])),(.reg [zbi 40 .add 12 (zki 1),zmv 12 40])])
def Qxv:List (Nat × Md):=[(1,.one .d),(2,.b [.d]),(10,.one .d),(11,.one .d),(12,.one .d)]
def QyI:TCode :=
 (zsq [(.reg [zmv 4 (zkb true)]),.ret])
def QHW:TCode :=
 (zsq [(.reg [zop 2 (.box 26 0 1),zmv 4 (zkb false)]),(zsq [(.reg [zLd 7 2 1,zca 8 131 [7],zno 9 8]),(.cond 9 (zsq [(.reg [zmv 4 (zkb false)]),.ret]) .skip)]),(zsq [(.reg [zmv 10 1,zle 11 10,zmv 12 (zki 0)]),(.block 0 (.loop Qxv Qt9))]),QyI])
def QoK:List (ARv × Md):=[(.t 4,.one .d)]
def Qtd:Qb:=TQ 0 0 QoK K
def QAy:Qb:=Qseq (tawp Qkp 0 QyI (Qtd K)) (Qtd K)
def QO4:Qb:=Qblk 0 (QAy K)
def Qf0 (m:List TOp') (cuts:List Int) (x:Int):Prop:=Loop Qkp 0 Qxv Qt9 (QO4 K) ⟨[(1,(zcs [TI] cuts)),(2,(.p 0 0 0)),(10,(zcs [TI] cuts)),(11,(zci (cuts.length:Int))),(12,(zci x))],[(0,(.box [(zcs ctOp m)]))],1⟩
theorem QoA (m:List TOp') (cuts:List Int) (x:Int) (h :
 (zif (decide (x<(cuts.length:Int))) (((0:Int)≤x∧Int.toNat x<cuts.length)∧(((!((decide ((gtd (0:Int) cuts (Int.toNat x))<(1:Int)))||(decide ((gtd (0:Int) cuts (Int.toNat x))>(w64 ((m.length:Int)-(1:Int)))))))=true→((decide (x>(0:Int)))=true→((0:Int)≤w64 (x-(1:Int))∧Int.toNat (w64 (x-(1:Int)))<cuts.length)))∧(zif (((decide ((gtd (0:Int) cuts (Int.toNat x))<(1:Int)))||(decide ((gtd (0:Int) cuts (Int.toNat x))>(w64 ((m.length:Int)-(1:Int))))))||((decide (x>(0:Int)))&&(decide ((gtd (0:Int) cuts (Int.toNat (w64 (x-(1:Int)))))≥(gtd (0:Int) cuts (Int.toNat x)))))) (K (QbX false)) (Qf0 K m cuts (w64 (x+(1:Int))))))) (K (QbX true)))):Qf0 K m cuts x :=
 Loop.of (by kernel_rfl) h
theorem QQP (m:List TOp') (cuts:List Int) (h :
 (zif (!(QM m)) (K (QbX false)) (Qf0 K m cuts 0))):Hold (tawp Qkp (0+0) QHW (TQ 0 0 QoK K) (Qf [(.a [(.c (.sl ctOp) m)]),(.c (.sl [TI]) cuts)])) :=
 Hold.of (by kernel_rfl) h
theorem QE4 (m:List TOp') (cuts:List Int):TCon Tryz.prog 136 [(.a [(.c (.sl ctOp) m)]),(.c (.sl [TI]) cuts)] (QbX (Q7 m cuts)):=by
 refine Qq rfl fun hb=>tcg (n:=41) (sg:=QiZ.sg) Ql (TOk.cons QaQ TOk.nil) (by kernel_rfl) (by kernel_rfl) (QQP _ m cuts ?_)
 have hl_m_0:(m).length≤9223372036854775807:=hb.1.1.1
 have hl_cuts:cuts.length≤9223372036854775807:=hb.2.1.1
 refine ⟨fun h=>R_eq (by grind [Q7]),fun h=>?_⟩
 refine Zj cuts (fun r k=>ZT (m.length-1) (QaI cuts k) r=ZT (m.length-1) none cuts→Qf0 (fun r'=>r'=QbX (Q7 m cuts)) m cuts k) ?_ ?_ rfl
 ·intro he
  refine QoA (fun r'=>r'=QbX (Q7 m cuts)) m cuts _ ⟨fun h=>by simp at h,fun _=>?_⟩
  grind [ZT,Q7]
 ·intro k x r hk hlt hg ih he
  refine QoA (fun r'=>r'=QbX (Q7 m cuts)) m cuts _ ⟨fun _=>?_,fun h=>by simp at h;omega⟩
  rw [Int.toNat_natCast,hg,Qp (x:=(k:Int)+1) (by omega) (by omega),Qp (x:=(m.length:Int)-1) (by omega) (by omega)]
  have ep:QaI cuts (k+1)=some x:=by simp [QaI,hg]
  rw [ep] at ih
  rcases Nat.eq_zero_or_pos k with h0 | h0
  ·subst h0
   simp only [ZT,QaI,if_true,m_in] at he
   grind [Q7]
  ·have e2:=QcH h0 (by omega:k≤9223372036854775807)
   simp only [ZT,QaI,if_neg (Nat.ne_of_gt h0),m_in] at he
   grind [Q7]
theorem QqL:Qi Tryz.prog QiZ:=Qm fun x _=>QE4 x.1 x.2.1
def QcL (t:Int × Int):TRes:=zre (.tp [(zci t.1),(zci t.2)])
def Qff:TRow:=Qj 93 [(.a [(.sl ctOp)]),(.c (.sl [TI])),(.c TI)] fun x=>(none,QcL (Qr x.1 x.2.1 x.2.2.1))
def Qpj:List TRow:=[Qg6,JH]
def Qqs:TCode :=
 (zsq [(zsq [(.reg [zmv 31 2,zmv 32 1,zle 33 32,zbi 34 .lss 31 33]),(.cond 34 (.reg [zmv 35 1,zmv 36 2,zia 37 35 36 [TI],zld 38 37 1,zmv 9 38]) .skip)]),(.reg [zmv 39 8,zmv 40 9,zmv 6 39,zmv 7 40]),.ret])
def QLJ:List (Nat × Md):=zdl [1,2,8,9]
def QRt:TCode:=.wk QLJ Qqs
def QQQ:TCode :=
 (zsq [(.reg [zop 3 (.box 26 0 1),zmv 6 (zki 0),zmv 7 (zki 0)]),(zsq [(.reg [zLd 10 3 1,zmv 11 1,zca 12 76 [10,11],zno 13 12,zmv 14 13,.grp 14 false [zmv 15 2,zmv 16 1,zle 17 16,zca 18 77 [15,(zki 0),17],zno 19 18] 20 19]),(.cond 20 (zsq [(.reg [zmv 6 (zki 0),zmv 7 (zki 0)]),.ret]) .skip)]),(.reg [zmv 8 (zki 0)]),(.reg [zfa 21 3 0,zld 22 21 1,zle 23 22,zmv 9 23]),(zsq [(.reg [zmv 24 2,zbi 25 .gtr 24 (zki 0)]),(.cond 25 (.reg [zmv 26 1,zmv 27 2,zbi 28 .sub 27 (zki 1),zia 29 26 28 [TI],zld 30 29 1,zmv 8 30]) .skip)]),QRt])
def Qpi:List (ARv × Md):=[(.t 6,.one .d),(.t 7,.one .d)]
def QBm:Qb:=TQ 0 0 Qpi K
def Qol (m:List TOp') (cuts:List Int) (s:Int) (fro:Int):Prop:=tawp Qpj 0 Qqs (QBm K) ⟨[(1,(zcs [TI] cuts)),(2,(zci s)),(8,(zci fro)),(9,(zci (m.length:Int)))],[],0⟩
theorem QqE (m:List TOp') (cuts:List Int) (s:Int) (fro:Int) (h :
 (zif (decide (s<(cuts.length:Int))) (((0:Int)≤s∧Int.toNat s<cuts.length)∧K (QcL (fro,(gtd (0:Int) cuts (Int.toNat s))))) (K (QcL (fro,(m.length:Int)))))):Hold (Qol K m cuts s fro) :=
 Hold.of (by kernel_rfl) h
theorem QJ0 (m:List TOp') (cuts:List Int) (s:Int) (h :
 (zif ((!(Q7 m cuts))||(!(m_in s (0:Int) (cuts.length:Int)))) (K (QcL ((0:Int),(0:Int)))) (zif (decide (s>(0:Int))) (((0:Int)≤w64 (s-(1:Int))∧Int.toNat (w64 (s-(1:Int)))<cuts.length)∧(Qol K m cuts s (gtd (0:Int) cuts (Int.toNat (w64 (s-(1:Int))))))) (Qol K m cuts s 0)))):Hold (tawp Qpj (0+0) QQQ (TQ 0 0 Qpi K) (Qf [(.a [(.c (.sl ctOp) m)]),(.c (.sl [TI]) cuts),(.c TI s)])) :=
 Hold.of (by kernel_rfl) h
theorem QLi (m:List TOp') (cuts:List Int) (s:Int):TCon Tryz.prog 93 [(.a [(.c (.sl ctOp) m)]),(.c (.sl [TI]) cuts),(.c TI s)] (QcL (Qr m cuts s)):=by
 refine Qq rfl fun hb=>tcg (n:=41) (sg:=Qff.sg) Ql (TOk.cons Qua (TOk.cons Qac TOk.nil)) (by kernel_rfl) (by kernel_rfl) (QJ0 _ m cuts s ?_)
 have hl_m_0:(m).length≤9223372036854775807:=hb.1.1.1
 have hl_cuts:cuts.length≤9223372036854775807:=hb.2.1.1
 refine ⟨fun h=>R_eq (by grind [Qr,m_in]),fun h=>?_⟩
 have hc:Q7 m cuts=true∧0≤s∧s≤cuts.length:=by grind [m_in]
 have hl:=QaH hc.1
 have e1:(Q7 m cuts&&m_in s 0 cuts.length)=true:=by grind [m_in]
 refine ⟨fun h1=>?_,fun h1=>?_⟩
 ·have h1:0<s:=by simpa using h1
  rw [Qp (x:=s-1) (by omega) (by omega),show Int.toNat (s-1)=s.toNat-1 by omega]
  refine ⟨⟨by omega,by omega⟩,(QqE (fun r'=>r'=QcL (Qr m cuts s)) m cuts s _ ⟨fun h2=>?_,fun h2=>?_⟩).h⟩
  ·have h2:s<cuts.length:=by simpa using h2
   exact ⟨⟨by omega,by omega⟩,R_eq (by simp [Qr,e1,h1,h2])⟩
  ·exact R_eq (by simp at h2;simp [Qr,e1,h1,Int.not_lt.2 h2])
 ·have h1:¬ 0<s:=by simpa using h1
  refine (QqE (fun r'=>r'=QcL (Qr m cuts s)) m cuts s _ ⟨fun h2=>?_,fun h2=>?_⟩).h
  ·have h2:s<cuts.length:=by simpa using h2
   exact ⟨⟨by omega,by omega⟩,R_eq (by simp [Qr,e1,h1,h2])⟩
  ·exact R_eq (by simp at h2;simp [Qr,e1,h1,Int.not_lt.2 h2])
theorem Qka:Qi Tryz.prog Qff:=Qm fun x _=>QLi x.1 x.2.1 x.2.2.1
def QcW (t:Int × Int):TRes:=zre (.tp [(zci t.1),(zci t.2)])
def QeZ:TRow:=Qj 71 [(.a [(.sl ctOp)]),(.c (.sl [TI])),(.c TI)] fun x=>(none,QcW (Qr x.1 x.2.1 x.2.2.1))
def QvM:List TRow:=[QiZ]
def Qus:TCode :=
 (zsq [(zsq [(.reg [zmv 34 2,zmv 35 1,zle 36 35,zbi 37 .lss 34 36]),(.cond 37 (.reg [zmv 38 1,zmv 39 2,zia 40 38 39 [TI],zld 41 40 1,zmv 9 41]) .skip)]),(.reg [zmv 42 8,zmv 43 9,zmv 6 42,zmv 7 43]),.ret])
def QNc:List (Nat × Md):=zdl [1,2,8,9]
def QJU:TCode:=.wk QNc Qus
def QOk:TCode :=
 (zsq [(.reg [zop 3 (.box 26 0 1),zmv 6 (zki 0),zmv 7 (zki 0)]),(zsq [(.reg [zLd 10 3 1,zmv 11 1,zca 12 136 [10,11],zno 13 12,zmv 14 13,.grp 14 false [zmv 15 2,zbi 16 .lss 15 (zki 0)] 17 16,zmv 18 17,.grp 18 false [zmv 19 2,zmv 20 1,zle 21 20,zbi 22 .gtr 19 21] 23 22]),(.cond 23 (zsq [(.reg [zmv 6 (zki 0),zmv 7 (zki 0)]),.ret]) .skip)]),(.draw [zfa 24 3 0,zld 25 24 1,zle 26 25,zmv 8 (zki 0),zmv 9 26] []),(zsq [(.reg [zmv 27 2,zbi 28 .gtr 27 (zki 0)]),(.cond 28 (.reg [zmv 29 1,zmv 30 2,zbi 31 .sub 30 (zki 1),zia 32 29 31 [TI],zld 33 32 1,zmv 8 33]) .skip)]),QJU])
def Qs5:List (ARv × Md):=[(.t 6,.one .d),(.t 7,.one .d)]
def QCy:Qb:=TQ 0 0 Qs5 K
def Qmq (m:List TOp') (cuts:List Int) (s:Int) (fro:Int):Prop:=tawp QvM 0 Qus (QCy K) ⟨[(1,(zcs [TI] cuts)),(2,(zci s)),(8,(zci fro)),(9,(zci (m.length:Int)))],[],0⟩
theorem QsS (m:List TOp') (cuts:List Int) (s:Int) (fro:Int) (h :
 (zif (decide (s<(cuts.length:Int))) (((0:Int)≤s∧Int.toNat s<cuts.length)∧K (QcW (fro,(gtd (0:Int) cuts (Int.toNat s))))) (K (QcW (fro,(m.length:Int)))))):Hold (Qmq K m cuts s fro) :=
 Hold.of (by kernel_rfl) h
theorem QRp (m:List TOp') (cuts:List Int) (s:Int) (h :
 (zif (((!(Q7 m cuts))||(decide (s<(0:Int))))||(decide (s>(cuts.length:Int)))) (K (QcW ((0:Int),(0:Int)))) (zif (decide (s>(0:Int))) (((0:Int)≤w64 (s-(1:Int))∧Int.toNat (w64 (s-(1:Int)))<cuts.length)∧(Qmq K m cuts s (gtd (0:Int) cuts (Int.toNat (w64 (s-(1:Int))))))) (Qmq K m cuts s 0)))):Hold (tawp QvM (0+0) QOk (TQ 0 0 Qs5 K) (Qf [(.a [(.c (.sl ctOp) m)]),(.c (.sl [TI]) cuts),(.c TI s)])) :=
 Hold.of (by kernel_rfl) h
theorem QM0 (m:List TOp') (cuts:List Int) (s:Int):TCon Tryz.prog 71 [(.a [(.c (.sl ctOp) m)]),(.c (.sl [TI]) cuts),(.c TI s)] (QcW (Qr m cuts s)):=by
 refine Qq rfl fun hb=>tcg (n:=44) (sg:=QeZ.sg) Ql (TOk.cons QqL TOk.nil) (by kernel_rfl) (by kernel_rfl) (QRp _ m cuts s ?_)
 have hl_m_0:(m).length≤9223372036854775807:=hb.1.1.1
 have hl_cuts:cuts.length≤9223372036854775807:=hb.2.1.1
 refine ⟨fun h=>R_eq (by grind [Qr,m_in]),fun h=>?_⟩
 have hc:Q7 m cuts=true∧0≤s∧s≤cuts.length:=by grind [m_in]
 have hl:=QaH hc.1
 have e1:(Q7 m cuts&&m_in s 0 cuts.length)=true:=by grind [m_in]
 refine ⟨fun h1=>?_,fun h1=>?_⟩
 ·have h1:0<s:=by simpa using h1
  rw [Qp (x:=s-1) (by omega) (by omega),show Int.toNat (s-1)=s.toNat-1 by omega]
  refine ⟨⟨by omega,by omega⟩,(QsS (fun r'=>r'=QcW (Qr m cuts s)) m cuts s _ ⟨fun h2=>?_,fun h2=>?_⟩).h⟩
  ·have h2:s<cuts.length:=by simpa using h2
   exact ⟨⟨by omega,by omega⟩,R_eq (by simp [Qr,e1,h1,h2])⟩
  ·exact R_eq (by simp at h2;simp [Qr,e1,h1,Int.not_lt.2 h2])
 ·have h1:¬ 0<s:=by simpa using h1
  refine (QsS (fun r'=>r'=QcW (Qr m cuts s)) m cuts s _ ⟨fun h2=>?_,fun h2=>?_⟩).h
  ·have h2:s<cuts.length:=by simpa using h2
   exact ⟨⟨by omega,by omega⟩,R_eq (by simp [Qr,e1,h1,h2])⟩
  ·exact R_eq (by simp at h2;simp [Qr,e1,h1,Int.not_lt.2 h2])
theorem Qn5:Qi Tryz.prog QeZ:=Qm fun x _=>QM0 x.1 x.2.1 x.2.2.1
def Qil (t:Int):TRes:=zre (zci t)
def Qcj:TRow:=Qj 59 [(.a QU)] fun x=>(none,Qil (QK x.1))
def QJ5:List TRow:=[QiZ]
def QRD:TCode :=
 (zsq [(.reg [zop 1 (.box 30 0 6),zmv 2 (zki 0)]),(zsq [(.reg [zfa 3 1 0,zLd 4 3 1,zfa 5 1 1,zld 6 5 1,zca 7 136 [4,6],zno 8 7]),(.cond 8 (zsq [(.reg [zmv 2 (zki 0)]),.ret]) .skip)]),(.reg [zfa 9 1 1,zld 10 9 1,zle 11 10,zbi 12 .add 11 (zki 1),zmv 2 12]),.ret])
def QDl:List (ARv × Md):=[(.t 2,.one .d)]
theorem QIT (c:Qo) (h :
 (zif (!(Q7 c.1 c.2.1)) (K (Qil (0:Int))) (K (Qil (w64 (((c.2.1).length:Int)+(1:Int))))))):Hold (tawp QJ5 (0+0) QRD (TQ 0 0 QDl K) (Qf [(.a (Tup.cells QU c))])) :=
 Hold.of (by kernel_rfl) h
theorem QEy (c:Qo):TCon Tryz.prog 59 [(.a (Tup.cells QU c))] (Qil (QK c)):=by
 refine Qq rfl fun hb=>tcg (n:=13) (sg:=Qcj.sg) Ql (TOk.cons QqL TOk.nil) (by kernel_rfl) (by kernel_rfl) (QIT _ c ?_)
 have hl_c_0:(c.1).length≤9223372036854775807:=hb.1.1.1
 have hl_c_1:(c.2.1).length≤9223372036854775807:=hb.1.2.1.1
 have hl_c_3:(c.2.2.2.1).length≤9223372036854775807:=hb.1.2.2.2.1.1
 have hl_c_4:(c.2.2.2.2.1).length≤9223372036854775807:=hb.1.2.2.2.2.1.1
 have hl_c_5:(c.2.2.2.2.2).length≤9223372036854775807:=hb.1.2.2.2.2.2.1.1
 grind [QK]
theorem Qed:Qi Tryz.prog Qcj:=Qm fun x _=>QEy x.1
end
end Go.Proofs.YtjbdljkhbglnhaaGreat.Am

