/- -/
import Derived.Test.YtdplaepmjogjjaaGreatVEP4
import Derived.Test.YtdplaepmjogjjaaGreatVEP1
namespace Go.Proofs.YtdplaepmjogjjaaGreat.Am
open Go Go.RowKit Go.Proofs.YtdplaepmjogjjaaGreat
set_option linter.all false
noncomputable section
variable (K:TRes→Prop)
def QiH (t:Bool):TRes:=zre (zcb t)
def Qku:TRow:=Qg 251 [(.a [(.sl ctOp)]),(.a Qj)] fun x=>(none,QiH (Ya x.1 x.2.1))
def Qnf:TTab:=⟨[YP,QgL,Qhz,QiW],false⟩
def QyE:TCode :=
 (zsq [(.reg [zop 2 (.box 77 0 1),zop 3 (.box 154 1 2),zmv 4 (zkb false)]),(.draw [zLd 5 2 1,zca 6 167 [5],zmv 7 6,.grp 7 true [zfa 8 3 0,zld 9 8 1,zLd 10 2 1,zca 11 101 [10],zca 12 100 [9,11]] 13 12,zmv 14 13,.grp 14 true [zfa 15 3 1,zld 16 15 1,zLd 17 2 1,zca 18 102 [17],zca 19 100 [16,18]] 20 19,zmv 4 20] [(3,6),(4,6),(10,13),(11,13)]),.ret])
def QHi:List (ARv × Md):=[(.t 4,.one .d)]
theorem QBU (m:List TOp') (p:Qc) (h :
 K (QiH (((QB m)&&(ZH p.1 (Z9 m)))&&(ZH p.2 (Yt m))))):Hold (tawp Qnf (0+0) QyE (TQ 0 0 QHi K) (Qe [(.a [(.c (.sl ctOp) m)]),(.a [(.c (.sl [TI]) p.1),(.c (.sl [TI]) p.2)])])) :=
 Hold.of (by kernel_rfl) h
theorem QzJ (m:List TOp') (p:Qc):TCon Tryz.prog 251 [(.a [(.c (.sl ctOp) m)]),(.a [(.c (.sl [TI]) p.1),(.c (.sl [TI]) p.2)])] (QiH (Ya m p)):=by
 refine Ql rfl fun hb=>tcg (Γ:=Qnf) (n:=21) (sg:=Qku.sg) Qk (TOkL.cons J0 (TOkL.cons QFd (TOkL.cons Qvd (TOkL.cons Qwk TOkL.nil)))) (by kernel_rfl) (by kernel_rfl) (QBU _ m p ?_)
 have hl_m_0:(m).length≤9223372036854775807:=hb.1.1.1
 have hl_p_0:(p.1).length≤9223372036854775807:=hb.2.1.1.1
 have hl_p_1:(p.2).length≤9223372036854775807:=hb.2.1.2.1.1
 exact R_eq rfl
theorem Qve:Qi Tryz.prog Qku:=Qm fun x _=>QzJ x.1 x.2.1
def J8 (t:Bool):TRes:=zre (zcb t)
def QjY:TRow:=Qg 198 [(.a [(.sl ctOp)]),(.c (.sl Qj))] fun x=>(none,J8 (Q9 x.1 x.2.1))
def QeW:TTab:=⟨[Y0,ZQ,Qjm,Qiv,QgZ],false⟩
def QqN:TCode :=
 (zsq [(zsq [(.reg [zmv 15 5,zmv 16 1,zle 17 16,zbi 18 .lss 15 17]),(.cond 18 .skip (.exit 0))]),(.block 1 (zsq [(.draw [zmv 21 1,zmv 22 5,zia 23 21 22 Qj,zfa 24 23 0,zld 25 24 1,zca 26 97 [25],zno 27 26,zmv 28 27,.grp 28 false [zmv 29 1,zmv 30 5,zia 31 29 30 Qj,zfa 32 31 1,zld 33 32 1,zca 34 97 [33],zno 35 34] 36 35,zmv 37 36,.grp 37 false [zmv 38 1,zmv 39 5,zia 40 38 39 Qj,zfa 41 40 0,zld 42 41 1,zle 43 42,zLd 44 2 1,zca 45 247 [44],zbi 46 .neq 43 45] 47 46,zmv 48 47,.grp 48 false [zmv 49 1,zmv 50 5,zia 51 49 50 Qj,zfa 52 51 1,zld 53 52 1,zle 54 53,zLd 55 2 1,zca 56 248 [55],zbi 57 .neq 54 56] 58 57] [(19,24),(20,24),(21,24),(22,24),(30,35),(31,35),(32,35),(33,35)]),(.cond 58 (zsq [(.reg [zmv 4 (zkb false)]),.ret]) .skip)])),(.reg [zmv 19 5,zbi 20 .add 19 (zki 1),zmv 5 20])])
def Qqt:List (Nat × Md):=[(1,.one .d),(2,.b [.d]),(5,.one .d)]
def QlQ:TCode :=
 (zsq [(.reg [zmv 4 (zkb true)]),.ret])
def QDW:TCode :=
 (zsq [(.reg [zop 2 (.box 77 0 1),zmv 4 (zkb false)]),(zsq [(.reg [zLd 6 2 1,zca 7 157 [6],zno 8 7,zmv 9 8,.grp 9 false [zmv 10 1,zle 11 10,zca 12 158 [11,(zki 1),(zki 5)],zno 13 12] 14 13]),(.cond 14 (zsq [(.reg [zmv 4 (zkb false)]),.ret]) .skip)]),(zsq [(.reg [zmv 5 (zki 0)]),(.block 0 (.loop Qqt QqN))]),QlQ])
def Qrv:List (ARv × Md):=[(.t 4,.one .d)]
def Qn6:Qb:=TQ 0 0 Qrv K
def QGc:Qb:=Qseq (tawp QeW 0 QlQ (Qn6 K)) (Qn6 K)
def Qyj:Qb:=Qblk 0 (QGc K)
def Qea (m:List TOp') (b:List Qc) (i:Int):Prop:=Loop QeW 0 Qqt QqN (Qyj K) ⟨[(1,(zcs Qj b)),(2,(.p 0 0 0)),(5,(zci i))],[(0,(.box [(zcs ctOp m)]))],1⟩
theorem Qnm (m:List TOp') (b:List Qc) (i:Int) (h :
 (zif (decide (i<(b.length:Int))) ((((0:Int)≤i∧Int.toNat i<b.length)∧(((!(!(Q5 ((gtd QC b (Int.toNat i)).1))))=true→((0:Int)≤i∧Int.toNat i<b.length))∧(((!((!(Q5 ((gtd QC b (Int.toNat i)).1)))||(!(Q5 ((gtd QC b (Int.toNat i)).2)))))=true→((0:Int)≤i∧Int.toNat i<b.length))∧((!(((!(Q5 ((gtd QC b (Int.toNat i)).1)))||(!(Q5 ((gtd QC b (Int.toNat i)).2))))||((((gtd QC b (Int.toNat i)).1).length:Int) != (Z9 m))))=true→((0:Int)≤i∧Int.toNat i<b.length)))))∧(zif ((((!(Q5 ((gtd QC b (Int.toNat i)).1)))||(!(Q5 ((gtd QC b (Int.toNat i)).2))))||((((gtd QC b (Int.toNat i)).1).length:Int) != (Z9 m)))||((((gtd QC b (Int.toNat i)).2).length:Int) != (Yt m))) (K (J8 false)) (Qea K m b (w64 (i+(1:Int)))))) (K (J8 true)))):Qea K m b i :=
 Loop.of (by kernel_rfl) h
theorem QGJ (m:List TOp') (b:List Qc) (h :
 (zif ((!(QB m))||(!(m_in (b.length:Int) (1:Int) (5:Int)))) (K (J8 false)) (Qea K m b 0))):Hold (tawp QeW (0+0) QDW (TQ 0 0 Qrv K) (Qe [(.a [(.c (.sl ctOp) m)]),(.c (.sl Qj) b)])) :=
 Hold.of (by kernel_rfl) h
theorem QH0 (m:List TOp') (b:List Qc):TCon Tryz.prog 198 [(.a [(.c (.sl ctOp) m)]),(.c (.sl Qj) b)] (J8 (Q9 m b)):=by
 refine Ql rfl fun hb=>tcg (Γ:=QeW) (n:=59) (sg:=QjY.sg) Qk (TOkL.cons Qan (TOkL.cons Yq (TOkL.cons Qyn (TOkL.cons QG7 (TOkL.cons QCZ TOkL.nil))))) (by kernel_rfl) (by kernel_rfl) (QGJ _ m b ?_)
 have hl_m_0:(m).length≤9223372036854775807:=hb.1.1.1
 have hl_b:b.length≤9223372036854775807:=hb.2.1.1
 refine ⟨fun h=>R_eq (by grind [Q9,m_in]),fun h=>?_⟩
 refine Zy b (fun r k=>r.all (Ya m)=b.all (Ya m)→Qea (fun r'=>r'=J8 (Q9 m b)) m b k) ?_ ?_ rfl
 ·intro he
  refine Qnm (fun r'=>r'=J8 (Q9 m b)) m b _ ⟨fun h=>by simp at h,fun _=>?_⟩
  grind [Q9]
 ·intro k x r hk hlt hg ih he
  refine Qnm (fun r'=>r'=J8 (Q9 m b)) m b _ ⟨fun _=>?_,fun h=>by simp at h;omega⟩
  rw [Int.toNat_natCast,hg,Qx (x:=(k:Int)+1) (by omega) (by omega)]
  have e:(!(Q5 x.1)||!(Q5 x.2)||((x.1.length:Int) != Z9 m)||((x.2.length:Int) != Yt m)) = !Ya m x:=by grind [Ya,ZH]
  rw [e]
  grind [Q9]
theorem QwW:Qi Tryz.prog QjY:=Qm fun x _=>QH0 x.1 x.2.1
def JV (t:Bool):TRes:=zre (zcb t)
def QjP:TRow:=Qg 205 [(.a [(.sl ctOp)]),(.c (.sl Qj))] fun x=>(none,JV (Q9 x.1 x.2.1))
def QdS:TTab:=⟨[YP,Qku],false⟩
def Qmr:TCode :=
 (zsq [(.reg [zbi 23 .lss 22 21]),(.cond 23 .skip (.exit 0)),(.block 1 (zsq [(.reg [zia 24 20 22 Qj,zLd 25 24 2,zop 6 (.new 154 (z0s Qj)),zst 6 25 2]),(.reg [zLd 26 2 1,zLd 27 6 2,zca 28 251 [26,27],zno 29 28]),(.cond 29 (zsq [(.reg [zmv 4 (zkb false)]),.ret]) .skip)])),(.reg [zbi 30 .add 22 (zki 1),zmv 22 30])])
def Qlc:List (Nat × Md):=[(2,.b [.d]),(20,.one .d),(21,.one .d),(22,.one .d)]
def QpP:TCode :=
 (zsq [(.reg [zmv 4 (zkb true)]),.ret])
def QDu:TCode :=
 (zsq [(.reg [zop 2 (.box 77 0 1),zmv 4 (zkb false)]),(zsq [(.reg [zLd 7 2 1,zca 8 167 [7],zno 9 8,zmv 10 9,.grp 10 false [zmv 11 1,zle 12 11,zbi 13 .lss 12 (zki 1)] 14 13,zmv 15 14,.grp 15 false [zmv 16 1,zle 17 16,zbi 18 .gtr 17 (zki 5)] 19 18]),(.cond 19 (zsq [(.reg [zmv 4 (zkb false)]),.ret]) .skip)]),(zsq [(.reg [zmv 20 1,zle 21 20,zmv 22 (zki 0)]),(.block 0 (.loop Qlc Qmr))]),QpP])
def QpK:List (ARv × Md):=[(.t 4,.one .d)]
def Qlw:Qb:=TQ 0 0 QpK K
def QHK:Qb:=Qseq (tawp QdS 0 QpP (Qlw K)) (Qlw K)
def QzE:Qb:=Qblk 0 (QHK K)
def Qke (m:List TOp') (b:List Qc) (x:Int):Prop:=Loop QdS 0 Qlc Qmr (QzE K) ⟨[(2,(.p 0 0 0)),(20,(zcs Qj b)),(21,(zci (b.length:Int))),(22,(zci x))],[(0,(.box [(zcs ctOp m)]))],1⟩
theorem QGV (m:List TOp') (b:List Qc) (x:Int) (h :
 (zif (decide (x<(b.length:Int))) (((0:Int)≤x∧Int.toNat x<b.length)∧(zif (!(Ya m (gtd QC b (Int.toNat x)))) (K (JV false)) (Qke K m b (w64 (x+(1:Int)))))) (K (JV true)))):Qke K m b x :=
 Loop.of (by kernel_rfl) h
theorem QJb (m:List TOp') (b:List Qc) (h :
 (zif (((!(QB m))||(decide ((b.length:Int)<(1:Int))))||(decide ((b.length:Int)>(5:Int)))) (K (JV false)) (Qke K m b 0))):Hold (tawp QdS (0+0) QDu (TQ 0 0 QpK K) (Qe [(.a [(.c (.sl ctOp) m)]),(.c (.sl Qj) b)])) :=
 Hold.of (by kernel_rfl) h
theorem QCr (m:List TOp') (b:List Qc):TCon Tryz.prog 205 [(.a [(.c (.sl ctOp) m)]),(.c (.sl Qj) b)] (JV (Q9 m b)):=by
 refine Ql rfl fun hb=>tcg (Γ:=QdS) (n:=31) (sg:=QjP.sg) Qk (TOkL.cons J0 (TOkL.cons Qve TOkL.nil)) (by kernel_rfl) (by kernel_rfl) (QJb _ m b ?_)
 have hl_m_0:(m).length≤9223372036854775807:=hb.1.1.1
 have hl_b:b.length≤9223372036854775807:=hb.2.1.1
 refine ⟨fun h=>R_eq (by grind [Q9,m_in]),fun h=>?_⟩
 exact QcY (Q:=fun x=>JV x=JV (Q9 m b)) (p:=Ya m) (c:=fun x=>!(Ya m x)) QC hl_b (fun _=>rfl) (fun i h=>QGV (fun r'=>r'=JV (Q9 m b)) m b i h) (R_eq (by grind [Q9,m_in]))
theorem QwP:Qi Tryz.prog QjP:=Qm fun x _=>QCr x.1 x.2.1
def QaU (t:Bool):TRes:=zre (zcb t)
def QcA:TRow:=Qg 199 [(.a [(.sl ctOp)]),(.c (.sl [TI]))] fun x=>(none,QaU (QE x.1 x.2.1))
def Qf2:TTab:=⟨[ZQ,Y0],false⟩
def QqH:TCode :=
 (zsq [(zsq [(.reg [zmv 6 5,zmv 7 1,zle 8 7,zbi 9 .lss 6 8]),(.cond 9 .skip (.exit 0))]),(.block 1 (zsq [(.draw [zmv 12 1,zmv 13 5,zia 14 12 13 [TI],zld 15 14 1,zfa 16 2 0,zld 17 16 1,zle 18 17,zbi 19 .sub 18 (zki 1),zca 20 158 [15,(zki 1),19],zno 21 20,zmv 22 21,.grp 22 false [zmv 23 5,zbi 24 .gtr 23 (zki 0),zmv 25 24,.grp 25 true [zmv 26 1,zmv 27 5,zia 28 26 27 [TI],zld 29 28 1,zmv 30 1,zmv 31 5,zbi 32 .sub 31 (zki 1),zia 33 30 32 [TI],zld 34 33 1,zbi 35 .leq 29 34] 36 35] 37 36] []),(.cond 37 (zsq [(.reg [zmv 4 (zkb false)]),.ret]) .skip)])),(.reg [zmv 10 5,zbi 11 .add 10 (zki 1),zmv 5 11])])
def QrM:List (Nat × Md):=[(1,.one .d),(2,.b [.d]),(5,.one .d)]
def Qma:TCode :=
 (zsq [(.reg [zLd 38 2 1,zca 39 157 [38],zmv 4 39]),.ret])
def QJz:TCode :=
 (zsq [(.reg [zop 2 (.box 77 0 1),zmv 4 (zkb false)]),(zsq [(.reg [zmv 5 (zki 0)]),(.block 0 (.loop QrM QqH))]),Qma])
def Qsb:List (ARv × Md):=[(.t 4,.one .d)]
def QqB:Qb:=TQ 0 0 Qsb K
def QI6:Qb:=Qseq (tawp Qf2 0 Qma (QqB K)) (QqB K)
def QAR:Qb:=Qblk 0 (QI6 K)
def Qds (m:List TOp') (cuts:List Int) (i:Int):Prop:=Loop Qf2 0 QrM QqH (QAR K) ⟨[(1,(zcs [TI] cuts)),(2,(.p 0 0 0)),(5,(zci i))],[(0,(.box [(zcs ctOp m)]))],1⟩
theorem Qtw (m:List TOp') (cuts:List Int) (i:Int) (h :
 (zif (decide (i<(cuts.length:Int))) ((((0:Int)≤i∧Int.toNat i<cuts.length)∧((!(!(m_in (gtd (0:Int) cuts (Int.toNat i)) (1:Int) (w64 ((m.length:Int)-(1:Int))))))=true→((decide (i>(0:Int)))=true→(((0:Int)≤i∧Int.toNat i<cuts.length)∧((0:Int)≤w64 (i-(1:Int))∧Int.toNat (w64 (i-(1:Int)))<cuts.length)))))∧(zif ((!(m_in (gtd (0:Int) cuts (Int.toNat i)) (1:Int) (w64 ((m.length:Int)-(1:Int)))))||((decide (i>(0:Int)))&&(decide ((gtd (0:Int) cuts (Int.toNat i))≤(gtd (0:Int) cuts (Int.toNat (w64 (i-(1:Int))))))))) (K (QaU false)) (Qds K m cuts (w64 (i+(1:Int)))))) (K (QaU (QB m))))):Qds K m cuts i :=
 Loop.of (by kernel_rfl) h
theorem Qwb (m:List TOp') (cuts:List Int) (h :
 (Qds K m cuts 0)):Hold (tawp Qf2 (0+0) QJz (TQ 0 0 Qsb K) (Qe [(.a [(.c (.sl ctOp) m)]),(.c (.sl [TI]) cuts)])) :=
 Hold.of (by kernel_rfl) h
theorem QwR (m:List TOp') (cuts:List Int):TCon Tryz.prog 199 [(.a [(.c (.sl ctOp) m)]),(.c (.sl [TI]) cuts)] (QaU (QE m cuts)):=by
 refine Ql rfl fun hb=>tcg (Γ:=Qf2) (n:=40) (sg:=QcA.sg) Qk (TOkL.cons Yq (TOkL.cons Qan TOkL.nil)) (by kernel_rfl) (by kernel_rfl) (Qwb _ m cuts ?_)
 have hl_m_0:(m).length≤9223372036854775807:=hb.1.1.1
 have hl_cuts:cuts.length≤9223372036854775807:=hb.2.1.1
 refine Zy cuts (fun r k=>Zx (m.length-1) (YN cuts k) r=Zx (m.length-1) none cuts→Qds (fun r'=>r'=QaU (QE m cuts)) m cuts k) ?_ ?_ rfl
 ·intro he
  refine Qtw (fun r'=>r'=QaU (QE m cuts)) m cuts _ ⟨fun h=>by simp at h,fun _=>?_⟩
  grind [Zx,QE]
 ·intro k x r hk hlt hg ih he
  refine Qtw (fun r'=>r'=QaU (QE m cuts)) m cuts _ ⟨fun _=>?_,fun h=>by simp at h;omega⟩
  rw [Int.toNat_natCast,hg,Qx (x:=(k:Int)+1) (by omega) (by omega),Qx (x:=(m.length:Int)-1) (by omega) (by omega)]
  have ep:YN cuts (k+1)=some x:=by simp [YN,hg]
  rw [ep] at ih
  rcases Nat.eq_zero_or_pos k with h0 | h0
  ·subst h0
   simp only [Zx,YN,if_true] at he
   grind [QE]
  ·have e2:=QbV h0 (by omega:k≤9223372036854775807)
   simp only [Zx,YN,if_neg (Nat.ne_of_gt h0)] at he
   grind [QE]
theorem QjT:Qi Tryz.prog QcA:=Qm fun x _=>QwR x.1 x.2.1
def J6 (t:Bool):TRes:=zre (zcb t)
def QdV:TRow:=Qg 208 [(.a [(.sl ctOp)]),(.c (.sl [TI]))] fun x=>(none,J6 (QE x.1 x.2.1))
def Qdm:TTab:=⟨[YP],false⟩
def Qng:TCode :=
 (zsq [(.reg [zbi 13 .lss 12 11]),(.cond 13 .skip (.exit 0)),(.block 1 (zsq [(.reg [zmv 14 12,zia 15 10 12 [TI],zld 16 15 1,zmv 5 14,zmv 6 16]),(.reg [zmv 17 6,zbi 18 .lss 17 (zki 1),zmv 19 18,.grp 19 false [zmv 20 6,zfa 21 2 0,zld 22 21 1,zle 23 22,zbi 24 .sub 23 (zki 1),zbi 25 .gtr 20 24] 26 25,zmv 27 26,.grp 27 false [zmv 28 5,zbi 29 .gtr 28 (zki 0),zmv 30 29,.grp 30 true [zmv 31 1,zmv 32 5,zbi 33 .sub 32 (zki 1),zia 34 31 33 [TI],zld 35 34 1,zmv 36 6,zbi 37 .geq 35 36] 38 37] 39 38]),(.cond 39 (zsq [(.reg [zmv 4 (zkb false)]),.ret]) .skip)])),(.reg [zbi 40 .add 12 (zki 1),zmv 12 40])])
def QrA:List (Nat × Md):=[(1,.one .d),(2,.b [.d]),(10,.one .d),(11,.one .d),(12,.one .d)]
def QpQ:TCode :=
 (zsq [(.reg [zmv 4 (zkb true)]),.ret])
def Qv9:TCode :=
 (zsq [(.reg [zop 2 (.box 77 0 1),zmv 4 (zkb false)]),(zsq [(.reg [zLd 7 2 1,zca 8 167 [7],zno 9 8]),(.cond 9 (zsq [(.reg [zmv 4 (zkb false)]),.ret]) .skip)]),(zsq [(.reg [zmv 10 1,zle 11 10,zmv 12 (zki 0)]),(.block 0 (.loop QrA Qng))]),QpQ])
def Qmp:List (ARv × Md):=[(.t 4,.one .d)]
def QqI:Qb:=TQ 0 0 Qmp K
def QxM:Qb:=Qseq (tawp Qdm 0 QpQ (QqI K)) (QqI K)
def QyH:Qb:=Qblk 0 (QxM K)
def Qei (m:List TOp') (cuts:List Int) (x:Int):Prop:=Loop Qdm 0 QrA Qng (QyH K) ⟨[(1,(zcs [TI] cuts)),(2,(.p 0 0 0)),(10,(zcs [TI] cuts)),(11,(zci (cuts.length:Int))),(12,(zci x))],[(0,(.box [(zcs ctOp m)]))],1⟩
theorem Qni (m:List TOp') (cuts:List Int) (x:Int) (h :
 (zif (decide (x<(cuts.length:Int))) (((0:Int)≤x∧Int.toNat x<cuts.length)∧(((!((decide ((gtd (0:Int) cuts (Int.toNat x))<(1:Int)))||(decide ((gtd (0:Int) cuts (Int.toNat x))>(w64 ((m.length:Int)-(1:Int)))))))=true→((decide (x>(0:Int)))=true→((0:Int)≤w64 (x-(1:Int))∧Int.toNat (w64 (x-(1:Int)))<cuts.length)))∧(zif (((decide ((gtd (0:Int) cuts (Int.toNat x))<(1:Int)))||(decide ((gtd (0:Int) cuts (Int.toNat x))>(w64 ((m.length:Int)-(1:Int))))))||((decide (x>(0:Int)))&&(decide ((gtd (0:Int) cuts (Int.toNat (w64 (x-(1:Int)))))≥(gtd (0:Int) cuts (Int.toNat x)))))) (K (J6 false)) (Qei K m cuts (w64 (x+(1:Int))))))) (K (J6 true)))):Qei K m cuts x :=
 Loop.of (by kernel_rfl) h
theorem Qzh (m:List TOp') (cuts:List Int) (h :
 (zif (!(QB m)) (K (J6 false)) (Qei K m cuts 0))):Hold (tawp Qdm (0+0) Qv9 (TQ 0 0 Qmp K) (Qe [(.a [(.c (.sl ctOp) m)]),(.c (.sl [TI]) cuts)])) :=
 Hold.of (by kernel_rfl) h
theorem QE2 (m:List TOp') (cuts:List Int):TCon Tryz.prog 208 [(.a [(.c (.sl ctOp) m)]),(.c (.sl [TI]) cuts)] (J6 (QE m cuts)):=by
 refine Ql rfl fun hb=>tcg (Γ:=Qdm) (n:=41) (sg:=QdV.sg) Qk (TOkL.cons J0 TOkL.nil) (by kernel_rfl) (by kernel_rfl) (Qzh _ m cuts ?_)
 have hl_m_0:(m).length≤9223372036854775807:=hb.1.1.1
 have hl_cuts:cuts.length≤9223372036854775807:=hb.2.1.1
 refine ⟨fun h=>R_eq (by grind [QE]),fun h=>?_⟩
 refine Zy cuts (fun r k=>Zx (m.length-1) (YN cuts k) r=Zx (m.length-1) none cuts→Qei (fun r'=>r'=J6 (QE m cuts)) m cuts k) ?_ ?_ rfl
 ·intro he
  refine Qni (fun r'=>r'=J6 (QE m cuts)) m cuts _ ⟨fun h=>by simp at h,fun _=>?_⟩
  grind [Zx,QE]
 ·intro k x r hk hlt hg ih he
  refine Qni (fun r'=>r'=J6 (QE m cuts)) m cuts _ ⟨fun _=>?_,fun h=>by simp at h;omega⟩
  rw [Int.toNat_natCast,hg,Qx (x:=(k:Int)+1) (by omega) (by omega),Qx (x:=(m.length:Int)-1) (by omega) (by omega)]
  have ep:YN cuts (k+1)=some x:=by simp [YN,hg]
  rw [ep] at ih
  rcases Nat.eq_zero_or_pos k with h0 | h0
  ·subst h0
   simp only [Zx,YN,if_true,m_in] at he
   grind [QE]
  ·have e2:=QbV h0 (by omega:k≤9223372036854775807)
   simp only [Zx,YN,if_neg (Nat.ne_of_gt h0),m_in] at he
   grind [QE]
theorem Qrn:Qi Tryz.prog QdV:=Qm fun x _=>QE2 x.1 x.2.1
def Qa6 (t:Int × Int):TRes:=zre (.tp [(zci t.1),(zci t.2)])
def QbG:TRow:=Qg 119 [(.a [(.sl ctOp)]),(.c (.sl [TI])),(.c TI)] fun x=>(none,Qa6 (Qo x.1 x.2.1 x.2.2.1))
def Qht:TTab:=⟨[QcA,ZQ],false⟩
def Qmh:TCode :=
 (zsq [(zsq [(.reg [zmv 31 2,zmv 32 1,zle 33 32,zbi 34 .lss 31 33]),(.cond 34 (.reg [zmv 35 1,zmv 36 2,zia 37 35 36 [TI],zld 38 37 1,zmv 9 38]) .skip)]),(.reg [zmv 39 8,zmv 40 9,zmv 6 39,zmv 7 40]),.ret])
def QF2:List (Nat × Md):=zdl [1,2,8,9]
def QBl:TCode:=.wk QF2 Qmh
def QCi:TCode :=
 (zsq [(.reg [zop 3 (.box 77 0 1),zmv 6 (zki 0),zmv 7 (zki 0)]),(zsq [(.reg [zLd 10 3 1,zmv 11 1,zca 12 199 [10,11],zno 13 12,zmv 14 13,.grp 14 false [zmv 15 2,zmv 16 1,zle 17 16,zca 18 158 [15,(zki 0),17],zno 19 18] 20 19]),(.cond 20 (zsq [(.reg [zmv 6 (zki 0),zmv 7 (zki 0)]),.ret]) .skip)]),(.reg [zmv 8 (zki 0)]),(.reg [zfa 21 3 0,zld 22 21 1,zle 23 22,zmv 9 23]),(zsq [(.reg [zmv 24 2,zbi 25 .gtr 24 (zki 0)]),(.cond 25 (.reg [zmv 26 1,zmv 27 2,zbi 28 .sub 27 (zki 1),zia 29 26 28 [TI],zld 30 29 1,zmv 8 30]) .skip)]),QBl])
def Qsc:List (ARv × Md):=[(.t 6,.one .d),(.t 7,.one .d)]
def QBF:Qb:=TQ 0 0 Qsc K
@[irreducible] def Qhe (m:List TOp') (cuts:List Int) (s:Int) (fro:Int):Prop:=tawp Qht 0 Qmh (QBF K) ⟨[(1,(zcs [TI] cuts)),(2,(zci s)),(8,(zci fro)),(9,(zci (m.length:Int)))],[],0⟩
theorem Qnt (m:List TOp') (cuts:List Int) (s:Int) (fro:Int) (h :
 (zif (decide (s<(cuts.length:Int))) (((0:Int)≤s∧Int.toNat s<cuts.length)∧K (Qa6 (fro,(gtd (0:Int) cuts (Int.toNat s))))) (K (Qa6 (fro,(m.length:Int)))))):Hold (Qhe K m cuts s fro) :=
 Hold.of (by kernel_rfl) h
theorem QGD (m:List TOp') (cuts:List Int) (s:Int) (h :
 (zif ((!(QE m cuts))||(!(m_in s (0:Int) (cuts.length:Int)))) (K (Qa6 ((0:Int),(0:Int)))) (zif (decide (s>(0:Int))) (((0:Int)≤w64 (s-(1:Int))∧Int.toNat (w64 (s-(1:Int)))<cuts.length)∧(Qhe K m cuts s (gtd (0:Int) cuts (Int.toNat (w64 (s-(1:Int))))))) (Qhe K m cuts s 0)))):Hold (tawp Qht (0+0) QCi (TQ 0 0 Qsc K) (Qe [(.a [(.c (.sl ctOp) m)]),(.c (.sl [TI]) cuts),(.c TI s)])) :=
 Hold.of (by kernel_rfl) h
theorem Qxe (m:List TOp') (cuts:List Int) (s:Int):TCon Tryz.prog 119 [(.a [(.c (.sl ctOp) m)]),(.c (.sl [TI]) cuts),(.c TI s)] (Qa6 (Qo m cuts s)):=by
 refine Ql rfl fun hb=>tcg (Γ:=Qht) (n:=41) (sg:=QbG.sg) Qk (TOkL.cons QjT (TOkL.cons Yq TOkL.nil)) (by kernel_rfl) (by kernel_rfl) (QGD _ m cuts s ?_)
 have hl_m_0:(m).length≤9223372036854775807:=hb.1.1.1
 have hl_cuts:cuts.length≤9223372036854775807:=hb.2.1.1
 refine ⟨fun h=>R_eq (by grind [Qo,m_in]),fun h=>?_⟩
 have hc:QE m cuts=true∧0≤s∧s≤cuts.length:=by grind [m_in]
 have hl:=QbS hc.1
 have e1:(QE m cuts&&m_in s 0 cuts.length)=true:=by grind [m_in]
 refine ⟨fun h1=>?_,fun h1=>?_⟩
 ·have h1:0<s:=by simpa using h1
  rw [Qx (x:=s-1) (by omega) (by omega),show Int.toNat (s-1)=s.toNat-1 by omega]
  refine ⟨⟨by omega,by omega⟩,(Qnt (fun r'=>r'=Qa6 (Qo m cuts s)) m cuts s _ ⟨fun h2=>?_,fun h2=>?_⟩).h⟩
  ·have h2:s<cuts.length:=by simpa using h2
   exact ⟨⟨by omega,by omega⟩,R_eq (by simp [Qo,e1,h1,h2])⟩
  ·exact R_eq (by simp at h2;simp [Qo,e1,h1,Int.not_lt.2 h2])
 ·have h1:¬ 0<s:=by simpa using h1
  refine (Qnt (fun r'=>r'=Qa6 (Qo m cuts s)) m cuts s _ ⟨fun h2=>?_,fun h2=>?_⟩).h
  ·have h2:s<cuts.length:=by simpa using h2
   exact ⟨⟨by omega,by omega⟩,R_eq (by simp [Qo,e1,h1,h2])⟩
  ·exact R_eq (by simp at h2;simp [Qo,e1,h1,Int.not_lt.2 h2])
theorem Qe9:Qi Tryz.prog QbG:=Qm fun x _=>Qxe x.1 x.2.1 x.2.2.1
def Qah (t:Int × Int):TRes:=zre (.tp [(zci t.1),(zci t.2)])
def Qc9:TRow:=Qg 128 [(.a [(.sl ctOp)]),(.c (.sl [TI])),(.c TI)] fun x=>(none,Qah (Qo x.1 x.2.1 x.2.2.1))
def QjF:TTab:=⟨[QdV],false⟩
def QpD:TCode :=
 (zsq [(zsq [(.reg [zmv 34 2,zmv 35 1,zle 36 35,zbi 37 .lss 34 36]),(.cond 37 (.reg [zmv 38 1,zmv 39 2,zia 40 38 39 [TI],zld 41 40 1,zmv 9 41]) .skip)]),(.reg [zmv 42 8,zmv 43 9,zmv 6 42,zmv 7 43]),.ret])
def QJC:List (Nat × Md):=zdl [1,2,8,9]
def QFu:TCode:=.wk QJC QpD
def QH1:TCode :=
 (zsq [(.reg [zop 3 (.box 77 0 1),zmv 6 (zki 0),zmv 7 (zki 0)]),(zsq [(.reg [zLd 10 3 1,zmv 11 1,zca 12 208 [10,11],zno 13 12,zmv 14 13,.grp 14 false [zmv 15 2,zbi 16 .lss 15 (zki 0)] 17 16,zmv 18 17,.grp 18 false [zmv 19 2,zmv 20 1,zle 21 20,zbi 22 .gtr 19 21] 23 22]),(.cond 23 (zsq [(.reg [zmv 6 (zki 0),zmv 7 (zki 0)]),.ret]) .skip)]),(.draw [zfa 24 3 0,zld 25 24 1,zle 26 25,zmv 8 (zki 0),zmv 9 26] []),(zsq [(.reg [zmv 27 2,zbi 28 .gtr 27 (zki 0)]),(.cond 28 (.reg [zmv 29 1,zmv 30 2,zbi 31 .sub 30 (zki 1),zia 32 29 31 [TI],zld 33 32 1,zmv 8 33]) .skip)]),QFu])
def QpG:List (ARv × Md):=[(.t 6,.one .d),(.t 7,.one .d)]
def QD8:Qb:=TQ 0 0 QpG K
@[irreducible] def Qik (m:List TOp') (cuts:List Int) (s:Int) (fro:Int):Prop:=tawp QjF 0 QpD (QD8 K) ⟨[(1,(zcs [TI] cuts)),(2,(zci s)),(8,(zci fro)),(9,(zci (m.length:Int)))],[],0⟩
theorem Qo1 (m:List TOp') (cuts:List Int) (s:Int) (fro:Int) (h :
 (zif (decide (s<(cuts.length:Int))) (((0:Int)≤s∧Int.toNat s<cuts.length)∧K (Qah (fro,(gtd (0:Int) cuts (Int.toNat s))))) (K (Qah (fro,(m.length:Int)))))):Hold (Qik K m cuts s fro) :=
 Hold.of (by kernel_rfl) h
theorem QEN (m:List TOp') (cuts:List Int) (s:Int) (h :
 (zif (((!(QE m cuts))||(decide (s<(0:Int))))||(decide (s>(cuts.length:Int)))) (K (Qah ((0:Int),(0:Int)))) (zif (decide (s>(0:Int))) (((0:Int)≤w64 (s-(1:Int))∧Int.toNat (w64 (s-(1:Int)))<cuts.length)∧(Qik K m cuts s (gtd (0:Int) cuts (Int.toNat (w64 (s-(1:Int))))))) (Qik K m cuts s 0)))):Hold (tawp QjF (0+0) QH1 (TQ 0 0 QpG K) (Qe [(.a [(.c (.sl ctOp) m)]),(.c (.sl [TI]) cuts),(.c TI s)])) :=
 Hold.of (by kernel_rfl) h
theorem QvM (m:List TOp') (cuts:List Int) (s:Int):TCon Tryz.prog 128 [(.a [(.c (.sl ctOp) m)]),(.c (.sl [TI]) cuts),(.c TI s)] (Qah (Qo m cuts s)):=by
 refine Ql rfl fun hb=>tcg (Γ:=QjF) (n:=44) (sg:=Qc9.sg) Qk (TOkL.cons Qrn TOkL.nil) (by kernel_rfl) (by kernel_rfl) (QEN _ m cuts s ?_)
 have hl_m_0:(m).length≤9223372036854775807:=hb.1.1.1
 have hl_cuts:cuts.length≤9223372036854775807:=hb.2.1.1
 refine ⟨fun h=>R_eq (by grind [Qo,m_in]),fun h=>?_⟩
 have hc:QE m cuts=true∧0≤s∧s≤cuts.length:=by grind [m_in]
 have hl:=QbS hc.1
 have e1:(QE m cuts&&m_in s 0 cuts.length)=true:=by grind [m_in]
 refine ⟨fun h1=>?_,fun h1=>?_⟩
 ·have h1:0<s:=by simpa using h1
  rw [Qx (x:=s-1) (by omega) (by omega),show Int.toNat (s-1)=s.toNat-1 by omega]
  refine ⟨⟨by omega,by omega⟩,(Qo1 (fun r'=>r'=Qah (Qo m cuts s)) m cuts s _ ⟨fun h2=>?_,fun h2=>?_⟩).h⟩
  ·have h2:s<cuts.length:=by simpa using h2
   exact ⟨⟨by omega,by omega⟩,R_eq (by simp [Qo,e1,h1,h2])⟩
  ·exact R_eq (by simp at h2;simp [Qo,e1,h1,Int.not_lt.2 h2])
 ·have h1:¬ 0<s:=by simpa using h1
  refine (Qo1 (fun r'=>r'=Qah (Qo m cuts s)) m cuts s _ ⟨fun h2=>?_,fun h2=>?_⟩).h
  ·have h2:s<cuts.length:=by simpa using h2
   exact ⟨⟨by omega,by omega⟩,R_eq (by simp [Qo,e1,h1,h2])⟩
  ·exact R_eq (by simp at h2;simp [Qo,e1,h1,Int.not_lt.2 h2])
theorem Qhc:Qi Tryz.prog Qc9:=Qm fun x _=>QvM x.1 x.2.1 x.2.2.1
def QfE (t:Int):TRes:=zre (zci t)
def Qhm:TRow:=Qg 118 [(.a Qv)] fun x=>(none,QfE (Qs x.1))
def QtN:TTab:=⟨[QcA],false⟩
def QG1:TCode :=
 (zsq [(.reg [zop 1 (.box 79 0 6),zmv 2 (zki 0)]),(zsq [(.reg [zfa 3 1 0,zLd 4 3 1,zfa 5 1 1,zld 6 5 1,zca 7 199 [4,6],zno 8 7]),(.cond 8 (zsq [(.reg [zmv 2 (zki 0)]),.ret]) .skip)]),(.reg [zfa 9 1 1,zld 10 9 1,zle 11 10,zbi 12 .add 11 (zki 1),zmv 2 12]),.ret])
def QBN:List (ARv × Md):=[(.t 2,.one .d)]
theorem Qya (c:Qf) (h :
 (zif (!(QE c.1 c.2.1)) (K (QfE (0:Int))) (K (QfE (w64 (((c.2.1).length:Int)+(1:Int))))))):Hold (tawp QtN (0+0) QG1 (TQ 0 0 QBN K) (Qe [(.a (Tup.cells Qv c))])) :=
 Hold.of (by kernel_rfl) h
theorem Qyg (c:Qf):TCon Tryz.prog 118 [(.a (Tup.cells Qv c))] (QfE (Qs c)):=by
 refine Ql rfl fun hb=>tcg (Γ:=QtN) (n:=13) (sg:=Qhm.sg) Qk (TOkL.cons QjT TOkL.nil) (by kernel_rfl) (by kernel_rfl) (Qya _ c ?_)
 have hl_c_0:(c.1).length≤9223372036854775807:=hb.1.1.1
 have hl_c_1:(c.2.1).length≤9223372036854775807:=hb.1.2.1.1
 have hl_c_3:(c.2.2.2.1).length≤9223372036854775807:=hb.1.2.2.2.1.1
 have hl_c_4:(c.2.2.2.2.1).length≤9223372036854775807:=hb.1.2.2.2.2.1.1
 have hl_c_5:(c.2.2.2.2.2).length≤9223372036854775807:=hb.1.2.2.2.2.2.1.1
 grind [Qs]
theorem Qyq:Qi Tryz.prog Qhm:=Qm fun x _=>Qyg x.1
def Qfp (t:Int):TRes:=zre (zci t)
def Qbz:TRow:=Qg 127 [(.a Qv)] fun x=>(none,Qfp (Qs x.1))
def Qri:TTab:=⟨[QdV],false⟩
def Qwq:TCode :=
 (zsq [(.reg [zop 1 (.box 79 0 6),zmv 2 (zki 0)]),(zsq [(.reg [zfa 3 1 0,zLd 4 3 1,zfa 5 1 1,zld 6 5 1,zca 7 208 [4,6],zno 8 7]),(.cond 8 (zsq [(.reg [zmv 2 (zki 0)]),.ret]) .skip)]),(.reg [zfa 9 1 1,zld 10 9 1,zle 11 10,zbi 12 .add 11 (zki 1),zmv 2 12]),.ret])
def QER:List (ARv × Md):=[(.t 2,.one .d)]
theorem QBr (c:Qf) (h :
 (zif (!(QE c.1 c.2.1)) (K (Qfp (0:Int))) (K (Qfp (w64 (((c.2.1).length:Int)+(1:Int))))))):Hold (tawp Qri (0+0) Qwq (TQ 0 0 QER K) (Qe [(.a (Tup.cells Qv c))])) :=
 Hold.of (by kernel_rfl) h
theorem QEx (c:Qf):TCon Tryz.prog 127 [(.a (Tup.cells Qv c))] (Qfp (Qs c)):=by
 refine Ql rfl fun hb=>tcg (Γ:=Qri) (n:=13) (sg:=Qbz.sg) Qk (TOkL.cons Qrn TOkL.nil) (by kernel_rfl) (by kernel_rfl) (QBr _ c ?_)
 have hl_c_0:(c.1).length≤9223372036854775807:=hb.1.1.1
 have hl_c_1:(c.2.1).length≤9223372036854775807:=hb.1.2.1.1
 have hl_c_3:(c.2.2.2.1).length≤9223372036854775807:=hb.1.2.2.2.1.1
 have hl_c_4:(c.2.2.2.2.1).length≤9223372036854775807:=hb.1.2.2.2.2.1.1
 have hl_c_5:(c.2.2.2.2.2).length≤9223372036854775807:=hb.1.2.2.2.2.2.1.1
 grind [Qs]
theorem Qd7:Qi Tryz.prog Qbz:=Qm fun x _=>QEx x.1
end
end Go.Proofs.YtdplaepmjogjjaaGreat.Am

