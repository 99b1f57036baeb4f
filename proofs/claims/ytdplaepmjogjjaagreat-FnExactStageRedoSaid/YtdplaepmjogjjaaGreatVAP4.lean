/- -/
import Derived.Test.YtdplaepmjogjjaaGreatVAP1
namespace Go.Proofs.YtdplaepmjogjjaaGreat.Am
open Go Go.RowKit Go.Proofs.YtdplaepmjogjjaaGreat
set_option linter.all false
noncomputable section
variable (K:TRes→Prop)
def YY (t:Int):TRes:=zre (zci t)
def Qg7:TRow:=Qh 253 [(.a ctOp)] fun x=>(none,YY (ZD x.1))
def QeM:TTab:=⟨[YV],false⟩
def Qlh:TCode :=
 (.cond 15 (zsq [(.reg [zfa 18 1 1,zld 19 18 1,zfa 20 1 2,zld 21 20 1,zbi 22 .mul 19 21,zmv 2 22]),.ret]) (zsq [(.reg [zbi 24 .eql 14 (zki 2),zmv 23 24]),(.cond 23 (zsq [(.reg [zfa 25 1 1,zld 26 25 1,zmv 2 26]),.ret]) (zsq [(.reg [zbi 28 .eql 14 (zki 4),zmv 27 28]),(.cond 27 (zsq [(.reg [zmv 2 (zki 1)]),.ret]) .skip)]))]))
def Qty:List (Nat × Md):=[(1,.b (zds 4)),(14,.one .d),(15,.one .d)]
def Qvi:TCode:=.wk Qty Qlh
def Qnt:TCode :=
 (zsq [(.reg [zmv 2 (zki 0)]),.ret])
def QzC:TCode :=
 (zsq [(.reg [zop 1 (.box 134 0 4),zmv 2 (zki 0)]),(zsq [(.reg [zfa 3 1 1,zld 4 3 1,zca 5 158 [4,(zki 1),(zki 6)],zno 6 5,zmv 7 6,.grp 7 false [zfa 8 1 2,zld 9 8 1,zca 10 158 [9,(zki 1),(zki 6)],zno 11 10] 12 11]),(.cond 12 (zsq [(.reg [zmv 2 (zki 0)]),.ret]) .skip)]),(zsq [(.reg [zfa 13 1 0,zld 14 13 1]),(.block 0 (zsq [(zsq [(.reg [zbi 16 .eql 14 (zki 1),zmv 15 16]),(.cond 15 .skip (.reg [zbi 17 .eql 14 (zki 5),zmv 15 17]))]),Qvi]))]),Qnt])
def Qsc:List (ARv × Md):=[(.t 2,.one .d)]
def Qkb:Qb:=TQ 0 0 Qsc K
def QuD:Qb:=Qseq (tawp QeM 0 Qnt (Qkb K)) (Qkb K)
def QwR:Qb:=Qblk 0 (QuD K)
@[irreducible] def Qjg (o:TOp') (x:Bool):Prop:=tawp QeM 0 Qlh (QwR K) ⟨[(1,(.p 0 0 0)),(14,(zci o.1)),(15,(zcb x))],[(0,(.box (Tup.cells ctOp o)))],1⟩
theorem Qly (o:TOp') (x:Bool) (h :
 (zif x (K (YY (w64 (o.2.1*o.2.2.1)))) (zif (o.1==(2:Int)) (K (YY o.2.1)) (zif (o.1==(4:Int)) (K (YY (1:Int))) (K (YY (0:Int))))))):Hold (Qjg K o x) :=
 Hold.of (by kernel_rfl) h
theorem QCM (o:TOp') (h :
 (zif ((!(m_in o.2.1 (1:Int) (6:Int)))||(!(m_in o.2.2.1 (1:Int) (6:Int)))) (K (YY (0:Int))) (zif (o.1==(1:Int)) (Qjg K o (o.1==(1:Int))) (Qjg K o (o.1==(5:Int)))))):Hold (tawp QeM (0+0) QzC (TQ 0 0 Qsc K) (Qf [(.a (Tup.cells ctOp o))])) :=
 Hold.of (by kernel_rfl) h
theorem Qza (o:TOp'):TCon Tryz.prog 253 [(.a (Tup.cells ctOp o))] (YY (ZD o)):=by
 refine Qj rfl fun hb=>tcg (Γ:=QeM) (n:=29) (sg:=Qg7.sg) Qi (TOkL.cons JX TOkL.nil) (by kernel_rfl) (by kernel_rfl) (QCM _ o ?_)
 have hl_o_3:(o.2.2.2).length≤9223372036854775807:=hb.1.2.2.2.1.1
 refine ⟨fun h=>R_eq (by grind [ZD]),fun h=>?_⟩
 have hi:m_in o.2.1 1 6=true∧m_in o.2.2.1 1 6=true:=by simpa using h
 have hm:=QaN (Zf.1 hi.1).1 (Zf.1 hi.1).2 (Zf.1 hi.2).1 (Zf.1 hi.2).2
 have hw:=Qv (x:=o.2.1*o.2.2.1) (by omega) (by omega)
 refine ⟨fun h1=>(Qly (fun r'=>r'=YY (ZD o)) o _ ?_).h,fun h1=>(Qly (fun r'=>r'=YY (ZD o)) o _ ?_).h⟩ <;> grind [ZD]
theorem QAF:Qg Tryz.prog Qg7:=Qk fun x _=>Qza x.1
def Jh (t:Int):TRes:=zre (zci t)
def Qig:TRow:=Qh 257 [(.a ctOp)] fun x=>(none,Jh (ZD x.1))
def Qef:TTab:=⟨[],false⟩
def Qr2:TCode :=
 (.cond 23 (zsq [(.reg [zfa 26 1 1,zld 27 26 1,zfa 28 1 2,zld 29 28 1,zbi 30 .mul 27 29,zmv 2 30]),.ret]) (zsq [(.reg [zbi 32 .eql 22 (zki 2),zmv 31 32]),(.cond 31 (zsq [(.reg [zfa 33 1 1,zld 34 33 1,zmv 2 34]),.ret]) (zsq [(.reg [zbi 36 .eql 22 (zki 4),zmv 35 36]),(.cond 35 (zsq [(.reg [zmv 2 (zki 1)]),.ret]) .skip)]))]))
def QuH:List (Nat × Md):=[(1,.b (zds 4)),(22,.one .d),(23,.one .d)]
def QB4:TCode:=.wk QuH Qr2
def Qmp:TCode :=
 (zsq [(.reg [zmv 2 (zki 0)]),.ret])
def QFJ:TCode :=
 (zsq [(.reg [zop 1 (.box 134 0 4),zmv 2 (zki 0)]),(zsq [(.reg [zfa 3 1 1,zld 4 3 1,zbi 5 .lss 4 (zki 1),zmv 6 5,.grp 6 false [zfa 7 1 1,zld 8 7 1,zbi 9 .gtr 8 (zki 6)] 10 9,zmv 11 10,.grp 11 false [zfa 12 1 2,zld 13 12 1,zbi 14 .lss 13 (zki 1)] 15 14,zmv 16 15,.grp 16 false [zfa 17 1 2,zld 18 17 1,zbi 19 .gtr 18 (zki 6)] 20 19]),(.cond 20 (zsq [(.reg [zmv 2 (zki 0)]),.ret]) .skip)]),(zsq [(.reg [zfa 21 1 0,zld 22 21 1]),(.block 0 (zsq [(zsq [(.reg [zbi 24 .eql 22 (zki 1),zmv 23 24]),(.cond 23 .skip (.reg [zbi 25 .eql 22 (zki 5),zmv 23 25]))]),QB4]))]),Qmp])
def QsG:List (ARv × Md):=[(.t 2,.one .d)]
def QpT:Qb:=TQ 0 0 QsG K
def Qxj:Qb:=Qseq (tawp Qef 0 Qmp (QpT K)) (QpT K)
def QBy:Qb:=Qblk 0 (Qxj K)
@[irreducible] def Qg1 (o:TOp') (x:Bool):Prop:=tawp Qef 0 Qr2 (QBy K) ⟨[(1,(.p 0 0 0)),(22,(zci o.1)),(23,(zcb x))],[(0,(.box (Tup.cells ctOp o)))],1⟩
theorem Qsb (o:TOp') (x:Bool) (h :
 (zif x (K (Jh (w64 (o.2.1*o.2.2.1)))) (zif (o.1==(2:Int)) (K (Jh o.2.1)) (zif (o.1==(4:Int)) (K (Jh (1:Int))) (K (Jh (0:Int))))))):Hold (Qg1 K o x) :=
 Hold.of (by kernel_rfl) h
theorem QAT (o:TOp') (h :
 (zif ((((decide (o.2.1<(1:Int)))||(decide (o.2.1>(6:Int))))||(decide (o.2.2.1<(1:Int))))||(decide (o.2.2.1>(6:Int)))) (K (Jh (0:Int))) (zif (o.1==(1:Int)) (Qg1 K o (o.1==(1:Int))) (Qg1 K o (o.1==(5:Int)))))):Hold (tawp Qef (0+0) QFJ (TQ 0 0 QsG K) (Qf [(.a (Tup.cells ctOp o))])) :=
 Hold.of (by kernel_rfl) h
theorem QuF (o:TOp'):TCon Tryz.prog 257 [(.a (Tup.cells ctOp o))] (Jh (ZD o)):=by
 refine Qj rfl fun hb=>tcg (Γ:=Qef) (n:=37) (sg:=Qig.sg) Qi TOkL.nil (by kernel_rfl) (by kernel_rfl) (QAT _ o ?_)
 have hl_o_3:(o.2.2.2).length≤9223372036854775807:=hb.1.2.2.2.1.1
 refine ⟨fun h=>R_eq (by grind [ZD,m_in]),fun h=>?_⟩
 have hi:m_in o.2.1 1 6=true∧m_in o.2.2.1 1 6=true:=by grind [m_in]
 have hm:=QaN (Zf.1 hi.1).1 (Zf.1 hi.1).2 (Zf.1 hi.2).1 (Zf.1 hi.2).2
 have hw:=Qv (x:=o.2.1*o.2.2.1) (by omega) (by omega)
 refine ⟨fun h1=>(Qsb (fun r'=>r'=Jh (ZD o)) o _ ?_).h,fun h1=>(Qsb (fun r'=>r'=Jh (ZD o)) o _ ?_).h⟩ <;> grind [ZD]
theorem Qw3:Qg Tryz.prog Qig:=Qk fun x _=>QuF x.1
def JF (t:Bool):TRes:=zre (zcb t)
def QdX:TRow:=Qh 222 [(.a ctOp)] fun x=>(none,JF (QT x.1))
def Qfg:TTab:=⟨[YV,Qg7,Qa3],false⟩
def QrY:TCode :=
 (zsq [(zsq [(.reg [zmv 40 3,zfa 41 1 3,zld 42 41 1,zle 43 42,zbi 44 .lss 40 43]),(.cond 44 .skip (.exit 0))]),(.block 1 (zsq [(.reg [zfa 47 1 3,zld 48 47 1,zmv 49 3,zia 50 48 49 [TI],zld 51 50 1,zca 52 183 [51],zno 53 52]),(.cond 53 (zsq [(.reg [zmv 2 (zkb false)]),.ret]) .skip)])),(.reg [zmv 45 3,zbi 46 .add 45 (zki 1),zmv 3 46])])
def Qsd:List (Nat × Md):=[(1,.b (zds 4)),(3,.one .d)]
def Qrc:TCode :=
 (zsq [(.reg [zmv 2 (zkb true)]),.ret])
def QEV:TCode :=
 (zsq [(.reg [zop 1 (.box 134 0 4),zmv 2 (zkb false)]),(zsq [(.draw [zfa 4 1 0,zld 5 4 1,zca 6 158 [5,(zki 1),(zki 5)],zno 7 6,zmv 8 7,.grp 8 false [zfa 9 1 1,zld 10 9 1,zca 11 158 [10,(zki 1),(zki 6)],zno 12 11] 13 12,zmv 14 13,.grp 14 false [zfa 15 1 2,zld 16 15 1,zca 17 158 [16,(zki 1),(zki 6)],zno 18 17] 19 18,zmv 20 19,.grp 20 false [zfa 21 1 0,zld 22 21 1,zbi 23 .neq 22 (zki 1),zmv 24 23,.grp 24 true [zfa 25 1 1,zld 26 25 1,zfa 27 1 2,zld 28 27 1,zbi 29 .neq 26 28] 30 29] 31 30,zmv 32 31,.grp 32 false [zfa 33 1 3,zld 34 33 1,zle 35 34,zLd 36 1 4,zca 37 253 [36],zbi 38 .neq 35 37] 39 38] [(29,33),(30,33),(31,33)]),(.cond 39 (zsq [(.reg [zmv 2 (zkb false)]),.ret]) .skip)]),(zsq [(.reg [zmv 3 (zki 0)]),(.block 0 (.loop Qsd QrY))]),Qrc])
def Qll:List (ARv × Md):=[(.t 2,.one .d)]
def QjO:Qb:=TQ 0 0 Qll K
def QDO:Qb:=Qseq (tawp Qfg 0 Qrc (QjO K)) (QjO K)
def Qxi:Qb:=Qblk 0 (QDO K)
def Qht (o:TOp') (i:Int):Prop:=Loop Qfg 0 Qsd QrY (Qxi K) ⟨[(1,(.p 0 0 0)),(3,(zci i))],[(0,(.box (Tup.cells ctOp o)))],1⟩
theorem QFj (o:TOp') (i:Int) (h :
 (zif (decide (i<((o.2.2.2).length:Int))) (((0:Int)≤i∧Int.toNat i<(o.2.2.2).length)∧(zif (!(Q5 (gtd (0:Int) o.2.2.2 (Int.toNat i)))) (K (JF false)) (Qht K o (w64 (i+(1:Int)))))) (K (JF true)))):Qht K o i :=
 Loop.of (by kernel_rfl) h
theorem Qwl (o:TOp') (h :
 (zif (((((!(m_in o.1 (1:Int) (5:Int)))||(!(m_in o.2.1 (1:Int) (6:Int))))||(!(m_in o.2.2.1 (1:Int) (6:Int))))||((o.1 != (1:Int))&&(o.2.1 != o.2.2.1)))||(((o.2.2.2).length:Int) != (ZD o))) (K (JF false)) (Qht K o 0))):Hold (tawp Qfg (0+0) QEV (TQ 0 0 Qll K) (Qf [(.a (Tup.cells ctOp o))])) :=
 Hold.of (by kernel_rfl) h
theorem Qzw (o:TOp'):TCon Tryz.prog 222 [(.a (Tup.cells ctOp o))] (JF (QT o)):=by
 refine Qj rfl fun hb=>tcg (Γ:=Qfg) (n:=54) (sg:=QdX.sg) Qi (TOkL.cons JX (TOkL.cons QAF (TOkL.cons QdA TOkL.nil))) (by kernel_rfl) (by kernel_rfl) (Qwl _ o ?_)
 have hl_o_3:(o.2.2.2).length≤9223372036854775807:=hb.1.2.2.2.1.1
 refine ⟨fun h=>R_eq (by grind [QT]),fun h=>?_⟩
 exact Qeg (Q:=fun x=>JF x=JF (QT o)) (p:=Q5) (c:=fun x=>!(Q5 x)) 0 hl_o_3 (fun _=>rfl) (fun i h=>QFj (fun r'=>r'=JF (QT o)) o i h) (R_eq (by grind [QT,ZK]))
theorem Qsw:Qg Tryz.prog QdX:=Qk fun x _=>Qzw x.1
def QbR (t:Bool):TRes:=zre (zcb t)
def Qdr:TRow:=Qh 228 [(.a ctOp)] fun x=>(none,QbR (QT x.1))
def Qrd:TTab:=⟨[Qig,Qb2],false⟩
def Qwx:TCode :=
 (zsq [(.reg [zop 1 (.box 134 0 4),zmv 2 (zkb false)]),(zsq [(.reg [zfa 3 1 0,zld 4 3 1,zbi 5 .lss 4 (zki 1),zmv 6 5,.grp 6 false [zfa 7 1 0,zld 8 7 1,zbi 9 .gtr 8 (zki 5)] 10 9,zmv 11 10,.grp 11 false [zfa 12 1 1,zld 13 12 1,zbi 14 .lss 13 (zki 1)] 15 14,zmv 16 15,.grp 16 false [zfa 17 1 1,zld 18 17 1,zbi 19 .gtr 18 (zki 6)] 20 19,zmv 21 20,.grp 21 false [zfa 22 1 2,zld 23 22 1,zbi 24 .lss 23 (zki 1)] 25 24,zmv 26 25,.grp 26 false [zfa 27 1 2,zld 28 27 1,zbi 29 .gtr 28 (zki 6)] 30 29]),(.cond 30 (zsq [(.reg [zmv 2 (zkb false)]),.ret]) .skip)]),(zsq [(.reg [zfa 31 1 0,zld 32 31 1,zbi 33 .neq 32 (zki 1),zmv 34 33,.grp 34 true [zfa 35 1 1,zld 36 35 1,zfa 37 1 2,zld 38 37 1,zbi 39 .neq 36 38] 40 39]),(.cond 40 (zsq [(.reg [zmv 2 (zkb false)]),.ret]) .skip)]),(.draw [zfa 41 1 3,zld 42 41 1,zle 43 42,zLd 44 1 4,zca 45 257 [44],zbi 46 .eql 43 45,zmv 47 46,.grp 47 true [zfa 48 1 3,zld 49 48 1,zca 50 238 [49]] 51 50,zmv 2 51] [(0,4),(1,4),(2,4)]),.ret])
def QBc:List (ARv × Md):=[(.t 2,.one .d)]
theorem Qvf (o:TOp') (h :
 (zif ((((((decide (o.1<(1:Int)))||(decide (o.1>(5:Int))))||(decide (o.2.1<(1:Int))))||(decide (o.2.1>(6:Int))))||(decide (o.2.2.1<(1:Int))))||(decide (o.2.2.1>(6:Int)))) (K (QbR false)) (zif ((o.1 != (1:Int))&&(o.2.1 != o.2.2.1)) (K (QbR false)) (K (QbR ((((o.2.2.2).length:Int)==(ZD o))&&(ZK o.2.2.2))))))):Hold (tawp Qrd (0+0) Qwx (TQ 0 0 QBc K) (Qf [(.a (Tup.cells ctOp o))])) :=
 Hold.of (by kernel_rfl) h
theorem Qwp (o:TOp'):TCon Tryz.prog 228 [(.a (Tup.cells ctOp o))] (QbR (QT o)):=by
 refine Qj rfl fun hb=>tcg (Γ:=Qrd) (n:=52) (sg:=Qdr.sg) Qi (TOkL.cons Qw3 (TOkL.cons Qhd TOkL.nil)) (by kernel_rfl) (by kernel_rfl) (Qvf _ o ?_)
 have hl_o_3:(o.2.2.2).length≤9223372036854775807:=hb.1.2.2.2.1.1
 grind [QT,m_in]
theorem Qrh:Qg Tryz.prog Qdr:=Qk fun x _=>Qwp x.1
def QaK (t:Bool):TRes:=zre (zcb t)
def Qgv:TRow:=Qh 157 [(.a [(.sl ctOp)])] fun x=>(none,QaK (QF x.1))
def Qfh:TTab:=⟨[QdX,YV],false⟩
def QkG:TCode :=
 (zsq [(zsq [(.reg [zmv 4 3,zfa 5 1 0,zld 6 5 1,zle 7 6,zbi 8 .lss 4 7]),(.cond 8 .skip (.exit 0))]),(.block 1 (zsq [(.draw [zfa 11 1 0,zld 12 11 1,zmv 13 3,zia 14 12 13 ctOp,zLd 15 14 4,zca 16 222 [15],zno 17 16,zmv 18 17,.grp 18 false [zmv 19 3,zbi 20 .gtr 19 (zki 0),zmv 21 20,.grp 21 true [zfa 22 1 0,zld 23 22 1,zmv 24 3,zia 25 23 24 ctOp,zfa 26 25 1,zld 27 26 1,zfa 28 1 0,zld 29 28 1,zmv 30 3,zbi 31 .sub 30 (zki 1),zia 32 29 31 ctOp,zfa 33 32 2,zld 34 33 1,zbi 35 .neq 27 34] 36 35] 37 36] []),(.cond 37 (zsq [(.reg [zmv 2 (zkb false)]),.ret]) .skip)])),(.reg [zmv 9 3,zbi 10 .add 9 (zki 1),zmv 3 10])])
def Qkc:List (Nat × Md):=[(1,.b [.d]),(3,.one .d)]
def QlU:TCode :=
 (zsq [(.reg [zfa 38 1 0,zld 39 38 1,zle 40 39,zca 41 158 [40,(zki 1),(zki 8)],zmv 2 41]),.ret])
def QvB:TCode :=
 (zsq [(.reg [zop 1 (.box 77 0 1),zmv 2 (zkb false)]),(zsq [(.reg [zmv 3 (zki 0)]),(.block 0 (.loop Qkc QkG))]),QlU])
def QkY:List (ARv × Md):=[(.t 2,.one .d)]
def QpE:Qb:=TQ 0 0 QkY K
def QGH:Qb:=Qseq (tawp Qfh 0 QlU (QpE K)) (QpE K)
def Qww:Qb:=Qblk 0 (QGH K)
def Qc8 (m:List TOp') (i:Int):Prop:=Loop Qfh 0 Qkc QkG (Qww K) ⟨[(1,(.p 0 0 0)),(3,(zci i))],[(0,(.box [(zcs ctOp m)]))],1⟩
theorem QrI (m:List TOp') (i:Int) (h :
 (zif (decide (i<(m.length:Int))) ((((0:Int)≤i∧Int.toNat i<m.length)∧((!(!(QT (gtd dOp m (Int.toNat i)))))=true→((decide (i>(0:Int)))=true→(((0:Int)≤i∧Int.toNat i<m.length)∧((0:Int)≤w64 (i-(1:Int))∧Int.toNat (w64 (i-(1:Int)))<m.length)))))∧(zif ((!(QT (gtd dOp m (Int.toNat i))))||((decide (i>(0:Int)))&&(((gtd dOp m (Int.toNat i)).2.1) != ((gtd dOp m (Int.toNat (w64 (i-(1:Int))))).2.2.1)))) (K (QaK false)) (Qc8 K m (w64 (i+(1:Int)))))) (K (QaK (m_in (m.length:Int) (1:Int) (8:Int)))))):Qc8 K m i :=
 Loop.of (by kernel_rfl) h
theorem QvT (m:List TOp') (h :
 (Qc8 K m 0)):Hold (tawp Qfh (0+0) QvB (TQ 0 0 QkY K) (Qf [(.a [(.c (.sl ctOp) m)])])) :=
 Hold.of (by kernel_rfl) h
theorem QCN (m:List TOp'):TCon Tryz.prog 157 [(.a [(.c (.sl ctOp) m)])] (QaK (QF m)):=by
 refine Qj rfl fun hb=>tcg (Γ:=Qfh) (n:=42) (sg:=Qgv.sg) Qi (TOkL.cons Qsw (TOkL.cons JX TOkL.nil)) (by kernel_rfl) (by kernel_rfl) (QvT _ m ?_)
 have hl_m_0:(m).length≤9223372036854775807:=hb.1.1.1
 refine Zj m (fun r k=>ZN (YB m k) r=ZN none m→Qc8 (fun r'=>r'=QaK (QF m)) m k) ?_ ?_ rfl
 ·intro he
  refine QrI (fun r'=>r'=QaK (QF m)) m _ ⟨fun h=>by simp at h,fun _=>?_⟩
  grind [ZN,QF]
 ·intro k x r hk hlt hg ih he
  refine QrI (fun r'=>r'=QaK (QF m)) m _ ⟨fun _=>?_,fun h=>by simp at h;omega⟩
  rw [Int.toNat_natCast,hg,Qv (x:=(k:Int)+1) (by omega) (by omega)]
  have ep:YB m (k+1)=some x.2.2.1:=by simp [YB,hg]
  rw [ep] at ih
  rcases Nat.eq_zero_or_pos k with h0 | h0
  ·subst h0
   simp only [ZN,YB,if_true] at he
   grind [QF]
  ·have e2:=Qa6 h0 (by omega:k≤9223372036854775807)
   simp only [ZN,YB,if_neg (Nat.ne_of_gt h0)] at he
   grind [QF]
theorem QFx:Qg Tryz.prog Qgv:=Qk fun x _=>QCN x.1
def Jo (t:Bool):TRes:=zre (zcb t)
def Qbh:TRow:=Qh 167 [(.a [(.sl ctOp)])] fun x=>(none,Jo (QF x.1))
def Qfj:TTab:=⟨[Qdr],false⟩
def Qon:TCode :=
 (zsq [(.reg [zbi 19 .lss 18 17]),(.cond 19 .skip (.exit 0)),(.block 1 (zsq [(.reg [zmv 20 18,zia 21 16 18 ctOp,zLd 22 21 4,zop 4 (.new 134 (z0s ctOp)),zmv 3 20,zst 4 22 4]),(.draw [zLd 23 4 4,zca 24 228 [23],zno 25 24,zmv 26 25,.grp 26 false [zmv 27 3,zbi 28 .gtr 27 (zki 0),zmv 29 28,.grp 29 true [zfa 30 1 0,zld 31 30 1,zmv 32 3,zbi 33 .sub 32 (zki 1),zia 34 31 33 ctOp,zfa 35 34 2,zld 36 35 1,zfa 37 4 1,zld 38 37 1,zbi 39 .neq 36 38] 40 39] 41 40] []),(.cond 41 (zsq [(.reg [zmv 2 (zkb false)]),.ret]) .skip)])),(.reg [zbi 42 .add 18 (zki 1),zmv 18 42])])
def Qma:List (Nat × Md):=[(1,.b [.d]),(16,.one .d),(17,.one .d),(18,.one .d)]
def Qmw:TCode :=
 (zsq [(.reg [zmv 2 (zkb true)]),.ret])
def QEl:TCode :=
 (zsq [(.reg [zop 1 (.box 77 0 1),zmv 2 (zkb false)]),(zsq [(.reg [zfa 5 1 0,zld 6 5 1,zle 7 6,zbi 8 .lss 7 (zki 1),zmv 9 8,.grp 9 false [zfa 10 1 0,zld 11 10 1,zle 12 11,zbi 13 .gtr 12 (zki 8)] 14 13]),(.cond 14 (zsq [(.reg [zmv 2 (zkb false)]),.ret]) .skip)]),(zsq [(.reg [zfa 15 1 0,zld 16 15 1,zle 17 16,zmv 18 (zki 0)]),(.block 0 (.loop Qma Qon))]),Qmw])
def Ql8:List (ARv × Md):=[(.t 2,.one .d)]
def QoB:Qb:=TQ 0 0 Ql8 K
def QtW:Qb:=Qseq (tawp Qfj 0 Qmw (QoB K)) (QoB K)
def QtH:Qb:=Qblk 0 (QtW K)
def Qde (m:List TOp') (x:Int):Prop:=Loop Qfj 0 Qma Qon (QtH K) ⟨[(1,(.p 0 0 0)),(16,(zcs ctOp m)),(17,(zci (m.length:Int))),(18,(zci x))],[(0,(.box [(zcs ctOp m)]))],1⟩
theorem Qrt (m:List TOp') (x:Int) (h :
 (zif (decide (x<(m.length:Int))) (((0:Int)≤x∧Int.toNat x<m.length)∧(((!(!(QT (gtd dOp m (Int.toNat x)))))=true→((decide (x>(0:Int)))=true→((0:Int)≤w64 (x-(1:Int))∧Int.toNat (w64 (x-(1:Int)))<m.length)))∧(zif ((!(QT (gtd dOp m (Int.toNat x))))||((decide (x>(0:Int)))&&(((gtd dOp m (Int.toNat (w64 (x-(1:Int))))).2.2.1) != ((gtd dOp m (Int.toNat x)).2.1)))) (K (Jo false)) (Qde K m (w64 (x+(1:Int))))))) (K (Jo true)))):Qde K m x :=
 Loop.of (by kernel_rfl) h
theorem QzH (m:List TOp') (h :
 (zif ((decide ((m.length:Int)<(1:Int)))||(decide ((m.length:Int)>(8:Int)))) (K (Jo false)) (Qde K m 0))):Hold (tawp Qfj (0+0) QEl (TQ 0 0 Ql8 K) (Qf [(.a [(.c (.sl ctOp) m)])])) :=
 Hold.of (by kernel_rfl) h
theorem Quo (m:List TOp'):TCon Tryz.prog 167 [(.a [(.c (.sl ctOp) m)])] (Jo (QF m)):=by
 refine Qj rfl fun hb=>tcg (Γ:=Qfj) (n:=43) (sg:=Qbh.sg) Qi (TOkL.cons Qrh TOkL.nil) (by kernel_rfl) (by kernel_rfl) (QzH _ m ?_)
 have hl_m_0:(m).length≤9223372036854775807:=hb.1.1.1
 refine ⟨fun h=>R_eq (by grind [QF,m_in]),fun h=>?_⟩
 have hin:m_in m.length 1 8=true:=by grind [m_in]
 refine Zj m (fun r k=>ZN (YB m k) r=ZN none m→Qde (fun r'=>r'=Jo (QF m)) m k) ?_ ?_ rfl
 ·intro he
  refine Qrt (fun r'=>r'=Jo (QF m)) m _ ⟨fun h=>by simp at h,fun _=>?_⟩
  grind [ZN,QF]
 ·intro k x r hk hlt hg ih he
  refine Qrt (fun r'=>r'=Jo (QF m)) m _ ⟨fun _=>?_,fun h=>by simp at h;omega⟩
  rw [Int.toNat_natCast,hg,Qv (x:=(k:Int)+1) (by omega) (by omega)]
  have ep:YB m (k+1)=some x.2.2.1:=by simp [YB,hg]
  rw [ep] at ih
  rcases Nat.eq_zero_or_pos k with h0 | h0
  ·subst h0
   simp only [ZN,YB,if_true] at he
   grind [QF]
  ·have e2:=Qa6 h0 (by omega:k≤9223372036854775807)
   simp only [ZN,YB,if_neg (Nat.ne_of_gt h0)] at he
   grind [QF]
theorem QdI:Qg Tryz.prog Qbh:=Qk fun x _=>Quo x.1
def QeI (t:Int):TRes:=zre (zci t)
def Qdp:TRow:=Qh 101 [(.a [(.sl ctOp)])] fun x=>(none,QeI (Zw x.1))
def QsR:TTab:=⟨[Qbh],false⟩
def QCl:TCode :=
 (zsq [(.reg [zop 1 (.box 77 0 1),zmv 2 (zki 0)]),(zsq [(.reg [zLd 3 1 1,zca 4 167 [3],zno 5 4]),(.cond 5 (zsq [(.reg [zmv 2 (zki 0)]),.ret]) .skip)]),(.reg [zfa 6 1 0,zld 7 6 1,zia 8 7 (zki 0) ctOp,zfa 9 8 1,zld 10 9 1,zmv 2 10]),.ret])
def QCB:List (ARv × Md):=[(.t 2,.one .d)]
theorem Qxf (m:List TOp') (h :
 (zif (!(QF m)) (K (QeI (0:Int))) (((0:Int)≤(0:Int)∧Int.toNat (0:Int)<m.length)∧K (QeI ((gtd dOp m (Int.toNat (0:Int))).2.1))))):Hold (tawp QsR (0+0) QCl (TQ 0 0 QCB K) (Qf [(.a [(.c (.sl ctOp) m)])])) :=
 Hold.of (by kernel_rfl) h
theorem Qvk (m:List TOp'):TCon Tryz.prog 101 [(.a [(.c (.sl ctOp) m)])] (QeI (Zw m)):=by
 refine Qj rfl fun hb=>tcg (Γ:=QsR) (n:=11) (sg:=Qdp.sg) Qi (TOkL.cons QdI TOkL.nil) (by kernel_rfl) (by kernel_rfl) (Qxf _ m ?_)
 have hl_m_0:(m).length≤9223372036854775807:=hb.1.1.1
 refine ⟨fun h=>R_eq (by grind [Zw]),fun h=>?_⟩
 have:=Ja (m:=m) (by simpa using h)
 exact ⟨⟨by omega,by simp;omega⟩,R_eq (by simp at h;simp [Zw,h])⟩
theorem Qoj:Qg Tryz.prog Qdp:=Qk fun x _=>Qvk x.1
def Qdx (t:Int):TRes:=zre (zci t)
def QfG:TRow:=Qh 102 [(.a [(.sl ctOp)])] fun x=>(none,Qdx (Ym x.1))
def Qko:TTab:=⟨[Qbh],false⟩
def QBp:TCode :=
 (zsq [(.reg [zop 1 (.box 77 0 1),zmv 2 (zki 0)]),(zsq [(.reg [zLd 3 1 1,zca 4 167 [3],zno 5 4]),(.cond 5 (zsq [(.reg [zmv 2 (zki 0)]),.ret]) .skip)]),(.reg [zfa 6 1 0,zld 7 6 1,zfa 8 1 0,zld 9 8 1,zle 10 9,zbi 11 .sub 10 (zki 1),zia 12 7 11 ctOp,zfa 13 12 2,zld 14 13 1,zmv 2 14]),.ret])
def QtZ:List (ARv × Md):=[(.t 2,.one .d)]
theorem QDU (m:List TOp') (h :
 (zif (!(QF m)) (K (Qdx (0:Int))) (((0:Int)≤w64 ((m.length:Int)-(1:Int))∧Int.toNat (w64 ((m.length:Int)-(1:Int)))<m.length)∧K (Qdx ((gtd dOp m (Int.toNat (w64 ((m.length:Int)-(1:Int))))).2.2.1))))):Hold (tawp Qko (0+0) QBp (TQ 0 0 QtZ K) (Qf [(.a [(.c (.sl ctOp) m)])])) :=
 Hold.of (by kernel_rfl) h
theorem QyQ (m:List TOp'):TCon Tryz.prog 102 [(.a [(.c (.sl ctOp) m)])] (Qdx (Ym m)):=by
 refine Qj rfl fun hb=>tcg (Γ:=Qko) (n:=15) (sg:=QfG.sg) Qi (TOkL.cons QdI TOkL.nil) (by kernel_rfl) (by kernel_rfl) (QDU _ m ?_)
 have hl_m_0:(m).length≤9223372036854775807:=hb.1.1.1
 refine ⟨fun h=>R_eq (by grind [Ym]),fun h=>?_⟩
 have:=Ja (m:=m) (by simpa using h)
 have e:=Qa6 this.1 (by omega:m.length≤9223372036854775807)
 rw [e.1]
 exact ⟨⟨e.2,by omega⟩,R_eq (by simp at h;simp [Ym,h])⟩
theorem Qzm:Qg Tryz.prog QfG:=Qk fun x _=>QyQ x.1
end
end Go.Proofs.YtdplaepmjogjjaaGreat.Am

