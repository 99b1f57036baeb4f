/- -/
import Derived.Test.YtdplaepmjogjjaaGreatVDP1
namespace Go.Proofs.YtdplaepmjogjjaaGreat.Am
open Go Go.RowKit Go.Proofs.YtdplaepmjogjjaaGreat
set_option linter.all false
noncomputable section
variable (K:TRes→Prop)
def Jn (t:Int):TRes:=zre (zci t)
def Qih:TRow:=Qg 253 [(.a ctOp)] fun x=>(none,Jn (Z0 x.1))
def QgI:TTab:=⟨[Ji],false⟩
def QmU:TCode :=
 (.cond 15 (zsq [(.reg [zfa 18 1 1,zld 19 18 1,zfa 20 1 2,zld 21 20 1,zbi 22 .mul 19 21,zmv 2 22]),.ret]) (zsq [(.reg [zbi 24 .eql 14 (zki 2),zmv 23 24]),(.cond 23 (zsq [(.reg [zfa 25 1 1,zld 26 25 1,zmv 2 26]),.ret]) (zsq [(.reg [zbi 28 .eql 14 (zki 4),zmv 27 28]),(.cond 27 (zsq [(.reg [zmv 2 (zki 1)]),.ret]) .skip)]))]))
def QxN:List (Nat × Md):=[(1,.b (zds 4)),(14,.one .d),(15,.one .d)]
def Qwb:TCode:=.wk QxN QmU
def Quj:TCode :=
 (zsq [(.reg [zmv 2 (zki 0)]),.ret])
def QIw:TCode :=
 (zsq [(.reg [zop 1 (.box 134 0 4),zmv 2 (zki 0)]),(zsq [(.reg [zfa 3 1 1,zld 4 3 1,zca 5 158 [4,(zki 1),(zki 6)],zno 6 5,zmv 7 6,.grp 7 false [zfa 8 1 2,zld 9 8 1,zca 10 158 [9,(zki 1),(zki 6)],zno 11 10] 12 11]),(.cond 12 (zsq [(.reg [zmv 2 (zki 0)]),.ret]) .skip)]),(zsq [(.reg [zfa 13 1 0,zld 14 13 1]),(.block 0 (zsq [(zsq [(.reg [zbi 16 .eql 14 (zki 1),zmv 15 16]),(.cond 15 .skip (.reg [zbi 17 .eql 14 (zki 5),zmv 15 17]))]),Qwb]))]),Quj])
def Qlq:List (ARv × Md):=[(.t 2,.one .d)]
def QmI:Qb:=TQ 0 0 Qlq K
def Qwe:Qb:=Qseq (tawp QgI 0 Quj (QmI K)) (QmI K)
def QIm:Qb:=Qblk 0 (Qwe K)
@[irreducible] def Qhz (o:TOp') (x:Bool):Prop:=tawp QgI 0 QmU (QIm K) ⟨[(1,(.p 0 0 0)),(14,(zci o.1)),(15,(zcb x))],[(0,(.box (Tup.cells ctOp o)))],1⟩
theorem QoK (o:TOp') (x:Bool) (h :
 (zif x (K (Jn (w64 (o.2.1*o.2.2.1)))) (zif (o.1==(2:Int)) (K (Jn o.2.1)) (zif (o.1==(4:Int)) (K (Jn (1:Int))) (K (Jn (0:Int))))))):Hold (Qhz K o x) :=
 Hold.of (by kernel_rfl) h
theorem Qwg (o:TOp') (h :
 (zif ((!(m_in o.2.1 (1:Int) (6:Int)))||(!(m_in o.2.2.1 (1:Int) (6:Int)))) (K (Jn (0:Int))) (zif (o.1==(1:Int)) (Qhz K o (o.1==(1:Int))) (Qhz K o (o.1==(5:Int)))))):Hold (tawp QgI (0+0) QIw (TQ 0 0 Qlq K) (Qd [(.a (Tup.cells ctOp o))])) :=
 Hold.of (by kernel_rfl) h
theorem QKr (o:TOp'):TCon Tryz.prog 253 [(.a (Tup.cells ctOp o))] (Jn (Z0 o)):=by
 refine Qh rfl fun hb=>tcg (Γ:=QgI) (n:=29) (sg:=Qih.sg) Qi (TOkL.cons Qa6 TOkL.nil) (by kernel_rfl) (by kernel_rfl) (Qwg _ o ?_)
 have hl_o_3:(o.2.2.2).length≤9223372036854775807:=hb.1.2.2.2.1.1
 refine ⟨fun h=>R_eq (by grind [Z0]),fun h=>?_⟩
 have hi:m_in o.2.1 1 6=true∧m_in o.2.2.1 1 6=true:=by simpa using h
 have hm:=QaN (Zw.1 hi.1).1 (Zw.1 hi.1).2 (Zw.1 hi.2).1 (Zw.1 hi.2).2
 have hw:=Qx (x:=o.2.1*o.2.2.1) (by omega) (by omega)
 refine ⟨fun h1=>(QoK (fun r'=>r'=Jn (Z0 o)) o _ ?_).h,fun h1=>(QoK (fun r'=>r'=Jn (Z0 o)) o _ ?_).h⟩ <;> grind [Z0]
theorem QDB:Qf Tryz.prog Qih:=Qj fun x _=>QKr x.1
def Jw (t:Int):TRes:=zre (zci t)
def QgX:TRow:=Qg 257 [(.a ctOp)] fun x=>(none,Jw (Z0 x.1))
def Qgf:TTab:=⟨[],false⟩
def Qsf:TCode :=
 (.cond 23 (zsq [(.reg [zfa 26 1 1,zld 27 26 1,zfa 28 1 2,zld 29 28 1,zbi 30 .mul 27 29,zmv 2 30]),.ret]) (zsq [(.reg [zbi 32 .eql 22 (zki 2),zmv 31 32]),(.cond 31 (zsq [(.reg [zfa 33 1 1,zld 34 33 1,zmv 2 34]),.ret]) (zsq [(.reg [zbi 36 .eql 22 (zki 4),zmv 35 36]),(.cond 35 (zsq [(.reg [zmv 2 (zki 1)]),.ret]) .skip)]))]))
def QG3:List (Nat × Md):=[(1,.b (zds 4)),(22,.one .d),(23,.one .d)]
def QA8:TCode:=.wk QG3 Qsf
def QpN:TCode :=
 (zsq [(.reg [zmv 2 (zki 0)]),.ret])
def QGo:TCode :=
 (zsq [(.reg [zop 1 (.box 134 0 4),zmv 2 (zki 0)]),(zsq [(.reg [zfa 3 1 1,zld 4 3 1,zbi 5 .lss 4 (zki 1),zmv 6 5,.grp 6 false [zfa 7 1 1,zld 8 7 1,zbi 9 .gtr 8 (zki 6)] 10 9,zmv 11 10,.grp 11 false [zfa 12 1 2,zld 13 12 1,zbi 14 .lss 13 (zki 1)] 15 14,zmv 16 15,.grp 16 false [zfa 17 1 2,zld 18 17 1,zbi 19 .gtr 18 (zki 6)] 20 19]),(.cond 20 (zsq [(.reg [zmv 2 (zki 0)]),.ret]) .skip)]),(zsq [(.reg [zfa 21 1 0,zld 22 21 1]),(.block 0 (zsq [(zsq [(.reg [zbi 24 .eql 22 (zki 1),zmv 23 24]),(.cond 23 .skip (.reg [zbi 25 .eql 22 (zki 5),zmv 23 25]))]),QA8]))]),QpN])
def Qlt:List (ARv × Md):=[(.t 2,.one .d)]
def QvO:Qb:=TQ 0 0 Qlt K
def Qx8:Qb:=Qseq (tawp Qgf 0 QpN (QvO K)) (QvO K)
def QzR:Qb:=Qblk 0 (Qx8 K)
@[irreducible] def Qiw (o:TOp') (x:Bool):Prop:=tawp Qgf 0 Qsf (QzR K) ⟨[(1,(.p 0 0 0)),(22,(zci o.1)),(23,(zcb x))],[(0,(.box (Tup.cells ctOp o)))],1⟩
theorem Quk (o:TOp') (x:Bool) (h :
 (zif x (K (Jw (w64 (o.2.1*o.2.2.1)))) (zif (o.1==(2:Int)) (K (Jw o.2.1)) (zif (o.1==(4:Int)) (K (Jw (1:Int))) (K (Jw (0:Int))))))):Hold (Qiw K o x) :=
 Hold.of (by kernel_rfl) h
theorem QJr (o:TOp') (h :
 (zif ((((decide (o.2.1<(1:Int)))||(decide (o.2.1>(6:Int))))||(decide (o.2.2.1<(1:Int))))||(decide (o.2.2.1>(6:Int)))) (K (Jw (0:Int))) (zif (o.1==(1:Int)) (Qiw K o (o.1==(1:Int))) (Qiw K o (o.1==(5:Int)))))):Hold (tawp Qgf (0+0) QGo (TQ 0 0 Qlt K) (Qd [(.a (Tup.cells ctOp o))])) :=
 Hold.of (by kernel_rfl) h
theorem QER (o:TOp'):TCon Tryz.prog 257 [(.a (Tup.cells ctOp o))] (Jw (Z0 o)):=by
 refine Qh rfl fun hb=>tcg (Γ:=Qgf) (n:=37) (sg:=QgX.sg) Qi TOkL.nil (by kernel_rfl) (by kernel_rfl) (QJr _ o ?_)
 have hl_o_3:(o.2.2.2).length≤9223372036854775807:=hb.1.2.2.2.1.1
 refine ⟨fun h=>R_eq (by grind [Z0,m_in]),fun h=>?_⟩
 have hi:m_in o.2.1 1 6=true∧m_in o.2.2.1 1 6=true:=by grind [m_in]
 have hm:=QaN (Zw.1 hi.1).1 (Zw.1 hi.1).2 (Zw.1 hi.2).1 (Zw.1 hi.2).2
 have hw:=Qx (x:=o.2.1*o.2.2.1) (by omega) (by omega)
 refine ⟨fun h1=>(Quk (fun r'=>r'=Jw (Z0 o)) o _ ?_).h,fun h1=>(Quk (fun r'=>r'=Jw (Z0 o)) o _ ?_).h⟩ <;> grind [Z0]
theorem QKu:Qf Tryz.prog QgX:=Qj fun x _=>QER x.1
def J3 (t:Bool):TRes:=zre (zcb t)
def QeW:TRow:=Qg 222 [(.a ctOp)] fun x=>(none,J3 (Q3 x.1))
def Qgg:TTab:=⟨[Ji,Qih,QbD],false⟩
def Qsa:TCode :=
 (zsq [(zsq [(.reg [zmv 40 3,zfa 41 1 3,zld 42 41 1,zle 43 42,zbi 44 .lss 40 43]),(.cond 44 .skip (.exit 0))]),(.block 1 (zsq [(.reg [zfa 47 1 3,zld 48 47 1,zmv 49 3,zia 50 48 49 [TI],zld 51 50 1,zca 52 183 [51],zno 53 52]),(.cond 53 (zsq [(.reg [zmv 2 (zkb false)]),.ret]) .skip)])),(.reg [zmv 45 3,zbi 46 .add 45 (zki 1),zmv 3 46])])
def QmO:List (Nat × Md):=[(1,.b (zds 4)),(3,.one .d)]
def Qtl:TCode :=
 (zsq [(.reg [zmv 2 (zkb true)]),.ret])
def QFS:TCode :=
 (zsq [(.reg [zop 1 (.box 134 0 4),zmv 2 (zkb false)]),(zsq [(.draw [zfa 4 1 0,zld 5 4 1,zca 6 158 [5,(zki 1),(zki 5)],zno 7 6,zmv 8 7,.grp 8 false [zfa 9 1 1,zld 10 9 1,zca 11 158 [10,(zki 1),(zki 6)],zno 12 11] 13 12,zmv 14 13,.grp 14 false [zfa 15 1 2,zld 16 15 1,zca 17 158 [16,(zki 1),(zki 6)],zno 18 17] 19 18,zmv 20 19,.grp 20 false [zfa 21 1 0,zld 22 21 1,zbi 23 .neq 22 (zki 1),zmv 24 23,.grp 24 true [zfa 25 1 1,zld 26 25 1,zfa 27 1 2,zld 28 27 1,zbi 29 .neq 26 28] 30 29] 31 30,zmv 32 31,.grp 32 false [zfa 33 1 3,zld 34 33 1,zle 35 34,zLd 36 1 4,zca 37 253 [36],zbi 38 .neq 35 37] 39 38] [(29,33),(30,33),(31,33)]),(.cond 39 (zsq [(.reg [zmv 2 (zkb false)]),.ret]) .skip)]),(zsq [(.reg [zmv 3 (zki 0)]),(.block 0 (.loop QmO Qsa))]),Qtl])
def QvG:List (ARv × Md):=[(.t 2,.one .d)]
def Qtf:Qb:=TQ 0 0 QvG K
def Qzl:Qb:=Qseq (tawp Qgg 0 Qtl (Qtf K)) (Qtf K)
def QH0:Qb:=Qblk 0 (Qzl K)
def QhZ (o:TOp') (i:Int):Prop:=Loop Qgg 0 QmO Qsa (QH0 K) ⟨[(1,(.p 0 0 0)),(3,(zci i))],[(0,(.box (Tup.cells ctOp o)))],1⟩
theorem Qxg (o:TOp') (i:Int) (h :
 (zif (decide (i<((o.2.2.2).length:Int))) (((0:Int)≤i∧Int.toNat i<(o.2.2.2).length)∧(zif (!(Zt (gtd (0:Int) o.2.2.2 (Int.toNat i)))) (K (J3 false)) (QhZ K o (w64 (i+(1:Int)))))) (K (J3 true)))):QhZ K o i :=
 Loop.of (by kernel_rfl) h
theorem QyY (o:TOp') (h :
 (zif (((((!(m_in o.1 (1:Int) (5:Int)))||(!(m_in o.2.1 (1:Int) (6:Int))))||(!(m_in o.2.2.1 (1:Int) (6:Int))))||((o.1 != (1:Int))&&(o.2.1 != o.2.2.1)))||(((o.2.2.2).length:Int) != (Z0 o))) (K (J3 false)) (QhZ K o 0))):Hold (tawp Qgg (0+0) QFS (TQ 0 0 QvG K) (Qd [(.a (Tup.cells ctOp o))])) :=
 Hold.of (by kernel_rfl) h
theorem QzD (o:TOp'):TCon Tryz.prog 222 [(.a (Tup.cells ctOp o))] (J3 (Q3 o)):=by
 refine Qh rfl fun hb=>tcg (Γ:=Qgg) (n:=54) (sg:=QeW.sg) Qi (TOkL.cons Qa6 (TOkL.cons QDB (TOkL.cons Qfr TOkL.nil))) (by kernel_rfl) (by kernel_rfl) (QyY _ o ?_)
 have hl_o_3:(o.2.2.2).length≤9223372036854775807:=hb.1.2.2.2.1.1
 refine ⟨fun h=>R_eq (by grind [Q3]),fun h=>?_⟩
 exact QfS (Q:=fun x=>J3 x=J3 (Q3 o)) (p:=Zt) (c:=fun x=>!(Zt x)) 0 hl_o_3 (fun _=>rfl) (fun i h=>Qxg (fun r'=>r'=J3 (Q3 o)) o i h) (R_eq (by grind [Q3,ZH]))
theorem Qmi:Qf Tryz.prog QeW:=Qj fun x _=>QzD x.1
def Qch (t:Bool):TRes:=zre (zcb t)
def Qfg:TRow:=Qg 228 [(.a ctOp)] fun x=>(none,Qch (Q3 x.1))
def QqM:TTab:=⟨[QgX,QcO],false⟩
def QJx:TCode :=
 (zsq [(.reg [zop 1 (.box 134 0 4),zmv 2 (zkb false)]),(zsq [(.reg [zfa 3 1 0,zld 4 3 1,zbi 5 .lss 4 (zki 1),zmv 6 5,.grp 6 false [zfa 7 1 0,zld 8 7 1,zbi 9 .gtr 8 (zki 5)] 10 9,zmv 11 10,.grp 11 false [zfa 12 1 1,zld 13 12 1,zbi 14 .lss 13 (zki 1)] 15 14,zmv 16 15,.grp 16 false [zfa 17 1 1,zld 18 17 1,zbi 19 .gtr 18 (zki 6)] 20 19,zmv 21 20,.grp 21 false [zfa 22 1 2,zld 23 22 1,zbi 24 .lss 23 (zki 1)] 25 24,zmv 26 25,.grp 26 false [zfa 27 1 2,zld 28 27 1,zbi 29 .gtr 28 (zki 6)] 30 29]),(.cond 30 (zsq [(.reg [zmv 2 (zkb false)]),.ret]) .skip)]),(zsq [(.reg [zfa 31 1 0,zld 32 31 1,zbi 33 .neq 32 (zki 1),zmv 34 33,.grp 34 true [zfa 35 1 1,zld 36 35 1,zfa 37 1 2,zld 38 37 1,zbi 39 .neq 36 38] 40 39]),(.cond 40 (zsq [(.reg [zmv 2 (zkb false)]),.ret]) .skip)]),(.draw [zfa 41 1 3,zld 42 41 1,zle 43 42,zLd 44 1 4,zca 45 257 [44],zbi 46 .eql 43 45,zmv 47 46,.grp 47 true [zfa 48 1 3,zld 49 48 1,zca 50 238 [49]] 51 50,zmv 2 51] [(0,4),(1,4),(2,4)]),.ret])
def QBY:List (ARv × Md):=[(.t 2,.one .d)]
theorem QDr (o:TOp') (h :
 (zif ((((((decide (o.1<(1:Int)))||(decide (o.1>(5:Int))))||(decide (o.2.1<(1:Int))))||(decide (o.2.1>(6:Int))))||(decide (o.2.2.1<(1:Int))))||(decide (o.2.2.1>(6:Int)))) (K (Qch false)) (zif ((o.1 != (1:Int))&&(o.2.1 != o.2.2.1)) (K (Qch false)) (K (Qch ((((o.2.2.2).length:Int)==(Z0 o))&&(ZH o.2.2.2))))))):Hold (tawp QqM (0+0) QJx (TQ 0 0 QBY K) (Qd [(.a (Tup.cells ctOp o))])) :=
 Hold.of (by kernel_rfl) h
theorem QFx (o:TOp'):TCon Tryz.prog 228 [(.a (Tup.cells ctOp o))] (Qch (Q3 o)):=by
 refine Qh rfl fun hb=>tcg (Γ:=QqM) (n:=52) (sg:=Qfg.sg) Qi (TOkL.cons QKu (TOkL.cons QkU TOkL.nil)) (by kernel_rfl) (by kernel_rfl) (QDr _ o ?_)
 have hl_o_3:(o.2.2.2).length≤9223372036854775807:=hb.1.2.2.2.1.1
 grind [Q3,m_in]
theorem Qpo:Qf Tryz.prog Qfg:=Qj fun x _=>QFx x.1
def Qbd (t:Bool):TRes:=zre (zcb t)
def Qid:TRow:=Qg 157 [(.a [(.sl ctOp)])] fun x=>(none,Qbd (QX x.1))
def QfK:TTab:=⟨[QeW,Ji],false⟩
def Qol:TCode :=
 (zsq [(zsq [(.reg [zmv 4 3,zfa 5 1 0,zld 6 5 1,zle 7 6,zbi 8 .lss 4 7]),(.cond 8 .skip (.exit 0))]),(.block 1 (zsq [(.draw [zfa 11 1 0,zld 12 11 1,zmv 13 3,zia 14 12 13 ctOp,zLd 15 14 4,zca 16 222 [15],zno 17 16,zmv 18 17,.grp 18 false [zmv 19 3,zbi 20 .gtr 19 (zki 0),zmv 21 20,.grp 21 true [zfa 22 1 0,zld 23 22 1,zmv 24 3,zia 25 23 24 ctOp,zfa 26 25 1,zld 27 26 1,zfa 28 1 0,zld 29 28 1,zmv 30 3,zbi 31 .sub 30 (zki 1),zia 32 29 31 ctOp,zfa 33 32 2,zld 34 33 1,zbi 35 .neq 27 34] 36 35] 37 36] []),(.cond 37 (zsq [(.reg [zmv 2 (zkb false)]),.ret]) .skip)])),(.reg [zmv 9 3,zbi 10 .add 9 (zki 1),zmv 3 10])])
def QuE:List (Nat × Md):=[(1,.b [.d]),(3,.one .d)]
def QnL:TCode :=
 (zsq [(.reg [zfa 38 1 0,zld 39 38 1,zle 40 39,zca 41 158 [40,(zki 1),(zki 8)],zmv 2 41]),.ret])
def QBA:TCode :=
 (zsq [(.reg [zop 1 (.box 77 0 1),zmv 2 (zkb false)]),(zsq [(.reg [zmv 3 (zki 0)]),(.block 0 (.loop QuE Qol))]),QnL])
def QlA:List (ARv × Md):=[(.t 2,.one .d)]
def Qvo:Qb:=TQ 0 0 QlA K
def QFE:Qb:=Qseq (tawp QfK 0 QnL (Qvo K)) (Qvo K)
def QHP:Qb:=Qblk 0 (QFE K)
def QfG (m:List TOp') (i:Int):Prop:=Loop QfK 0 QuE Qol (QHP K) ⟨[(1,(.p 0 0 0)),(3,(zci i))],[(0,(.box [(zcs ctOp m)]))],1⟩
theorem Qrh (m:List TOp') (i:Int) (h :
 (zif (decide (i<(m.length:Int))) ((((0:Int)≤i∧Int.toNat i<m.length)∧((!(!(Q3 (gtd dOp m (Int.toNat i)))))=true→((decide (i>(0:Int)))=true→(((0:Int)≤i∧Int.toNat i<m.length)∧((0:Int)≤w64 (i-(1:Int))∧Int.toNat (w64 (i-(1:Int)))<m.length)))))∧(zif ((!(Q3 (gtd dOp m (Int.toNat i))))||((decide (i>(0:Int)))&&(((gtd dOp m (Int.toNat i)).2.1) != ((gtd dOp m (Int.toNat (w64 (i-(1:Int))))).2.2.1)))) (K (Qbd false)) (QfG K m (w64 (i+(1:Int)))))) (K (Qbd (m_in (m.length:Int) (1:Int) (8:Int)))))):QfG K m i :=
 Loop.of (by kernel_rfl) h
theorem Qv4 (m:List TOp') (h :
 (QfG K m 0)):Hold (tawp QfK (0+0) QBA (TQ 0 0 QlA K) (Qd [(.a [(.c (.sl ctOp) m)])])) :=
 Hold.of (by kernel_rfl) h
theorem QFn (m:List TOp'):TCon Tryz.prog 157 [(.a [(.c (.sl ctOp) m)])] (Qbd (QX m)):=by
 refine Qh rfl fun hb=>tcg (Γ:=QfK) (n:=42) (sg:=Qid.sg) Qi (TOkL.cons Qmi (TOkL.cons Qa6 TOkL.nil)) (by kernel_rfl) (by kernel_rfl) (Qv4 _ m ?_)
 have hl_m_0:(m).length≤9223372036854775807:=hb.1.1.1
 refine Za m (fun r k=>Z8 (Y0 m k) r=Z8 none m→QfG (fun r'=>r'=Qbd (QX m)) m k) ?_ ?_ rfl
 ·intro he
  refine Qrh (fun r'=>r'=Qbd (QX m)) m _ ⟨fun h=>by simp at h,fun _=>?_⟩
  grind [Z8,QX]
 ·intro k x r hk hlt hg ih he
  refine Qrh (fun r'=>r'=Qbd (QX m)) m _ ⟨fun _=>?_,fun h=>by simp at h;omega⟩
  rw [Int.toNat_natCast,hg,Qx (x:=(k:Int)+1) (by omega) (by omega)]
  have ep:Y0 m (k+1)=some x.2.2.1:=by simp [Y0,hg]
  rw [ep] at ih
  rcases Nat.eq_zero_or_pos k with h0 | h0
  ·subst h0
   simp only [Z8,Y0,if_true] at he
   grind [QX]
  ·have e2:=Qb1 h0 (by omega:k≤9223372036854775807)
   simp only [Z8,Y0,if_neg (Nat.ne_of_gt h0)] at he
   grind [QX]
theorem QzJ:Qf Tryz.prog Qid:=Qj fun x _=>QFn x.1
def JU (t:Bool):TRes:=zre (zcb t)
def Qc8:TRow:=Qg 167 [(.a [(.sl ctOp)])] fun x=>(none,JU (QX x.1))
def Qd1:TTab:=⟨[Qfg],false⟩
def Qpx:TCode :=
 (zsq [(.reg [zbi 19 .lss 18 17]),(.cond 19 .skip (.exit 0)),(.block 1 (zsq [(.reg [zmv 20 18,zia 21 16 18 ctOp,zLd 22 21 4,zop 4 (.new 134 (z0s ctOp)),zmv 3 20,zst 4 22 4]),(.draw [zLd 23 4 4,zca 24 228 [23],zno 25 24,zmv 26 25,.grp 26 false [zmv 27 3,zbi 28 .gtr 27 (zki 0),zmv 29 28,.grp 29 true [zfa 30 1 0,zld 31 30 1,zmv 32 3,zbi 33 .sub 32 (zki 1),zia 34 31 33 ctOp,zfa 35 34 2,zld 36 35 1,zfa 37 4 1,zld 38 37 1,zbi 39 .neq 36 38] 40 39] 41 40] []),(.cond 41 (zsq [(.reg [zmv 2 (zkb false)]),.ret]) .skip)])),(.reg [zbi 42 .add 18 (zki 1),zmv 18 42])])
def QtP:List (Nat × Md):=[(1,.b [.d]),(16,.one .d),(17,.one .d),(18,.one .d)]
def QsM:TCode :=
 (zsq [(.reg [zmv 2 (zkb true)]),.ret])
def QFc:TCode :=
 (zsq [(.reg [zop 1 (.box 77 0 1),zmv 2 (zkb false)]),(zsq [(.reg [zfa 5 1 0,zld 6 5 1,zle 7 6,zbi 8 .lss 7 (zki 1),zmv 9 8,.grp 9 false [zfa 10 1 0,zld 11 10 1,zle 12 11,zbi 13 .gtr 12 (zki 8)] 14 13]),(.cond 14 (zsq [(.reg [zmv 2 (zkb false)]),.ret]) .skip)]),(zsq [(.reg [zfa 15 1 0,zld 16 15 1,zle 17 16,zmv 18 (zki 0)]),(.block 0 (.loop QtP Qpx))]),QsM])
def Qus:List (ARv × Md):=[(.t 2,.one .d)]
def QqS:Qb:=TQ 0 0 Qus K
def QKh:Qb:=Qseq (tawp Qd1 0 QsM (QqS K)) (QqS K)
def QG2:Qb:=Qblk 0 (QKh K)
def Qek (m:List TOp') (x:Int):Prop:=Loop Qd1 0 QtP Qpx (QG2 K) ⟨[(1,(.p 0 0 0)),(16,(zcs ctOp m)),(17,(zci (m.length:Int))),(18,(zci x))],[(0,(.box [(zcs ctOp m)]))],1⟩
theorem QrA (m:List TOp') (x:Int) (h :
 (zif (decide (x<(m.length:Int))) (((0:Int)≤x∧Int.toNat x<m.length)∧(((!(!(Q3 (gtd dOp m (Int.toNat x)))))=true→((decide (x>(0:Int)))=true→((0:Int)≤w64 (x-(1:Int))∧Int.toNat (w64 (x-(1:Int)))<m.length)))∧(zif ((!(Q3 (gtd dOp m (Int.toNat x))))||((decide (x>(0:Int)))&&(((gtd dOp m (Int.toNat (w64 (x-(1:Int))))).2.2.1) != ((gtd dOp m (Int.toNat x)).2.1)))) (K (JU false)) (Qek K m (w64 (x+(1:Int))))))) (K (JU true)))):Qek K m x :=
 Loop.of (by kernel_rfl) h
theorem QJW (m:List TOp') (h :
 (zif ((decide ((m.length:Int)<(1:Int)))||(decide ((m.length:Int)>(8:Int)))) (K (JU false)) (Qek K m 0))):Hold (tawp Qd1 (0+0) QFc (TQ 0 0 Qus K) (Qd [(.a [(.c (.sl ctOp) m)])])) :=
 Hold.of (by kernel_rfl) h
theorem QwT (m:List TOp'):TCon Tryz.prog 167 [(.a [(.c (.sl ctOp) m)])] (JU (QX m)):=by
 refine Qh rfl fun hb=>tcg (Γ:=Qd1) (n:=43) (sg:=Qc8.sg) Qi (TOkL.cons Qpo TOkL.nil) (by kernel_rfl) (by kernel_rfl) (QJW _ m ?_)
 have hl_m_0:(m).length≤9223372036854775807:=hb.1.1.1
 refine ⟨fun h=>R_eq (by grind [QX,m_in]),fun h=>?_⟩
 have hin:m_in m.length 1 8=true:=by grind [m_in]
 refine Za m (fun r k=>Z8 (Y0 m k) r=Z8 none m→Qek (fun r'=>r'=JU (QX m)) m k) ?_ ?_ rfl
 ·intro he
  refine QrA (fun r'=>r'=JU (QX m)) m _ ⟨fun h=>by simp at h,fun _=>?_⟩
  grind [Z8,QX]
 ·intro k x r hk hlt hg ih he
  refine QrA (fun r'=>r'=JU (QX m)) m _ ⟨fun _=>?_,fun h=>by simp at h;omega⟩
  rw [Int.toNat_natCast,hg,Qx (x:=(k:Int)+1) (by omega) (by omega)]
  have ep:Y0 m (k+1)=some x.2.2.1:=by simp [Y0,hg]
  rw [ep] at ih
  rcases Nat.eq_zero_or_pos k with h0 | h0
  ·subst h0
   simp only [Z8,Y0,if_true] at he
   grind [QX]
  ·have e2:=Qb1 h0 (by omega:k≤9223372036854775807)
   simp only [Z8,Y0,if_neg (Nat.ne_of_gt h0)] at he
   grind [QX]
theorem QgO:Qf Tryz.prog Qc8:=Qj fun x _=>QwT x.1
def Qgq (t:Int):TRes:=zre (zci t)
def Qhw:TRow:=Qg 101 [(.a [(.sl ctOp)])] fun x=>(none,Qgq (YK x.1))
def Qvi:TTab:=⟨[Qc8],false⟩
def QxC:TCode :=
 (zsq [(.reg [zop 1 (.box 77 0 1),zmv 2 (zki 0)]),(zsq [(.reg [zLd 3 1 1,zca 4 167 [3],zno 5 4]),(.cond 5 (zsq [(.reg [zmv 2 (zki 0)]),.ret]) .skip)]),(.reg [zfa 6 1 0,zld 7 6 1,zia 8 7 (zki 0) ctOp,zfa 9 8 1,zld 10 9 1,zmv 2 10]),.ret])
def Qyt:List (ARv × Md):=[(.t 2,.one .d)]
theorem QCy (m:List TOp') (h :
 (zif (!(QX m)) (K (Qgq (0:Int))) (((0:Int)≤(0:Int)∧Int.toNat (0:Int)<m.length)∧K (Qgq ((gtd dOp m (Int.toNat (0:Int))).2.1))))):Hold (tawp Qvi (0+0) QxC (TQ 0 0 Qyt K) (Qd [(.a [(.c (.sl ctOp) m)])])) :=
 Hold.of (by kernel_rfl) h
theorem QAM (m:List TOp'):TCon Tryz.prog 101 [(.a [(.c (.sl ctOp) m)])] (Qgq (YK m)):=by
 refine Qh rfl fun hb=>tcg (Γ:=Qvi) (n:=11) (sg:=Qhw.sg) Qi (TOkL.cons QgO TOkL.nil) (by kernel_rfl) (by kernel_rfl) (QCy _ m ?_)
 have hl_m_0:(m).length≤9223372036854775807:=hb.1.1.1
 refine ⟨fun h=>R_eq (by grind [YK]),fun h=>?_⟩
 have:=YX (m:=m) (by simpa using h)
 exact ⟨⟨by omega,by simp;omega⟩,R_eq (by simp at h;simp [YK,h])⟩
theorem QFo:Qf Tryz.prog Qhw:=Qj fun x _=>QAM x.1
def Qfm (t:Int):TRes:=zre (zci t)
def Qey:TRow:=Qg 102 [(.a [(.sl ctOp)])] fun x=>(none,Qfm (Zi x.1))
def Qli:TTab:=⟨[Qc8],false⟩
def QJO:TCode :=
 (zsq [(.reg [zop 1 (.box 77 0 1),zmv 2 (zki 0)]),(zsq [(.reg [zLd 3 1 1,zca 4 167 [3],zno 5 4]),(.cond 5 (zsq [(.reg [zmv 2 (zki 0)]),.ret]) .skip)]),(.reg [zfa 6 1 0,zld 7 6 1,zfa 8 1 0,zld 9 8 1,zle 10 9,zbi 11 .sub 10 (zki 1),zia 12 7 11 ctOp,zfa 13 12 2,zld 14 13 1,zmv 2 14]),.ret])
def Qyo:List (ARv × Md):=[(.t 2,.one .d)]
theorem QIY (m:List TOp') (h :
 (zif (!(QX m)) (K (Qfm (0:Int))) (((0:Int)≤w64 ((m.length:Int)-(1:Int))∧Int.toNat (w64 ((m.length:Int)-(1:Int)))<m.length)∧K (Qfm ((gtd dOp m (Int.toNat (w64 ((m.length:Int)-(1:Int))))).2.2.1))))):Hold (tawp Qli (0+0) QJO (TQ 0 0 Qyo K) (Qd [(.a [(.c (.sl ctOp) m)])])) :=
 Hold.of (by kernel_rfl) h
theorem QGb (m:List TOp'):TCon Tryz.prog 102 [(.a [(.c (.sl ctOp) m)])] (Qfm (Zi m)):=by
 refine Qh rfl fun hb=>tcg (Γ:=Qli) (n:=15) (sg:=Qey.sg) Qi (TOkL.cons QgO TOkL.nil) (by kernel_rfl) (by kernel_rfl) (QIY _ m ?_)
 have hl_m_0:(m).length≤9223372036854775807:=hb.1.1.1
 refine ⟨fun h=>R_eq (by grind [Zi]),fun h=>?_⟩
 have:=YX (m:=m) (by simpa using h)
 have e:=Qb1 this.1 (by omega:m.length≤9223372036854775807)
 rw [e.1]
 exact ⟨⟨e.2,by omega⟩,R_eq (by simp at h;simp [Zi,h])⟩
theorem QqY:Qf Tryz.prog Qey:=Qj fun x _=>QGb x.1
end
end Go.Proofs.YtdplaepmjogjjaaGreat.Am

