/- -/
import Derived.Test.YtephkbajoofeoaaWDP1
namespace Go.Proofs.Ytephkbajoofeoaa.Am
open Go Go.RowKit Go.Proofs.Ytephkbajoofeoaa
set_option linter.all false
noncomputable section
variable (K:TRes→Prop)
def Z2 (t:Int):TRes:=zre (zci t)
def QeN:TRow:=Qj 191 [(.a ctOp)] fun x=>(none,Z2 (Q0 x.1))
def Qcr:TTab:=⟨[Zx],false⟩
def Qk2:TCode :=
 (.cond 15 (zsq [(.reg [zfa 18 1 1,zld 19 18 1,zfa 20 1 2,zld 21 20 1,zbi 22 .mul 19 21,zmv 2 22]),.ret]) (zsq [(.reg [zbi 24 .eql 14 (zki 2),zmv 23 24]),(.cond 23 (zsq [(.reg [zfa 25 1 1,zld 26 25 1,zmv 2 26]),.ret]) (zsq [(.reg [zbi 28 .eql 14 (zki 4),zmv 27 28]),(.cond 27 (zsq [(.reg [zmv 2 (zki 1)]),.ret]) .skip)]))]))
def Qrw:List (Nat × Md):=[(1,.b (zds 4)),(14,.one .d),(15,.one .d)]
def Qsq:TCode:=.wk Qrw Qk2
def Qfr:TCode :=
 (zsq [(.reg [zmv 2 (zki 0)]),.ret])
def QsC:TCode :=
 (zsq [(.reg [zop 1 (.box 76 0 4),zmv 2 (zki 0)]),(zsq [(.reg [zfa 3 1 1,zld 4 3 1,zca 5 102 [4,(zki 1),(zki 6)],zno 6 5,zmv 7 6,.grp 7 false [zfa 8 1 2,zld 9 8 1,zca 10 102 [9,(zki 1),(zki 6)],zno 11 10] 12 11]),(.cond 12 (zsq [(.reg [zmv 2 (zki 0)]),.ret]) .skip)]),(zsq [(.reg [zfa 13 1 0,zld 14 13 1]),(.block 0 (zsq [(zsq [(.reg [zbi 16 .eql 14 (zki 1),zmv 15 16]),(.cond 15 .skip (.reg [zbi 17 .eql 14 (zki 5),zmv 15 17]))]),Qsq]))]),Qfr])
def QfW:List (ARv × Md):=[(.t 2,.one .d)]
def QhP:Qc:=TQ 0 0 QfW K
def QmU:Qc:=Qseq (tawp Qcr 0 Qfr (QhP K)) (QhP K)
def Qs6:Qc:=Qblk 0 (QmU K)
@[irreducible] def Qde (o:TOp') (x:Bool):Prop:=tawp Qcr 0 Qk2 (Qs6 K) ⟨[(1,(.p 0 0 0)),(14,(zci o.1)),(15,(zcb x))],[(0,(.box (Tup.cells ctOp o)))],1⟩
theorem Qhn (o:TOp') (x:Bool) (h :
 (zif x (K (Z2 (w64 (o.2.1*o.2.2.1)))) (zif (o.1==(2:Int)) (K (Z2 o.2.1)) (zif (o.1==(4:Int)) (K (Z2 (1:Int))) (K (Z2 (0:Int))))))):Hold (Qde K o x) :=
 Hold.of (by kernel_rfl) h
theorem QqA (o:TOp') (h :
 (zif ((!(m_in o.2.1 (1:Int) (6:Int)))||(!(m_in o.2.2.1 (1:Int) (6:Int)))) (K (Z2 (0:Int))) (zif (o.1==(1:Int)) (Qde K o (o.1==(1:Int))) (Qde K o (o.1==(5:Int)))))):Hold (tawp Qcr (0+0) QsC (TQ 0 0 QfW K) (Qh [(.a (Tup.cells ctOp o))])) :=
 Hold.of (by kernel_rfl) h
theorem QsS (o:TOp'):TCon Try.prog 191 [(.a (Tup.cells ctOp o))] (Z2 (Q0 o)):=by
 refine Ql rfl fun hb=>tcg (Γ:=Qcr) (n:=29) (sg:=QeN.sg) Qm (TOkL.cons Yp TOkL.nil) (by kernel_rfl) (by kernel_rfl) (QqA _ o ?_)
 have hl_o_3:(o.2.2.2).length≤9223372036854775807:=hb.1.2.2.2.1.1
 refine ⟨fun h=>R_eq (by grind [Q0]),fun h=>?_⟩
 have hi:m_in o.2.1 1 6=true∧m_in o.2.2.1 1 6=true:=by simpa using h
 have hm:=QeM (QN.1 hi.1).1 (QN.1 hi.1).2 (QN.1 hi.2).1 (QN.1 hi.2).2
 have hw:=Qr (x:=o.2.1*o.2.2.1) (by omega) (by omega)
 refine ⟨fun h1=>(Qhn (fun r'=>r'=Z2 (Q0 o)) o _ ?_).h,fun h1=>(Qhn (fun r'=>r'=Z2 (Q0 o)) o _ ?_).h⟩ <;> grind [Q0]
theorem Qox:Qi Try.prog QeN:=Qn fun x _=>QsS x.1
def ZM (t:Int):TRes:=zre (zci t)
def Qel:TRow:=Qj 189 [(.a ctOp)] fun x=>(none,ZM (Q0 x.1))
def Qcl:TTab:=⟨[],false⟩
def Qhl:TCode :=
 (.cond 23 (zsq [(.reg [zfa 26 1 1,zld 27 26 1,zfa 28 1 2,zld 29 28 1,zbi 30 .mul 27 29,zmv 2 30]),.ret]) (zsq [(.reg [zbi 32 .eql 22 (zki 2),zmv 31 32]),(.cond 31 (zsq [(.reg [zfa 33 1 1,zld 34 33 1,zmv 2 34]),.ret]) (zsq [(.reg [zbi 36 .eql 22 (zki 4),zmv 35 36]),(.cond 35 (zsq [(.reg [zmv 2 (zki 1)]),.ret]) .skip)]))]))
def QoJ:List (Nat × Md):=[(1,.b (zds 4)),(22,.one .d),(23,.one .d)]
def Qrc:TCode:=.wk QoJ Qhl
def Qla:TCode :=
 (zsq [(.reg [zmv 2 (zki 0)]),.ret])
def Qr0:TCode :=
 (zsq [(.reg [zop 1 (.box 76 0 4),zmv 2 (zki 0)]),(zsq [(.reg [zfa 3 1 1,zld 4 3 1,zbi 5 .lss 4 (zki 1),zmv 6 5,.grp 6 false [zfa 7 1 1,zld 8 7 1,zbi 9 .gtr 8 (zki 6)] 10 9,zmv 11 10,.grp 11 false [zfa 12 1 2,zld 13 12 1,zbi 14 .lss 13 (zki 1)] 15 14,zmv 16 15,.grp 16 false [zfa 17 1 2,zld 18 17 1,zbi 19 .gtr 18 (zki 6)] 20 19]),(.cond 20 (zsq [(.reg [zmv 2 (zki 0)]),.ret]) .skip)]),(zsq [(.reg [zfa 21 1 0,zld 22 21 1]),(.block 0 (zsq [(zsq [(.reg [zbi 24 .eql 22 (zki 1),zmv 23 24]),(.cond 23 .skip (.reg [zbi 25 .eql 22 (zki 5),zmv 23 25]))]),Qrc]))]),Qla])
def Qf9:List (ARv × Md):=[(.t 2,.one .d)]
def Qhh:Qc:=TQ 0 0 Qf9 K
def QnZ:Qc:=Qseq (tawp Qcl 0 Qla (Qhh K)) (Qhh K)
def Qon:Qc:=Qblk 0 (QnZ K)
@[irreducible] def Qdw (o:TOp') (x:Bool):Prop:=tawp Qcl 0 Qhl (Qon K) ⟨[(1,(.p 0 0 0)),(22,(zci o.1)),(23,(zcb x))],[(0,(.box (Tup.cells ctOp o)))],1⟩
theorem Qhb (o:TOp') (x:Bool) (h :
 (zif x (K (ZM (w64 (o.2.1*o.2.2.1)))) (zif (o.1==(2:Int)) (K (ZM o.2.1)) (zif (o.1==(4:Int)) (K (ZM (1:Int))) (K (ZM (0:Int))))))):Hold (Qdw K o x) :=
 Hold.of (by kernel_rfl) h
theorem QmD (o:TOp') (h :
 (zif ((((decide (o.2.1<(1:Int)))||(decide (o.2.1>(6:Int))))||(decide (o.2.2.1<(1:Int))))||(decide (o.2.2.1>(6:Int)))) (K (ZM (0:Int))) (zif (o.1==(1:Int)) (Qdw K o (o.1==(1:Int))) (Qdw K o (o.1==(5:Int)))))):Hold (tawp Qcl (0+0) Qr0 (TQ 0 0 Qf9 K) (Qh [(.a (Tup.cells ctOp o))])) :=
 Hold.of (by kernel_rfl) h
theorem QsK (o:TOp'):TCon Try.prog 189 [(.a (Tup.cells ctOp o))] (ZM (Q0 o)):=by
 refine Ql rfl fun hb=>tcg (Γ:=Qcl) (n:=37) (sg:=Qel.sg) Qm TOkL.nil (by kernel_rfl) (by kernel_rfl) (QmD _ o ?_)
 have hl_o_3:(o.2.2.2).length≤9223372036854775807:=hb.1.2.2.2.1.1
 refine ⟨fun h=>R_eq (by grind [Q0,m_in]),fun h=>?_⟩
 have hi:m_in o.2.1 1 6=true∧m_in o.2.2.1 1 6=true:=by grind [m_in]
 have hm:=QeM (QN.1 hi.1).1 (QN.1 hi.1).2 (QN.1 hi.2).1 (QN.1 hi.2).2
 have hw:=Qr (x:=o.2.1*o.2.2.1) (by omega) (by omega)
 refine ⟨fun h1=>(Qhb (fun r'=>r'=ZM (Q0 o)) o _ ?_).h,fun h1=>(Qhb (fun r'=>r'=ZM (Q0 o)) o _ ?_).h⟩ <;> grind [Q0]
theorem Qnr:Qi Try.prog Qel:=Qn fun x _=>QsK x.1
def Yu (t:Bool):TRes:=zre (zcb t)
def QbW:TRow:=Qj 137 [(.a ctOp)] fun x=>(none,Yu (QF x.1))
def Qa6:TTab:=⟨[Zx,QeN,QcM],false⟩
def QgP:TCode :=
 (zsq [(zsq [(.reg [zmv 40 3,zfa 41 1 3,zld 42 41 1,zle 43 42,zbi 44 .lss 40 43]),(.cond 44 .skip (.exit 0))]),(.block 1 (zsq [(.reg [zfa 47 1 3,zld 48 47 1,zmv 49 3,zia 50 48 49 [TI],zld 51 50 1,zca 52 122 [51],zno 53 52]),(.cond 53 (zsq [(.reg [zmv 2 (zkb false)]),.ret]) .skip)])),(.reg [zmv 45 3,zbi 46 .add 45 (zki 1),zmv 3 46])])
def Qjq:List (Nat × Md):=[(1,.b (zds 4)),(3,.one .d)]
def QkF:TCode :=
 (zsq [(.reg [zmv 2 (zkb true)]),.ret])
def Qna:TCode :=
 (zsq [(.reg [zop 1 (.box 76 0 4),zmv 2 (zkb false)]),(zsq [(.draw [zfa 4 1 0,zld 5 4 1,zca 6 102 [5,(zki 1),(zki 5)],zno 7 6,zmv 8 7,.grp 8 false [zfa 9 1 1,zld 10 9 1,zca 11 102 [10,(zki 1),(zki 6)],zno 12 11] 13 12,zmv 14 13,.grp 14 false [zfa 15 1 2,zld 16 15 1,zca 17 102 [16,(zki 1),(zki 6)],zno 18 17] 19 18,zmv 20 19,.grp 20 false [zfa 21 1 0,zld 22 21 1,zbi 23 .neq 22 (zki 1),zmv 24 23,.grp 24 true [zfa 25 1 1,zld 26 25 1,zfa 27 1 2,zld 28 27 1,zbi 29 .neq 26 28] 30 29] 31 30,zmv 32 31,.grp 32 false [zfa 33 1 3,zld 34 33 1,zle 35 34,zLd 36 1 4,zca 37 191 [36],zbi 38 .neq 35 37] 39 38] [(29,33),(30,33),(31,33)]),(.cond 39 (zsq [(.reg [zmv 2 (zkb false)]),.ret]) .skip)]),(zsq [(.reg [zmv 3 (zki 0)]),(.block 0 (.loop Qjq QgP))]),QkF])
def QiW:List (ARv × Md):=[(.t 2,.one .d)]
def QhC:Qc:=TQ 0 0 QiW K
def QmL:Qc:=Qseq (tawp Qa6 0 QkF (QhC K)) (QhC K)
def QrH:Qc:=Qblk 0 (QmL K)
def QdG (o:TOp') (i:Int):Prop:=Loop Qa6 0 Qjq QgP (QrH K) ⟨[(1,(.p 0 0 0)),(3,(zci i))],[(0,(.box (Tup.cells ctOp o)))],1⟩
theorem Qs0 (o:TOp') (i:Int) (h :
 (zif (decide (i<((o.2.2.2).length:Int))) (((0:Int)≤i∧Int.toNat i<(o.2.2.2).length)∧(zif (!(Zd (gtd (0:Int) o.2.2.2 (Int.toNat i)))) (K (Yu false)) (QdG K o (w64 (i+(1:Int)))))) (K (Yu true)))):QdG K o i :=
 Loop.of (by kernel_rfl) h
theorem QnU (o:TOp') (h :
 (zif (((((!(m_in o.1 (1:Int) (5:Int)))||(!(m_in o.2.1 (1:Int) (6:Int))))||(!(m_in o.2.2.1 (1:Int) (6:Int))))||((o.1 != (1:Int))&&(o.2.1 != o.2.2.1)))||(((o.2.2.2).length:Int) != (Q0 o))) (K (Yu false)) (QdG K o 0))):Hold (tawp Qa6 (0+0) Qna (TQ 0 0 QiW K) (Qh [(.a (Tup.cells ctOp o))])) :=
 Hold.of (by kernel_rfl) h
theorem Qo3 (o:TOp'):TCon Try.prog 137 [(.a (Tup.cells ctOp o))] (Yu (QF o)):=by
 refine Ql rfl fun hb=>tcg (Γ:=Qa6) (n:=54) (sg:=QbW.sg) Qm (TOkL.cons Yp (TOkL.cons Qox (TOkL.cons QqD TOkL.nil))) (by kernel_rfl) (by kernel_rfl) (QnU _ o ?_)
 have hl_o_3:(o.2.2.2).length≤9223372036854775807:=hb.1.2.2.2.1.1
 refine ⟨fun h=>R_eq (by grind [QF]),fun h=>?_⟩
 exact Qjo (Q:=fun x=>Yu x=Yu (QF o)) (p:=Zd) (c:=fun x=>!(Zd x)) 0 hl_o_3 (fun _=>rfl) (fun i h=>Qs0 (fun r'=>r'=Yu (QF o)) o i h) (R_eq (by grind [QF,ZR]))
theorem Qiy:Qi Try.prog QbW:=Qn fun x _=>Qo3 x.1
def JP (t:Bool):TRes:=zre (zcb t)
def Qbt:TRow:=Qj 134 [(.a ctOp)] fun x=>(none,JP (QF x.1))
def QiH:TTab:=⟨[Qel,QdJ],false⟩
def Qp8:TCode :=
 (zsq [(.reg [zop 1 (.box 76 0 4),zmv 2 (zkb false)]),(zsq [(.reg [zfa 3 1 0,zld 4 3 1,zbi 5 .lss 4 (zki 1),zmv 6 5,.grp 6 false [zfa 7 1 0,zld 8 7 1,zbi 9 .gtr 8 (zki 5)] 10 9,zmv 11 10,.grp 11 false [zfa 12 1 1,zld 13 12 1,zbi 14 .lss 13 (zki 1)] 15 14,zmv 16 15,.grp 16 false [zfa 17 1 1,zld 18 17 1,zbi 19 .gtr 18 (zki 6)] 20 19,zmv 21 20,.grp 21 false [zfa 22 1 2,zld 23 22 1,zbi 24 .lss 23 (zki 1)] 25 24,zmv 26 25,.grp 26 false [zfa 27 1 2,zld 28 27 1,zbi 29 .gtr 28 (zki 6)] 30 29]),(.cond 30 (zsq [(.reg [zmv 2 (zkb false)]),.ret]) .skip)]),(zsq [(.reg [zfa 31 1 0,zld 32 31 1,zbi 33 .neq 32 (zki 1),zmv 34 33,.grp 34 true [zfa 35 1 1,zld 36 35 1,zfa 37 1 2,zld 38 37 1,zbi 39 .neq 36 38] 40 39]),(.cond 40 (zsq [(.reg [zmv 2 (zkb false)]),.ret]) .skip)]),(.draw [zfa 41 1 3,zld 42 41 1,zle 43 42,zLd 44 1 4,zca 45 189 [44],zbi 46 .eql 43 45,zmv 47 46,.grp 47 true [zfa 48 1 3,zld 49 48 1,zca 50 190 [49]] 51 50,zmv 2 51] [(0,4),(1,4),(2,4)]),.ret])
def Qnc:List (ARv × Md):=[(.t 2,.one .d)]
theorem QsA (o:TOp') (h :
 (zif ((((((decide (o.1<(1:Int)))||(decide (o.1>(5:Int))))||(decide (o.2.1<(1:Int))))||(decide (o.2.1>(6:Int))))||(decide (o.2.2.1<(1:Int))))||(decide (o.2.2.1>(6:Int)))) (K (JP false)) (zif ((o.1 != (1:Int))&&(o.2.1 != o.2.2.1)) (K (JP false)) (K (JP ((((o.2.2.2).length:Int)==(Q0 o))&&(ZR o.2.2.2))))))):Hold (tawp QiH (0+0) Qp8 (TQ 0 0 Qnc K) (Qh [(.a (Tup.cells ctOp o))])) :=
 Hold.of (by kernel_rfl) h
theorem QmS (o:TOp'):TCon Try.prog 134 [(.a (Tup.cells ctOp o))] (JP (QF o)):=by
 refine Ql rfl fun hb=>tcg (Γ:=QiH) (n:=52) (sg:=Qbt.sg) Qm (TOkL.cons Qnr (TOkL.cons Qoa TOkL.nil)) (by kernel_rfl) (by kernel_rfl) (QsA _ o ?_)
 have hl_o_3:(o.2.2.2).length≤9223372036854775807:=hb.1.2.2.2.1.1
 grind [QF,m_in]
theorem Qje:Qi Try.prog Qbt:=Qn fun x _=>QmS x.1
def Yt (t:Int):TRes:=zre (zci t)
def Qeh:TRow:=Qj 192 [(.a ctOp)] fun x=>(none,Yt (QT x.1))
def Qb6:TTab:=⟨[QbW],false⟩
def Qgd:TCode :=
 (.cond 8 (zsq [(.reg [zfa 11 1 1,zld 12 11 1,zfa 13 1 2,zld 14 13 1,zbi 15 .mul 12 14,zmv 2 15]),.ret]) (zsq [(.reg [zbi 17 .eql 7 (zki 4),zmv 16 17]),(.cond 16 (zsq [(.reg [zfa 18 1 1,zld 19 18 1,zmv 2 19]),.ret]) .skip)]))
def Qpi:List (Nat × Md):=[(1,.b (zds 4)),(7,.one .d),(8,.one .d)]
def Qtb:TCode:=.wk Qpi Qgd
def Qio:TCode :=
 (zsq [(.reg [zmv 2 (zki 0)]),.ret])
def QmN:TCode :=
 (zsq [(.reg [zop 1 (.box 76 0 4),zmv 2 (zki 0)]),(zsq [(.reg [zLd 3 1 4,zca 4 137 [3],zno 5 4]),(.cond 5 (zsq [(.reg [zmv 2 (zki 0)]),.ret]) .skip)]),(zsq [(.reg [zfa 6 1 0,zld 7 6 1]),(.block 0 (zsq [(zsq [(.reg [zbi 9 .eql 7 (zki 1),zmv 8 9]),(.cond 8 .skip (.reg [zbi 10 .eql 7 (zki 5),zmv 8 10]))]),Qtb]))]),Qio])
def QgW:List (ARv × Md):=[(.t 2,.one .d)]
def QkL:Qc:=TQ 0 0 QgW K
def Qml:Qc:=Qseq (tawp Qb6 0 Qio (QkL K)) (QkL K)
def Qoe:Qc:=Qblk 0 (Qml K)
@[irreducible] def Qdg (o:TOp') (x:Bool):Prop:=tawp Qb6 0 Qgd (Qoe K) ⟨[(1,(.p 0 0 0)),(7,(zci o.1)),(8,(zcb x))],[(0,(.box (Tup.cells ctOp o)))],1⟩
theorem QkQ (o:TOp') (x:Bool) (h :
 (zif x (K (Yt (w64 (o.2.1*o.2.2.1)))) (zif (o.1==(4:Int)) (K (Yt o.2.1)) (K (Yt (0:Int)))))):Hold (Qdg K o x) :=
 Hold.of (by kernel_rfl) h
theorem QqI (o:TOp') (h :
 (zif (!(QF o)) (K (Yt (0:Int))) (zif (o.1==(1:Int)) (Qdg K o (o.1==(1:Int))) (Qdg K o (o.1==(5:Int)))))):Hold (tawp Qb6 (0+0) QmN (TQ 0 0 QgW K) (Qh [(.a (Tup.cells ctOp o))])) :=
 Hold.of (by kernel_rfl) h
theorem Qsc (o:TOp'):TCon Try.prog 192 [(.a (Tup.cells ctOp o))] (Yt (QT o)):=by
 refine Ql rfl fun hb=>tcg (Γ:=Qb6) (n:=20) (sg:=Qeh.sg) Qm (TOkL.cons Qiy TOkL.nil) (by kernel_rfl) (by kernel_rfl) (QqI _ o ?_)
 have hl_o_3:(o.2.2.2).length≤9223372036854775807:=hb.1.2.2.2.1.1
 refine ⟨fun h=>R_eq (by grind [QT]),fun h=>?_⟩
 have hw:=Qlf o (by simpa using h)
 refine ⟨fun h1=>(QkQ (fun r'=>r'=Yt (QT o)) o _ ?_).h,fun h1=>(QkQ (fun r'=>r'=Yt (QT o)) o _ ?_).h⟩ <;> grind [QT]
theorem Qq8:Qi Try.prog Qeh:=Qn fun x _=>Qsc x.1
def Yd (t:Int):TRes:=zre (zci t)
def QcO:TRow:=Qj 52 [(.a ctOp)] fun x=>(none,Yd (QT x.1))
def QbJ:TTab:=⟨[Qbt],false⟩
def QjI:TCode :=
 (.cond 8 (zsq [(.reg [zfa 11 1 1,zld 12 11 1,zfa 13 1 2,zld 14 13 1,zbi 15 .mul 12 14,zmv 2 15]),.ret]) (zsq [(.reg [zbi 17 .eql 7 (zki 4),zmv 16 17]),(.cond 16 (zsq [(.reg [zfa 18 1 1,zld 19 18 1,zmv 2 19]),.ret]) .skip)]))
def QqU:List (Nat × Md):=[(1,.b (zds 4)),(7,.one .d),(8,.one .d)]
def QoR:TCode:=.wk QqU QjI
def QgJ:TCode :=
 (zsq [(.reg [zmv 2 (zki 0)]),.ret])
def Qp4:TCode :=
 (zsq [(.reg [zop 1 (.box 76 0 4),zmv 2 (zki 0)]),(zsq [(.reg [zLd 3 1 4,zca 4 134 [3],zno 5 4]),(.cond 5 (zsq [(.reg [zmv 2 (zki 0)]),.ret]) .skip)]),(zsq [(.reg [zfa 6 1 0,zld 7 6 1]),(.block 0 (zsq [(zsq [(.reg [zbi 9 .eql 7 (zki 1),zmv 8 9]),(.cond 8 .skip (.reg [zbi 10 .eql 7 (zki 5),zmv 8 10]))]),QoR]))]),QgJ])
def QiZ:List (ARv × Md):=[(.t 2,.one .d)]
def QiQ:Qc:=TQ 0 0 QiZ K
def Qmp:Qc:=Qseq (tawp QbJ 0 QgJ (QiQ K)) (QiQ K)
def Qnz:Qc:=Qblk 0 (Qmp K)
@[irreducible] def QcX (o:TOp') (x:Bool):Prop:=tawp QbJ 0 QjI (Qnz K) ⟨[(1,(.p 0 0 0)),(7,(zci o.1)),(8,(zcb x))],[(0,(.box (Tup.cells ctOp o)))],1⟩
theorem Qik (o:TOp') (x:Bool) (h :
 (zif x (K (Yd (w64 (o.2.1*o.2.2.1)))) (zif (o.1==(4:Int)) (K (Yd o.2.1)) (K (Yd (0:Int)))))):Hold (QcX K o x) :=
 Hold.of (by kernel_rfl) h
theorem QpB (o:TOp') (h :
 (zif (!(QF o)) (K (Yd (0:Int))) (zif (o.1==(1:Int)) (QcX K o (o.1==(1:Int))) (QcX K o (o.1==(5:Int)))))):Hold (tawp QbJ (0+0) Qp4 (TQ 0 0 QiZ K) (Qh [(.a (Tup.cells ctOp o))])) :=
 Hold.of (by kernel_rfl) h
theorem Qo9 (o:TOp'):TCon Try.prog 52 [(.a (Tup.cells ctOp o))] (Yd (QT o)):=by
 refine Ql rfl fun hb=>tcg (Γ:=QbJ) (n:=20) (sg:=QcO.sg) Qm (TOkL.cons Qje TOkL.nil) (by kernel_rfl) (by kernel_rfl) (QpB _ o ?_)
 have hl_o_3:(o.2.2.2).length≤9223372036854775807:=hb.1.2.2.2.1.1
 refine ⟨fun h=>R_eq (by grind [QT]),fun h=>?_⟩
 have hw:=Qlf o (by simpa using h)
 refine ⟨fun h1=>(Qik (fun r'=>r'=Yd (QT o)) o _ ?_).h,fun h1=>(Qik (fun r'=>r'=Yd (QT o)) o _ ?_).h⟩ <;> grind [QT]
theorem Qs2:Qi Try.prog QcO:=Qn fun x _=>Qo9 x.1
def YY (t:Bool):TRes:=zre (zcb t)
def QbD:TRow:=Qj 60 [(.a [(.sl ctOp)])] fun x=>(none,YY (Qq x.1))
def QaW:TTab:=⟨[QbW,Zx],false⟩
def Qku:TCode :=
 (zsq [(zsq [(.reg [zmv 4 3,zfa 5 1 0,zld 6 5 1,zle 7 6,zbi 8 .lss 4 7]),(.cond 8 .skip (.exit 0))]),(.block 1 (zsq [(.draw [zfa 11 1 0,zld 12 11 1,zmv 13 3,zia 14 12 13 ctOp,zLd 15 14 4,zca 16 137 [15],zno 17 16,zmv 18 17,.grp 18 false [zmv 19 3,zbi 20 .gtr 19 (zki 0),zmv 21 20,.grp 21 true [zfa 22 1 0,zld 23 22 1,zmv 24 3,zia 25 23 24 ctOp,zfa 26 25 1,zld 27 26 1,zfa 28 1 0,zld 29 28 1,zmv 30 3,zbi 31 .sub 30 (zki 1),zia 32 29 31 ctOp,zfa 33 32 2,zld 34 33 1,zbi 35 .neq 27 34] 36 35] 37 36] []),(.cond 37 (zsq [(.reg [zmv 2 (zkb false)]),.ret]) .skip)])),(.reg [zmv 9 3,zbi 10 .add 9 (zki 1),zmv 3 10])])
def Qf5:List (Nat × Md):=[(1,.b [.d]),(3,.one .d)]
def Qhy:TCode :=
 (zsq [(.reg [zfa 38 1 0,zld 39 38 1,zle 40 39,zca 41 102 [40,(zki 1),(zki 8)],zmv 2 41]),.ret])
def Qr1:TCode :=
 (zsq [(.reg [zop 1 (.box 66 0 1),zmv 2 (zkb false)]),(zsq [(.reg [zmv 3 (zki 0)]),(.block 0 (.loop Qf5 Qku))]),Qhy])
def Qkq:List (ARv × Md):=[(.t 2,.one .d)]
def Qfy:Qc:=TQ 0 0 Qkq K
def Qta:Qc:=Qseq (tawp QaW 0 Qhy (Qfy K)) (Qfy K)
def Qm1:Qc:=Qblk 0 (Qta K)
def QaR (m:List TOp') (i:Int):Prop:=Loop QaW 0 Qf5 Qku (Qm1 K) ⟨[(1,(.p 0 0 0)),(3,(zci i))],[(0,(.box [(zcs ctOp m)]))],1⟩
theorem QiK (m:List TOp') (i:Int) (h :
 (zif (decide (i<(m.length:Int))) ((((0:Int)≤i∧Int.toNat i<m.length)∧((!(!(QF (gtd dOp m (Int.toNat i)))))=true→((decide (i>(0:Int)))=true→(((0:Int)≤i∧Int.toNat i<m.length)∧((0:Int)≤w64 (i-(1:Int))∧Int.toNat (w64 (i-(1:Int)))<m.length)))))∧(zif ((!(QF (gtd dOp m (Int.toNat i))))||((decide (i>(0:Int)))&&(((gtd dOp m (Int.toNat i)).2.1) != ((gtd dOp m (Int.toNat (w64 (i-(1:Int))))).2.2.1)))) (K (YY false)) (QaR K m (w64 (i+(1:Int)))))) (K (YY (m_in (m.length:Int) (1:Int) (8:Int)))))):QaR K m i :=
 Loop.of (by kernel_rfl) h
theorem Qsl (m:List TOp') (h :
 (QaR K m 0)):Hold (tawp QaW (0+0) Qr1 (TQ 0 0 Qkq K) (Qh [(.a [(.c (.sl ctOp) m)])])) :=
 Hold.of (by kernel_rfl) h
theorem Qp7 (m:List TOp'):TCon Try.prog 60 [(.a [(.c (.sl ctOp) m)])] (YY (Qq m)):=by
 refine Ql rfl fun hb=>tcg (Γ:=QaW) (n:=42) (sg:=QbD.sg) Qm (TOkL.cons Qiy (TOkL.cons Yp TOkL.nil)) (by kernel_rfl) (by kernel_rfl) (Qsl _ m ?_)
 have hl_m_0:(m).length≤9223372036854775807:=hb.1.1.1
 refine ZF m (fun r k=>Zl (Zy m k) r=Zl none m→QaR (fun r'=>r'=YY (Qq m)) m k) ?_ ?_ rfl
 ·intro he
  refine QiK (fun r'=>r'=YY (Qq m)) m _ ⟨fun h=>by simp at h,fun _=>?_⟩
  grind [Zl,Qq]
 ·intro k x r hk hlt hg ih he
  refine QiK (fun r'=>r'=YY (Qq m)) m _ ⟨fun _=>?_,fun h=>by simp at h;omega⟩
  rw [Int.toNat_natCast,hg,Qr (x:=(k:Int)+1) (by omega) (by omega)]
  have ep:Zy m (k+1)=some x.2.2.1:=by simp [Zy,hg]
  rw [ep] at ih
  rcases Nat.eq_zero_or_pos k with h0 | h0
  ·subst h0
   simp only [Zl,Zy,if_true] at he
   grind [Qq]
  ·have e2:=QbF h0 (by omega:k≤9223372036854775807)
   simp only [Zl,Zy,if_neg (Nat.ne_of_gt h0)] at he
   grind [Qq]
theorem QfQ:Qi Try.prog QbD:=Qn fun x _=>Qp7 x.1
def Yn (t:Bool):TRes:=zre (zcb t)
def Qcy:TRow:=Qj 133 [(.a [(.sl ctOp)])] fun x=>(none,Yn (Qq x.1))
def Qct:TTab:=⟨[Qbt],false⟩
def Qle:TCode :=
 (zsq [(.reg [zbi 19 .lss 18 17]),(.cond 19 .skip (.exit 0)),(.block 1 (zsq [(.reg [zmv 20 18,zia 21 16 18 ctOp,zLd 22 21 4,zop 4 (.new 76 (z0s ctOp)),zmv 3 20,zst 4 22 4]),(.draw [zLd 23 4 4,zca 24 134 [23],zno 25 24,zmv 26 25,.grp 26 false [zmv 27 3,zbi 28 .gtr 27 (zki 0),zmv 29 28,.grp 29 true [zfa 30 1 0,zld 31 30 1,zmv 32 3,zbi 33 .sub 32 (zki 1),zia 34 31 33 ctOp,zfa 35 34 2,zld 36 35 1,zfa 37 4 1,zld 38 37 1,zbi 39 .neq 36 38] 40 39] 41 40] []),(.cond 41 (zsq [(.reg [zmv 2 (zkb false)]),.ret]) .skip)])),(.reg [zbi 42 .add 18 (zki 1),zmv 18 42])])
def QfR:List (Nat × Md):=[(1,.b [.d]),(16,.one .d),(17,.one .d),(18,.one .d)]
def QkH:TCode :=
 (zsq [(.reg [zmv 2 (zkb true)]),.ret])
def Qo4:TCode :=
 (zsq [(.reg [zop 1 (.box 66 0 1),zmv 2 (zkb false)]),(zsq [(.reg [zfa 5 1 0,zld 6 5 1,zle 7 6,zbi 8 .lss 7 (zki 1),zmv 9 8,.grp 9 false [zfa 10 1 0,zld 11 10 1,zle 12 11,zbi 13 .gtr 12 (zki 8)] 14 13]),(.cond 14 (zsq [(.reg [zmv 2 (zkb false)]),.ret]) .skip)]),(zsq [(.reg [zfa 15 1 0,zld 16 15 1,zle 17 16,zmv 18 (zki 0)]),(.block 0 (.loop QfR Qle))]),QkH])
def QgI:List (ARv × Md):=[(.t 2,.one .d)]
def QhA:Qc:=TQ 0 0 QgI K
def QpZ:Qc:=Qseq (tawp Qct 0 QkH (QhA K)) (QhA K)
def Qrh:Qc:=Qblk 0 (QpZ K)
def Qcv (m:List TOp') (x:Int):Prop:=Loop Qct 0 QfR Qle (Qrh K) ⟨[(1,(.p 0 0 0)),(16,(zcs ctOp m)),(17,(zci (m.length:Int))),(18,(zci x))],[(0,(.box [(zcs ctOp m)]))],1⟩
theorem QgC (m:List TOp') (x:Int) (h :
 (zif (decide (x<(m.length:Int))) (((0:Int)≤x∧Int.toNat x<m.length)∧(((!(!(QF (gtd dOp m (Int.toNat x)))))=true→((decide (x>(0:Int)))=true→((0:Int)≤w64 (x-(1:Int))∧Int.toNat (w64 (x-(1:Int)))<m.length)))∧(zif ((!(QF (gtd dOp m (Int.toNat x))))||((decide (x>(0:Int)))&&(((gtd dOp m (Int.toNat (w64 (x-(1:Int))))).2.2.1) != ((gtd dOp m (Int.toNat x)).2.1)))) (K (Yn false)) (Qcv K m (w64 (x+(1:Int))))))) (K (Yn true)))):Qcv K m x :=
 Loop.of (by kernel_rfl) h
theorem Qnk (m:List TOp') (h :
 (zif ((decide ((m.length:Int)<(1:Int)))||(decide ((m.length:Int)>(8:Int)))) (K (Yn false)) (Qcv K m 0))):Hold (tawp Qct (0+0) Qo4 (TQ 0 0 QgI K) (Qh [(.a [(.c (.sl ctOp) m)])])) :=
 Hold.of (by kernel_rfl) h
theorem Qqg (m:List TOp'):TCon Try.prog 133 [(.a [(.c (.sl ctOp) m)])] (Yn (Qq m)):=by
 refine Ql rfl fun hb=>tcg (Γ:=Qct) (n:=43) (sg:=Qcy.sg) Qm (TOkL.cons Qje TOkL.nil) (by kernel_rfl) (by kernel_rfl) (Qnk _ m ?_)
 have hl_m_0:(m).length≤9223372036854775807:=hb.1.1.1
 refine ⟨fun h=>R_eq (by grind [Qq,m_in]),fun h=>?_⟩
 have hin:m_in m.length 1 8=true:=by grind [m_in]
 refine ZF m (fun r k=>Zl (Zy m k) r=Zl none m→Qcv (fun r'=>r'=Yn (Qq m)) m k) ?_ ?_ rfl
 ·intro he
  refine QgC (fun r'=>r'=Yn (Qq m)) m _ ⟨fun h=>by simp at h,fun _=>?_⟩
  grind [Zl,Qq]
 ·intro k x r hk hlt hg ih he
  refine QgC (fun r'=>r'=Yn (Qq m)) m _ ⟨fun _=>?_,fun h=>by simp at h;omega⟩
  rw [Int.toNat_natCast,hg,Qr (x:=(k:Int)+1) (by omega) (by omega)]
  have ep:Zy m (k+1)=some x.2.2.1:=by simp [Zy,hg]
  rw [ep] at ih
  rcases Nat.eq_zero_or_pos k with h0 | h0
  ·subst h0
   simp only [Zl,Zy,if_true] at he
   grind [Qq]
  ·have e2:=QbF h0 (by omega:k≤9223372036854775807)
   simp only [Zl,Zy,if_neg (Nat.ne_of_gt h0)] at he
   grind [Qq]
theorem QiO:Qi Try.prog Qcy:=Qn fun x _=>Qqg x.1
end
end Go.Proofs.Ytephkbajoofeoaa.Am

