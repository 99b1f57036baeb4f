/- -/
import Derived.Test.YtephkbajoofeoaaYCP1
namespace Go.Proofs.Ytephkbajoofeoaa.Am
open Go Go.RowKit Go.Proofs.Ytephkbajoofeoaa
set_option linter.all false
noncomputable section
variable (K:TRes→Prop)
def ZT (t:Int):TRes:=zre (zci t)
def Qbg:TRow:=Qr 191 [(.a ctOp)] fun x=>(none,ZT (QG x.1))
def QcO:List TRow:=[YF]
def QeS:TCode :=
 (.cond 15 (zsq [(.reg [zfa 18 1 1,zld 19 18 1,zfa 20 1 2,zld 21 20 1,zbi 22 .mul 19 21,zmv 2 22]),.ret]) (zsq [(.reg [zbi 24 .eql 14 (zki 2),zmv 23 24]),(.cond 23 (zsq [(.reg [zfa 25 1 1,zld 26 25 1,zmv 2 26]),.ret]) (zsq [(.reg [zbi 28 .eql 14 (zki 4),zmv 27 28]),(.cond 27 (zsq [(.reg [zmv 2 (zki 1)]),.ret]) .skip)]))]))
def Qj2:List (Nat × Md):=[(1,.b (zds 4)),(14,.one .d),(15,.one .d)]
def Qi4:TCode:=.wk Qj2 QeS
def Qd5:TCode :=
 (zsq [(.reg [zmv 2 (zki 0)]),.ret])
def Ql6:TCode :=
 (zsq [(.reg [zop 1 (.box 76 0 4),zmv 2 (zki 0)]),(zsq [(.reg [zfa 3 1 1,zld 4 3 1,zca 5 102 [4,(zki 1),(zki 6)],zno 6 5,zmv 7 6,.grp 7 false [zfa 8 1 2,zld 9 8 1,zca 10 102 [9,(zki 1),(zki 6)],zno 11 10] 12 11]),(.cond 12 (zsq [(.reg [zmv 2 (zki 0)]),.ret]) .skip)]),(zsq [(.reg [zfa 13 1 0,zld 14 13 1]),(.block 0 (zsq [(zsq [(.reg [zbi 16 .eql 14 (zki 1),zmv 15 16]),(.cond 15 .skip (.reg [zbi 17 .eql 14 (zki 5),zmv 15 17]))]),Qi4]))]),Qd5])
def QeP:List (ARv × Md):=[(.t 2,.one .d)]
def Qf9:Qd:=TQ 0 0 QeP K
def QnP:Qd:=Qseq (tawp QcO 0 Qd5 (Qf9 K)) (Qf9 K)
def Qic:Qd:=Qblk 0 (QnP K)
@[irreducible] def QcB (o:TOp') (x:Bool):Prop:=tawp QcO 0 QeS (Qic K) ⟨[(1,(.p 0 0 0)),(14,(zci o.1)),(15,(zcb x))],[(0,(.box (Tup.cells ctOp o)))],1⟩
theorem Qhj (o:TOp') (x:Bool) (h :
 (zif x (K (ZT (w64 (o.2.1*o.2.2.1)))) (zif (o.1==(2:Int)) (K (ZT o.2.1)) (zif (o.1==(4:Int)) (K (ZT (1:Int))) (K (ZT (0:Int))))))):Hold (QcB K o x) :=
 Hold.of (by kernel_rfl) h
theorem QlK (o:TOp') (h :
 (zif ((!(m_in o.2.1 (1:Int) (6:Int)))||(!(m_in o.2.2.1 (1:Int) (6:Int)))) (K (ZT (0:Int))) (zif (o.1==(1:Int)) (QcB K o (o.1==(1:Int))) (QcB K o (o.1==(5:Int)))))):Hold (tawp QcO (0+0) Ql6 (TQ 0 0 QeP K) (Ql [(.a (Tup.cells ctOp o))])) :=
 Hold.of (by kernel_rfl) h
theorem QlX (o:TOp'):TCon Try.prog 191 [(.a (Tup.cells ctOp o))] (ZT (QG o)):=by
 refine QY rfl fun hb=>tcg (n:=29) (sg:=Qbg.sg) Qv (TOk.cons JM TOk.nil) (by kernel_rfl) (by kernel_rfl) (QlK _ o ?_)
 have hl_o_3:(o.2.2.2).length≤9223372036854775807:=hb.1.2.2.2.1.1
 refine ⟨fun h=>R_eq (by grind [QG]),fun h=>?_⟩
 have hi:m_in o.2.1 1 6=true∧m_in o.2.2.1 1 6=true:=by simpa using h
 have hm:=Qcd (QK.1 hi.1).1 (QK.1 hi.1).2 (QK.1 hi.2).1 (QK.1 hi.2).2
 have hw:=Qk (x:=o.2.1*o.2.2.1) (by omega) (by omega)
 refine ⟨fun h1=>(Qhj (fun r'=>r'=ZT (QG o)) o _ ?_).h,fun h1=>(Qhj (fun r'=>r'=ZT (QG o)) o _ ?_).h⟩ <;> grind [QG]
theorem QgP:Qq Try.prog Qbg:=Qy fun x _=>QlX x.1
def ZX (t:Int):TRes:=zre (zci t)
def QcM:TRow:=Qr 189 [(.a ctOp)] fun x=>(none,ZX (QG x.1))
def Qc8:List TRow:=[]
def Qfn:TCode :=
 (.cond 23 (zsq [(.reg [zfa 26 1 1,zld 27 26 1,zfa 28 1 2,zld 29 28 1,zbi 30 .mul 27 29,zmv 2 30]),.ret]) (zsq [(.reg [zbi 32 .eql 22 (zki 2),zmv 31 32]),(.cond 31 (zsq [(.reg [zfa 33 1 1,zld 34 33 1,zmv 2 34]),.ret]) (zsq [(.reg [zbi 36 .eql 22 (zki 4),zmv 35 36]),(.cond 35 (zsq [(.reg [zmv 2 (zki 1)]),.ret]) .skip)]))]))
def Qi3:List (Nat × Md):=[(1,.b (zds 4)),(22,.one .d),(23,.one .d)]
def Qia:TCode:=.wk Qi3 Qfn
def Qg4:TCode :=
 (zsq [(.reg [zmv 2 (zki 0)]),.ret])
def QnL:TCode :=
 (zsq [(.reg [zop 1 (.box 76 0 4),zmv 2 (zki 0)]),(zsq [(.reg [zfa 3 1 1,zld 4 3 1,zbi 5 .lss 4 (zki 1),zmv 6 5,.grp 6 false [zfa 7 1 1,zld 8 7 1,zbi 9 .gtr 8 (zki 6)] 10 9,zmv 11 10,.grp 11 false [zfa 12 1 2,zld 13 12 1,zbi 14 .lss 13 (zki 1)] 15 14,zmv 16 15,.grp 16 false [zfa 17 1 2,zld 18 17 1,zbi 19 .gtr 18 (zki 6)] 20 19]),(.cond 20 (zsq [(.reg [zmv 2 (zki 0)]),.ret]) .skip)]),(zsq [(.reg [zfa 21 1 0,zld 22 21 1]),(.block 0 (zsq [(zsq [(.reg [zbi 24 .eql 22 (zki 1),zmv 23 24]),(.cond 23 .skip (.reg [zbi 25 .eql 22 (zki 5),zmv 23 25]))]),Qia]))]),Qg4])
def Qet:List (ARv × Md):=[(.t 2,.one .d)]
def Qfv:Qd:=TQ 0 0 Qet K
def QiF:Qd:=Qseq (tawp Qc8 0 Qg4 (Qfv K)) (Qfv K)
def Qjs:Qd:=Qblk 0 (QiF K)
@[irreducible] def Qdq (o:TOp') (x:Bool):Prop:=tawp Qc8 0 Qfn (Qjs K) ⟨[(1,(.p 0 0 0)),(22,(zci o.1)),(23,(zcb x))],[(0,(.box (Tup.cells ctOp o)))],1⟩
theorem QhM (o:TOp') (x:Bool) (h :
 (zif x (K (ZX (w64 (o.2.1*o.2.2.1)))) (zif (o.1==(2:Int)) (K (ZX o.2.1)) (zif (o.1==(4:Int)) (K (ZX (1:Int))) (K (ZX (0:Int))))))):Hold (Qdq K o x) :=
 Hold.of (by kernel_rfl) h
theorem QjE (o:TOp') (h :
 (zif ((((decide (o.2.1<(1:Int)))||(decide (o.2.1>(6:Int))))||(decide (o.2.2.1<(1:Int))))||(decide (o.2.2.1>(6:Int)))) (K (ZX (0:Int))) (zif (o.1==(1:Int)) (Qdq K o (o.1==(1:Int))) (Qdq K o (o.1==(5:Int)))))):Hold (tawp Qc8 (0+0) QnL (TQ 0 0 Qet K) (Ql [(.a (Tup.cells ctOp o))])) :=
 Hold.of (by kernel_rfl) h
theorem Qkp (o:TOp'):TCon Try.prog 189 [(.a (Tup.cells ctOp o))] (ZX (QG o)):=by
 refine QY rfl fun hb=>tcg (n:=37) (sg:=QcM.sg) Qv TOk.nil (by kernel_rfl) (by kernel_rfl) (QjE _ o ?_)
 have hl_o_3:(o.2.2.2).length≤9223372036854775807:=hb.1.2.2.2.1.1
 refine ⟨fun h=>R_eq (by grind [QG,m_in]),fun h=>?_⟩
 have hi:m_in o.2.1 1 6=true∧m_in o.2.2.1 1 6=true:=by grind [m_in]
 have hm:=Qcd (QK.1 hi.1).1 (QK.1 hi.1).2 (QK.1 hi.2).1 (QK.1 hi.2).2
 have hw:=Qk (x:=o.2.1*o.2.2.1) (by omega) (by omega)
 refine ⟨fun h1=>(QhM (fun r'=>r'=ZX (QG o)) o _ ?_).h,fun h1=>(QhM (fun r'=>r'=ZX (QG o)) o _ ?_).h⟩ <;> grind [QG]
theorem QlN:Qq Try.prog QcM:=Qy fun x _=>Qkp x.1
def Yh (t:Bool):TRes:=zre (zcb t)
def QcE:TRow:=Qr 137 [(.a ctOp)] fun x=>(none,Yh (QF x.1))
def Qc4:List TRow:=[YF,Qbg,QbK]
def QdD:TCode :=
 (zsq [(zsq [(.reg [zmv 40 3,zfa 41 1 3,zld 42 41 1,zle 43 42,zbi 44 .lss 40 43]),(.cond 44 .skip (.exit 0))]),(.block 1 (zsq [(.reg [zfa 47 1 3,zld 48 47 1,zmv 49 3,zia 50 48 49 [TI],zld 51 50 1,zca 52 122 [51],zno 53 52]),(.cond 53 (zsq [(.reg [zmv 2 (zkb false)]),.ret]) .skip)])),(.reg [zmv 45 3,zbi 46 .add 45 (zki 1),zmv 3 46])])
def QeQ:List (Nat × Md):=[(1,.b (zds 4)),(3,.one .d)]
def QhX:TCode :=
 (zsq [(.reg [zmv 2 (zkb true)]),.ret])
def Qh6:TCode :=
 (zsq [(.reg [zop 1 (.box 76 0 4),zmv 2 (zkb false)]),(zsq [(.draw [zfa 4 1 0,zld 5 4 1,zca 6 102 [5,(zki 1),(zki 5)],zno 7 6,zmv 8 7,.grp 8 false [zfa 9 1 1,zld 10 9 1,zca 11 102 [10,(zki 1),(zki 6)],zno 12 11] 13 12,zmv 14 13,.grp 14 false [zfa 15 1 2,zld 16 15 1,zca 17 102 [16,(zki 1),(zki 6)],zno 18 17] 19 18,zmv 20 19,.grp 20 false [zfa 21 1 0,zld 22 21 1,zbi 23 .neq 22 (zki 1),zmv 24 23,.grp 24 true [zfa 25 1 1,zld 26 25 1,zfa 27 1 2,zld 28 27 1,zbi 29 .neq 26 28] 30 29] 31 30,zmv 32 31,.grp 32 false [zfa 33 1 3,zld 34 33 1,zle 35 34,zLd 36 1 4,zca 37 191 [36],zbi 38 .neq 35 37] 39 38] [(29,33),(30,33),(31,33)]),(.cond 39 (zsq [(.reg [zmv 2 (zkb false)]),.ret]) .skip)]),(zsq [(.reg [zmv 3 (zki 0)]),(.block 0 (.loop QeQ QdD))]),QhX])
def Qhe:List (ARv × Md):=[(.t 2,.one .d)]
def QgU:Qd:=TQ 0 0 Qhe K
def Qif:Qd:=Qseq (tawp Qc4 0 QhX (QgU K)) (QgU K)
def QnY:Qd:=Qblk 0 (Qif K)
def QbG (o:TOp') (i:Int):Prop:=Loop Qc4 0 QeQ QdD (QnY K) ⟨[(1,(.p 0 0 0)),(3,(zci i))],[(0,(.box (Tup.cells ctOp o)))],1⟩
theorem Qjw (o:TOp') (i:Int) (h :
 (zif (decide (i<((o.2.2.2).length:Int))) (((0:Int)≤i∧Int.toNat i<(o.2.2.2).length)∧(zif (!(QU (gtd (0:Int) o.2.2.2 (Int.toNat i)))) (K (Yh false)) (QbG K o (w64 (i+(1:Int)))))) (K (Yh true)))):QbG K o i :=
 Loop.of (by kernel_rfl) h
theorem Qm0 (o:TOp') (h :
 (zif (((((!(m_in o.1 (1:Int) (5:Int)))||(!(m_in o.2.1 (1:Int) (6:Int))))||(!(m_in o.2.2.1 (1:Int) (6:Int))))||((o.1 != (1:Int))&&(o.2.1 != o.2.2.1)))||(((o.2.2.2).length:Int) != (QG o))) (K (Yh false)) (QbG K o 0))):Hold (tawp Qc4 (0+0) Qh6 (TQ 0 0 Qhe K) (Ql [(.a (Tup.cells ctOp o))])) :=
 Hold.of (by kernel_rfl) h
theorem QkG (o:TOp'):TCon Try.prog 137 [(.a (Tup.cells ctOp o))] (Yh (QF o)):=by
 refine QY rfl fun hb=>tcg (n:=54) (sg:=QcE.sg) Qv (TOk.cons JM (TOk.cons QgP (TOk.cons Qlu TOk.nil))) (by kernel_rfl) (by kernel_rfl) (Qm0 _ o ?_)
 have hl_o_3:(o.2.2.2).length≤9223372036854775807:=hb.1.2.2.2.1.1
 refine ⟨fun h=>R_eq (by grind [QF]),fun h=>?_⟩
 exact QfJ (Q:=fun x=>Yh x=Yh (QF o)) (p:=QU) (c:=fun x=>!(QU x)) 0 hl_o_3 (fun _=>rfl) (fun i h=>Qjw (fun r'=>r'=Yh (QF o)) o i h) (R_eq (by grind [QF,Q8]))
theorem Qjh:Qq Try.prog QcE:=Qy fun x _=>QkG x.1
def J1 (t:Bool):TRes:=zre (zcb t)
def Qac:TRow:=Qr 134 [(.a ctOp)] fun x=>(none,J1 (QF x.1))
def QnQ:List TRow:=[QcM,Qdd]
def Qj0:TCode :=
 (zsq [(.reg [zop 1 (.box 76 0 4),zmv 2 (zkb false)]),(zsq [(.reg [zfa 3 1 0,zld 4 3 1,zbi 5 .lss 4 (zki 1),zmv 6 5,.grp 6 false [zfa 7 1 0,zld 8 7 1,zbi 9 .gtr 8 (zki 5)] 10 9,zmv 11 10,.grp 11 false [zfa 12 1 1,zld 13 12 1,zbi 14 .lss 13 (zki 1)] 15 14,zmv 16 15,.grp 16 false [zfa 17 1 1,zld 18 17 1,zbi 19 .gtr 18 (zki 6)] 20 19,zmv 21 20,.grp 21 false [zfa 22 1 2,zld 23 22 1,zbi 24 .lss 23 (zki 1)] 25 24,zmv 26 25,.grp 26 false [zfa 27 1 2,zld 28 27 1,zbi 29 .gtr 28 (zki 6)] 30 29]),(.cond 30 (zsq [(.reg [zmv 2 (zkb false)]),.ret]) .skip)]),(zsq [(.reg [zfa 31 1 0,zld 32 31 1,zbi 33 .neq 32 (zki 1),zmv 34 33,.grp 34 true [zfa 35 1 1,zld 36 35 1,zfa 37 1 2,zld 38 37 1,zbi 39 .neq 36 38] 40 39]),(.cond 40 (zsq [(.reg [zmv 2 (zkb false)]),.ret]) .skip)]),(.draw [zfa 41 1 3,zld 42 41 1,zle 43 42,zLd 44 1 4,zca 45 189 [44],zbi 46 .eql 43 45,zmv 47 46,.grp 47 true [zfa 48 1 3,zld 49 48 1,zca 50 190 [49]] 51 50,zmv 2 51] [(0,4),(1,4),(2,4)]),.ret])
def Qje:List (ARv × Md):=[(.t 2,.one .d)]
theorem QmG (o:TOp') (h :
 (zif ((((((decide (o.1<(1:Int)))||(decide (o.1>(5:Int))))||(decide (o.2.1<(1:Int))))||(decide (o.2.1>(6:Int))))||(decide (o.2.2.1<(1:Int))))||(decide (o.2.2.1>(6:Int)))) (K (J1 false)) (zif ((o.1 != (1:Int))&&(o.2.1 != o.2.2.1)) (K (J1 false)) (K (J1 ((((o.2.2.2).length:Int)==(QG o))&&(Q8 o.2.2.2))))))):Hold (tawp QnQ (0+0) Qj0 (TQ 0 0 Qje K) (Ql [(.a (Tup.cells ctOp o))])) :=
 Hold.of (by kernel_rfl) h
theorem Qkk (o:TOp'):TCon Try.prog 134 [(.a (Tup.cells ctOp o))] (J1 (QF o)):=by
 refine QY rfl fun hb=>tcg (n:=52) (sg:=Qac.sg) Qv (TOk.cons QlN (TOk.cons Qk1 TOk.nil)) (by kernel_rfl) (by kernel_rfl) (QmG _ o ?_)
 have hl_o_3:(o.2.2.2).length≤9223372036854775807:=hb.1.2.2.2.1.1
 grind [QF,m_in]
theorem QfM:Qq Try.prog Qac:=Qy fun x _=>Qkk x.1
def Yp (t:Int):TRes:=zre (zci t)
def QaK:TRow:=Qr 52 [(.a ctOp)] fun x=>(none,Yp (Q5 x.1))
def Qdv:List TRow:=[Qac]
def QeM:TCode :=
 (.cond 8 (zsq [(.reg [zfa 11 1 1,zld 12 11 1,zfa 13 1 2,zld 14 13 1,zbi 15 .mul 12 14,zmv 2 15]),.ret]) (zsq [(.reg [zbi 17 .eql 7 (zki 4),zmv 16 17]),(.cond 16 (zsq [(.reg [zfa 18 1 1,zld 19 18 1,zmv 2 19]),.ret]) .skip)]))
def QmN:List (Nat × Md):=[(1,.b (zds 4)),(7,.one .d),(8,.one .d)]
def Qnq:TCode:=.wk QmN QeM
def Qf4:TCode :=
 (zsq [(.reg [zmv 2 (zki 0)]),.ret])
def QkL:TCode :=
 (zsq [(.reg [zop 1 (.box 76 0 4),zmv 2 (zki 0)]),(zsq [(.reg [zLd 3 1 4,zca 4 134 [3],zno 5 4]),(.cond 5 (zsq [(.reg [zmv 2 (zki 0)]),.ret]) .skip)]),(zsq [(.reg [zfa 6 1 0,zld 7 6 1]),(.block 0 (zsq [(zsq [(.reg [zbi 9 .eql 7 (zki 1),zmv 8 9]),(.cond 8 .skip (.reg [zbi 10 .eql 7 (zki 5),zmv 8 10]))]),Qnq]))]),Qf4])
def Qgj:List (ARv × Md):=[(.t 2,.one .d)]
def Qe3:Qd:=TQ 0 0 Qgj K
def Qlr:Qd:=Qseq (tawp Qdv 0 Qf4 (Qe3 K)) (Qe3 K)
def Qiw:Qd:=Qblk 0 (Qlr K)
@[irreducible] def Qda (o:TOp') (x:Bool):Prop:=tawp Qdv 0 QeM (Qiw K) ⟨[(1,(.p 0 0 0)),(7,(zci o.1)),(8,(zcb x))],[(0,(.box (Tup.cells ctOp o)))],1⟩
theorem Qd6 (o:TOp') (x:Bool) (h :
 (zif x (K (Yp (w64 (o.2.1*o.2.2.1)))) (zif (o.1==(4:Int)) (K (Yp o.2.1)) (K (Yp (0:Int)))))):Hold (Qda K o x) :=
 Hold.of (by kernel_rfl) h
theorem Qjd (o:TOp') (h :
 (zif (!(QF o)) (K (Yp (0:Int))) (zif (o.1==(1:Int)) (Qda K o (o.1==(1:Int))) (Qda K o (o.1==(5:Int)))))):Hold (tawp Qdv (0+0) QkL (TQ 0 0 Qgj K) (Ql [(.a (Tup.cells ctOp o))])) :=
 Hold.of (by kernel_rfl) h
theorem QiZ (o:TOp'):TCon Try.prog 52 [(.a (Tup.cells ctOp o))] (Yp (Q5 o)):=by
 refine QY rfl fun hb=>tcg (n:=20) (sg:=QaK.sg) Qv (TOk.cons QfM TOk.nil) (by kernel_rfl) (by kernel_rfl) (Qjd _ o ?_)
 have hl_o_3:(o.2.2.2).length≤9223372036854775807:=hb.1.2.2.2.1.1
 refine ⟨fun h=>R_eq (by grind [Q5]),fun h=>?_⟩
 have hw:=QnC o (by simpa using h)
 refine ⟨fun h1=>(Qd6 (fun r'=>r'=Yp (Q5 o)) o _ ?_).h,fun h1=>(Qd6 (fun r'=>r'=Yp (Q5 o)) o _ ?_).h⟩ <;> grind [Q5]
theorem Qei:Qq Try.prog QaK:=Qy fun x _=>QiZ x.1
def YM (t:Bool):TRes:=zre (zcb t)
def QcC:TRow:=Qr 60 [(.a [(.sl ctOp)])] fun x=>(none,YM (Qs x.1))
def QbP:List TRow:=[QcE,YF]
def Qfg:TCode :=
 (zsq [(zsq [(.reg [zmv 4 3,zfa 5 1 0,zld 6 5 1,zle 7 6,zbi 8 .lss 4 7]),(.cond 8 .skip (.exit 0))]),(.block 1 (zsq [(.draw [zfa 11 1 0,zld 12 11 1,zmv 13 3,zia 14 12 13 ctOp,zLd 15 14 4,zca 16 137 [15],zno 17 16,zmv 18 17,.grp 18 false [zmv 19 3,zbi 20 .gtr 19 (zki 0),zmv 21 20,.grp 21 true [zfa 22 1 0,zld 23 22 1,zmv 24 3,zia 25 23 24 ctOp,zfa 26 25 1,zld 27 26 1,zfa 28 1 0,zld 29 28 1,zmv 30 3,zbi 31 .sub 30 (zki 1),zia 32 29 31 ctOp,zfa 33 32 2,zld 34 33 1,zbi 35 .neq 27 34] 36 35] 37 36] []),(.cond 37 (zsq [(.reg [zmv 2 (zkb false)]),.ret]) .skip)])),(.reg [zmv 9 3,zbi 10 .add 9 (zki 1),zmv 3 10])])
def Qfb:List (Nat × Md):=[(1,.b [.d]),(3,.one .d)]
def QhG:TCode :=
 (zsq [(.reg [zfa 38 1 0,zld 39 38 1,zle 40 39,zca 41 102 [40,(zki 1),(zki 8)],zmv 2 41]),.ret])
def QlH:TCode :=
 (zsq [(.reg [zop 1 (.box 66 0 1),zmv 2 (zkb false)]),(zsq [(.reg [zmv 3 (zki 0)]),(.block 0 (.loop Qfb Qfg))]),QhG])
def Qh3:List (ARv × Md):=[(.t 2,.one .d)]
def Qe5:Qd:=TQ 0 0 Qh3 K
def Qlo:Qd:=Qseq (tawp QbP 0 QhG (Qe5 K)) (Qe5 K)
def Qne:Qd:=Qblk 0 (Qlo K)
def Qbl (m:List TOp') (i:Int):Prop:=Loop QbP 0 Qfb Qfg (Qne K) ⟨[(1,(.p 0 0 0)),(3,(zci i))],[(0,(.box [(zcs ctOp m)]))],1⟩
theorem QgY (m:List TOp') (i:Int) (h :
 (zif (decide (i<(m.length:Int))) ((((0:Int)≤i∧Int.toNat i<m.length)∧((!(!(QF (gtd dOp m (Int.toNat i)))))=true→((decide (i>(0:Int)))=true→(((0:Int)≤i∧Int.toNat i<m.length)∧((0:Int)≤w64 (i-(1:Int))∧Int.toNat (w64 (i-(1:Int)))<m.length)))))∧(zif ((!(QF (gtd dOp m (Int.toNat i))))||((decide (i>(0:Int)))&&(((gtd dOp m (Int.toNat i)).2.1) != ((gtd dOp m (Int.toNat (w64 (i-(1:Int))))).2.2.1)))) (K (YM false)) (Qbl K m (w64 (i+(1:Int)))))) (K (YM (m_in (m.length:Int) (1:Int) (8:Int)))))):Qbl K m i :=
 Loop.of (by kernel_rfl) h
theorem QiY (m:List TOp') (h :
 (Qbl K m 0)):Hold (tawp QbP (0+0) QlH (TQ 0 0 Qh3 K) (Ql [(.a [(.c (.sl ctOp) m)])])) :=
 Hold.of (by kernel_rfl) h
theorem Qn0 (m:List TOp'):TCon Try.prog 60 [(.a [(.c (.sl ctOp) m)])] (YM (Qs m)):=by
 refine QY rfl fun hb=>tcg (n:=42) (sg:=QcC.sg) Qv (TOk.cons Qjh (TOk.cons JM TOk.nil)) (by kernel_rfl) (by kernel_rfl) (QiY _ m ?_)
 have hl_m_0:(m).length≤9223372036854775807:=hb.1.1.1
 refine Jy m (fun r k=>QZ (ZE m k) r=QZ none m→Qbl (fun r'=>r'=YM (Qs m)) m k) ?_ ?_ rfl
 ·intro he
  refine QgY (fun r'=>r'=YM (Qs m)) m _ ⟨fun h=>by simp at h,fun _=>?_⟩
  grind [QZ,Qs]
 ·intro k x r hk hlt hg ih he
  refine QgY (fun r'=>r'=YM (Qs m)) m _ ⟨fun _=>?_,fun h=>by simp at h;omega⟩
  rw [Int.toNat_natCast,hg,Qk (x:=(k:Int)+1) (by omega) (by omega)]
  have ep:ZE m (k+1)=some x.2.2.1:=by simp [ZE,hg]
  rw [ep] at ih
  rcases Nat.eq_zero_or_pos k with h0 | h0
  ·subst h0
   simp only [QZ,ZE,if_true] at he
   grind [Qs]
  ·have e2:=QaN h0 (by omega:k≤9223372036854775807)
   simp only [QZ,ZE,if_neg (Nat.ne_of_gt h0)] at he
   grind [Qs]
theorem QkM:Qq Try.prog QcC:=Qy fun x _=>Qn0 x.1
def Ye (t:Bool):TRes:=zre (zcb t)
def Qdu:TRow:=Qr 133 [(.a [(.sl ctOp)])] fun x=>(none,Ye (Qs x.1))
def QcW:List TRow:=[Qac]
def Qgq:TCode :=
 (zsq [(.reg [zbi 19 .lss 18 17]),(.cond 19 .skip (.exit 0)),(.block 1 (zsq [(.reg [zmv 20 18,zia 21 16 18 ctOp,zLd 22 21 4,zop 4 (.new 76 (z0s ctOp)),zmv 3 20,zst 4 22 4]),(.draw [zLd 23 4 4,zca 24 134 [23],zno 25 24,zmv 26 25,.grp 26 false [zmv 27 3,zbi 28 .gtr 27 (zki 0),zmv 29 28,.grp 29 true [zfa 30 1 0,zld 31 30 1,zmv 32 3,zbi 33 .sub 32 (zki 1),zia 34 31 33 ctOp,zfa 35 34 2,zld 36 35 1,zfa 37 4 1,zld 38 37 1,zbi 39 .neq 36 38] 40 39] 41 40] []),(.cond 41 (zsq [(.reg [zmv 2 (zkb false)]),.ret]) .skip)])),(.reg [zbi 42 .add 18 (zki 1),zmv 18 42])])
def Qf5:List (Nat × Md):=[(1,.b [.d]),(16,.one .d),(17,.one .d),(18,.one .d)]
def Qhn:TCode :=
 (zsq [(.reg [zmv 2 (zkb true)]),.ret])
def QmA:TCode :=
 (zsq [(.reg [zop 1 (.box 66 0 1),zmv 2 (zkb false)]),(zsq [(.reg [zfa 5 1 0,zld 6 5 1,zle 7 6,zbi 8 .lss 7 (zki 1),zmv 9 8,.grp 9 false [zfa 10 1 0,zld 11 10 1,zle 12 11,zbi 13 .gtr 12 (zki 8)] 14 13]),(.cond 14 (zsq [(.reg [zmv 2 (zkb false)]),.ret]) .skip)]),(zsq [(.reg [zfa 15 1 0,zld 16 15 1,zle 17 16,zmv 18 (zki 0)]),(.block 0 (.loop Qf5 Qgq))]),Qhn])
def QhD:List (ARv × Md):=[(.t 2,.one .d)]
def Qe7:Qd:=TQ 0 0 QhD K
def QnK:Qd:=Qseq (tawp QcW 0 Qhn (Qe7 K)) (Qe7 K)
def Qlm:Qd:=Qblk 0 (QnK K)
def Qas (m:List TOp') (x:Int):Prop:=Loop QcW 0 Qf5 Qgq (Qlm K) ⟨[(1,(.p 0 0 0)),(16,(zcs ctOp m)),(17,(zci (m.length:Int))),(18,(zci x))],[(0,(.box [(zcs ctOp m)]))],1⟩
theorem QfH (m:List TOp') (x:Int) (h :
 (zif (decide (x<(m.length:Int))) (((0:Int)≤x∧Int.toNat x<m.length)∧(((!(!(QF (gtd dOp m (Int.toNat x)))))=true→((decide (x>(0:Int)))=true→((0:Int)≤w64 (x-(1:Int))∧Int.toNat (w64 (x-(1:Int)))<m.length)))∧(zif ((!(QF (gtd dOp m (Int.toNat x))))||((decide (x>(0:Int)))&&(((gtd dOp m (Int.toNat (w64 (x-(1:Int))))).2.2.1) != ((gtd dOp m (Int.toNat x)).2.1)))) (K (Ye false)) (Qas K m (w64 (x+(1:Int))))))) (K (Ye true)))):Qas K m x :=
 Loop.of (by kernel_rfl) h
theorem Qlw (m:List TOp') (h :
 (zif ((decide ((m.length:Int)<(1:Int)))||(decide ((m.length:Int)>(8:Int)))) (K (Ye false)) (Qas K m 0))):Hold (tawp QcW (0+0) QmA (TQ 0 0 QhD K) (Ql [(.a [(.c (.sl ctOp) m)])])) :=
 Hold.of (by kernel_rfl) h
theorem Qja (m:List TOp'):TCon Try.prog 133 [(.a [(.c (.sl ctOp) m)])] (Ye (Qs m)):=by
 refine QY rfl fun hb=>tcg (n:=43) (sg:=Qdu.sg) Qv (TOk.cons QfM TOk.nil) (by kernel_rfl) (by kernel_rfl) (Qlw _ m ?_)
 have hl_m_0:(m).length≤9223372036854775807:=hb.1.1.1
 refine ⟨fun h=>R_eq (by grind [Qs,m_in]),fun h=>?_⟩
 have hin:m_in m.length 1 8=true:=by grind [m_in]
 refine Jy m (fun r k=>QZ (ZE m k) r=QZ none m→Qas (fun r'=>r'=Ye (Qs m)) m k) ?_ ?_ rfl
 ·intro he
  refine QfH (fun r'=>r'=Ye (Qs m)) m _ ⟨fun h=>by simp at h,fun _=>?_⟩
  grind [QZ,Qs]
 ·intro k x r hk hlt hg ih he
  refine QfH (fun r'=>r'=Ye (Qs m)) m _ ⟨fun _=>?_,fun h=>by simp at h;omega⟩
  rw [Int.toNat_natCast,hg,Qk (x:=(k:Int)+1) (by omega) (by omega)]
  have ep:ZE m (k+1)=some x.2.2.1:=by simp [ZE,hg]
  rw [ep] at ih
  rcases Nat.eq_zero_or_pos k with h0 | h0
  ·subst h0
   simp only [QZ,ZE,if_true] at he
   grind [Qs]
  ·have e2:=QaN h0 (by omega:k≤9223372036854775807)
   simp only [QZ,ZE,if_neg (Nat.ne_of_gt h0)] at he
   grind [Qs]
theorem QkQ:Qq Try.prog Qdu:=Qy fun x _=>Qja x.1
end
end Go.Proofs.Ytephkbajoofeoaa.Am

