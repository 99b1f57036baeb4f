/- -/
import Derived.Test.YtjbdljkhbglnhaaGreatZHP1
namespace Go.Proofs.YtjbdljkhbglnhaaGreat.Am
open Go Go.RowKit Go.Proofs.YtjbdljkhbglnhaaGreat
set_option linter.all false
noncomputable section
variable (K:TRes→Prop)
def QaX (t:Int):TRes:=zre (zci t)
def Qhp:TRow:=Qg 202 [(.a ctOp)] fun x=>(none,QaX (Z2 x.1))
def Qmy:List TRow:=[Jz]
def Qsg:TCode :=
 (.cond 15 (zsq [(.reg [zfa 18 1 1,zld 19 18 1,zfa 20 1 2,zld 21 20 1,zbi 22 .mul 19 21,zmv 2 22]),.ret]) (zsq [(.reg [zbi 24 .eql 14 (zki 2),zmv 23 24]),(.cond 23 (zsq [(.reg [zfa 25 1 1,zld 26 25 1,zmv 2 26]),.ret]) (zsq [(.reg [zbi 28 .eql 14 (zki 4),zmv 27 28]),(.cond 27 (zsq [(.reg [zmv 2 (zki 1)]),.ret]) .skip)]))]))
def QGs:List (Nat × Md):=[(1,.b (zds 4)),(14,.one .d),(15,.one .d)]
def QRw:TCode:=.wk QGs Qsg
def QqI:TCode :=
 (zsq [(.reg [zmv 2 (zki 0)]),.ret])
def QFJ:TCode :=
 (zsq [(.reg [zop 1 (.box 69 0 4),zmv 2 (zki 0)]),(zsq [(.reg [zfa 3 1 1,zld 4 3 1,zca 5 77 [4,(zki 1),(zki 6)],zno 6 5,zmv 7 6,.grp 7 false [zfa 8 1 2,zld 9 8 1,zca 10 77 [9,(zki 1),(zki 6)],zno 11 10] 12 11]),(.cond 12 (zsq [(.reg [zmv 2 (zki 0)]),.ret]) .skip)]),(zsq [(.reg [zfa 13 1 0,zld 14 13 1]),(.block 0 (zsq [(zsq [(.reg [zbi 16 .eql 14 (zki 1),zmv 15 16]),(.cond 15 .skip (.reg [zbi 17 .eql 14 (zki 5),zmv 15 17]))]),QRw]))]),QqI])
def Qp9:List (ARv × Md):=[(.t 2,.one .d)]
def Qq2:Qb:=TQ 0 0 Qp9 K
def QCP:Qb:=Qseq (tawp Qmy 0 QqI (Qq2 K)) (Qq2 K)
def QLN:Qb:=Qblk 0 (QCP K)
@[irreducible] def Qkf (o:TOp') (x:Bool):Prop:=tawp Qmy 0 Qsg (QLN K) ⟨[(1,(.p 0 0 0)),(14,(zci o.1)),(15,(zcb x))],[(0,(.box (Tup.cells ctOp o)))],1⟩
theorem QoG (o:TOp') (x:Bool) (h :
 (zif x (K (QaX (w64 (o.2.1*o.2.2.1)))) (zif (o.1==(2:Int)) (K (QaX o.2.1)) (zif (o.1==(4:Int)) (K (QaX (1:Int))) (K (QaX (0:Int))))))):Hold (Qkf K o x) :=
 Hold.of (by kernel_rfl) h
theorem QMa (o:TOp') (h :
 (zif ((!(m_in o.2.1 (1:Int) (6:Int)))||(!(m_in o.2.2.1 (1:Int) (6:Int)))) (K (QaX (0:Int))) (zif (o.1==(1:Int)) (Qkf K o (o.1==(1:Int))) (Qkf K o (o.1==(5:Int)))))):Hold (tawp Qmy (0+0) QFJ (TQ 0 0 Qp9 K) (Qf [(.a (Tup.cells ctOp o))])) :=
 Hold.of (by kernel_rfl) h
theorem QNL (o:TOp'):TCon Tryz.prog 202 [(.a (Tup.cells ctOp o))] (QaX (Z2 o)):=by
 refine Qq rfl fun hb=>tcg (n:=29) (sg:=Qhp.sg) Qj (TOk.cons JU TOk.nil) (by kernel_rfl) (by kernel_rfl) (QMa _ o ?_)
 have hl_o_3:(o.2.2.2).length≤9223372036854775807:=hb.1.2.2.2.1.1
 refine ⟨fun h=>R_eq (by grind [Z2]),fun h=>?_⟩
 have hi:m_in o.2.1 1 6=true∧m_in o.2.2.1 1 6=true:=by simpa using h
 have hm:=QdB (QJ.1 hi.1).1 (QJ.1 hi.1).2 (QJ.1 hi.2).1 (QJ.1 hi.2).2
 have hw:=Qo (x:=o.2.1*o.2.2.1) (by omega) (by omega)
 refine ⟨fun h1=>(QoG (fun r'=>r'=QaX (Z2 o)) o _ ?_).h,fun h1=>(QoG (fun r'=>r'=QaX (Z2 o)) o _ ?_).h⟩ <;> grind [Z2]
theorem Qsm:Qh Tryz.prog Qhp:=Qk fun x _=>QNL x.1
def Qa7 (t:Int):TRes:=zre (zci t)
def Ql7:TRow:=Qg 221 [(.a ctOp)] fun x=>(none,Qa7 (Z2 x.1))
def QlT:List TRow:=[]
def Qr3:TCode :=
 (.cond 23 (zsq [(.reg [zfa 26 1 1,zld 27 26 1,zfa 28 1 2,zld 29 28 1,zbi 30 .mul 27 29,zmv 2 30]),.ret]) (zsq [(.reg [zbi 32 .eql 22 (zki 2),zmv 31 32]),(.cond 31 (zsq [(.reg [zfa 33 1 1,zld 34 33 1,zmv 2 34]),.ret]) (zsq [(.reg [zbi 36 .eql 22 (zki 4),zmv 35 36]),(.cond 35 (zsq [(.reg [zmv 2 (zki 1)]),.ret]) .skip)]))]))
def QJY:List (Nat × Md):=[(1,.b (zds 4)),(22,.one .d),(23,.one .d)]
def QLX:TCode:=.wk QJY Qr3
def Qyk:TCode :=
 (zsq [(.reg [zmv 2 (zki 0)]),.ret])
def QCx:TCode :=
 (zsq [(.reg [zop 1 (.box 69 0 4),zmv 2 (zki 0)]),(zsq [(.reg [zfa 3 1 1,zld 4 3 1,zbi 5 .lss 4 (zki 1),zmv 6 5,.grp 6 false [zfa 7 1 1,zld 8 7 1,zbi 9 .gtr 8 (zki 6)] 10 9,zmv 11 10,.grp 11 false [zfa 12 1 2,zld 13 12 1,zbi 14 .lss 13 (zki 1)] 15 14,zmv 16 15,.grp 16 false [zfa 17 1 2,zld 18 17 1,zbi 19 .gtr 18 (zki 6)] 20 19]),(.cond 20 (zsq [(.reg [zmv 2 (zki 0)]),.ret]) .skip)]),(zsq [(.reg [zfa 21 1 0,zld 22 21 1]),(.block 0 (zsq [(zsq [(.reg [zbi 24 .eql 22 (zki 1),zmv 23 24]),(.cond 23 .skip (.reg [zbi 25 .eql 22 (zki 5),zmv 23 25]))]),QLX]))]),Qyk])
def Qvf:List (ARv × Md):=[(.t 2,.one .d)]
def Qrn:Qb:=TQ 0 0 Qvf K
def QMH:Qb:=Qseq (tawp QlT 0 Qyk (Qrn K)) (Qrn K)
def QGf:Qb:=Qblk 0 (QMH K)
@[irreducible] def QlC (o:TOp') (x:Bool):Prop:=tawp QlT 0 Qr3 (QGf K) ⟨[(1,(.p 0 0 0)),(22,(zci o.1)),(23,(zcb x))],[(0,(.box (Tup.cells ctOp o)))],1⟩
theorem Qxk (o:TOp') (x:Bool) (h :
 (zif x (K (Qa7 (w64 (o.2.1*o.2.2.1)))) (zif (o.1==(2:Int)) (K (Qa7 o.2.1)) (zif (o.1==(4:Int)) (K (Qa7 (1:Int))) (K (Qa7 (0:Int))))))):Hold (QlC K o x) :=
 Hold.of (by kernel_rfl) h
theorem QIM (o:TOp') (h :
 (zif ((((decide (o.2.1<(1:Int)))||(decide (o.2.1>(6:Int))))||(decide (o.2.2.1<(1:Int))))||(decide (o.2.2.1>(6:Int)))) (K (Qa7 (0:Int))) (zif (o.1==(1:Int)) (QlC K o (o.1==(1:Int))) (QlC K o (o.1==(5:Int)))))):Hold (tawp QlT (0+0) QCx (TQ 0 0 Qvf K) (Qf [(.a (Tup.cells ctOp o))])) :=
 Hold.of (by kernel_rfl) h
theorem QJn (o:TOp'):TCon Tryz.prog 221 [(.a (Tup.cells ctOp o))] (Qa7 (Z2 o)):=by
 refine Qq rfl fun hb=>tcg (n:=37) (sg:=Ql7.sg) Qj TOk.nil (by kernel_rfl) (by kernel_rfl) (QIM _ o ?_)
 have hl_o_3:(o.2.2.2).length≤9223372036854775807:=hb.1.2.2.2.1.1
 refine ⟨fun h=>R_eq (by grind [Z2,m_in]),fun h=>?_⟩
 have hi:m_in o.2.1 1 6=true∧m_in o.2.2.1 1 6=true:=by grind [m_in]
 have hm:=QdB (QJ.1 hi.1).1 (QJ.1 hi.1).2 (QJ.1 hi.2).1 (QJ.1 hi.2).2
 have hw:=Qo (x:=o.2.1*o.2.2.1) (by omega) (by omega)
 refine ⟨fun h1=>(Qxk (fun r'=>r'=Qa7 (Z2 o)) o _ ?_).h,fun h1=>(Qxk (fun r'=>r'=Qa7 (Z2 o)) o _ ?_).h⟩ <;> grind [Z2]
theorem QAV:Qh Tryz.prog Ql7:=Qk fun x _=>QJn x.1
def Qb8 (t:Bool):TRes:=zre (zcb t)
def QhC:TRow:=Qg 152 [(.a ctOp)] fun x=>(none,Qb8 (Q7 x.1))
def QlQ:List TRow:=[Jz,Qhp,Qf5]
def QpQ:TCode :=
 (zsq [(zsq [(.reg [zmv 40 3,zfa 41 1 3,zld 42 41 1,zle 43 42,zbi 44 .lss 40 43]),(.cond 44 .skip (.exit 0))]),(.block 1 (zsq [(.reg [zfa 47 1 3,zld 48 47 1,zmv 49 3,zia 50 48 49 [TI],zld 51 50 1,zca 52 110 [51],zno 53 52]),(.cond 53 (zsq [(.reg [zmv 2 (zkb false)]),.ret]) .skip)])),(.reg [zmv 45 3,zbi 46 .add 45 (zki 1),zmv 3 46])])
def QAh:List (Nat × Md):=[(1,.b (zds 4)),(3,.one .d)]
def Qxc:TCode :=
 (zsq [(.reg [zmv 2 (zkb true)]),.ret])
def QHM:TCode :=
 (zsq [(.reg [zop 1 (.box 69 0 4),zmv 2 (zkb false)]),(zsq [(.draw [zfa 4 1 0,zld 5 4 1,zca 6 77 [5,(zki 1),(zki 5)],zno 7 6,zmv 8 7,.grp 8 false [zfa 9 1 1,zld 10 9 1,zca 11 77 [10,(zki 1),(zki 6)],zno 12 11] 13 12,zmv 14 13,.grp 14 false [zfa 15 1 2,zld 16 15 1,zca 17 77 [16,(zki 1),(zki 6)],zno 18 17] 19 18,zmv 20 19,.grp 20 false [zfa 21 1 0,zld 22 21 1,zbi 23 .neq 22 (zki 1),zmv 24 23,.grp 24 true [zfa 25 1 1,zld 26 25 1,zfa 27 1 2,zld 28 27 1,zbi 29 .neq 26 28] 30 29] 31 30,zmv 32 31,.grp 32 false [zfa 33 1 3,zld 34 33 1,zle 35 34,zLd 36 1 4,zca 37 202 [36],zbi 38 .neq 35 37] 39 38] [(29,33),(30,33),(31,33)]),(.cond 39 (zsq [(.reg [zmv 2 (zkb false)]),.ret]) .skip)]),(zsq [(.reg [zmv 3 (zki 0)]),(.block 0 (.loop QAh QpQ))]),Qxc])
def QAf:List (ARv × Md):=[(.t 2,.one .d)]
def Qwx:Qb:=TQ 0 0 QAf K
def QKt:Qb:=Qseq (tawp QlQ 0 Qxc (Qwx K)) (Qwx K)
def QKB:Qb:=Qblk 0 (QKt K)
def QmJ (o:TOp') (i:Int):Prop:=Loop QlQ 0 QAh QpQ (QKB K) ⟨[(1,(.p 0 0 0)),(3,(zci i))],[(0,(.box (Tup.cells ctOp o)))],1⟩
theorem QJZ (o:TOp') (i:Int) (h :
 (zif (decide (i<((o.2.2.2).length:Int))) (((0:Int)≤i∧Int.toNat i<(o.2.2.2).length)∧(zif (!(Za (gtd (0:Int) o.2.2.2 (Int.toNat i)))) (K (Qb8 false)) (QmJ K o (w64 (i+(1:Int)))))) (K (Qb8 true)))):QmJ K o i :=
 Loop.of (by kernel_rfl) h
theorem QBz (o:TOp') (h :
 (zif (((((!(m_in o.1 (1:Int) (5:Int)))||(!(m_in o.2.1 (1:Int) (6:Int))))||(!(m_in o.2.2.1 (1:Int) (6:Int))))||((o.1 != (1:Int))&&(o.2.1 != o.2.2.1)))||(((o.2.2.2).length:Int) != (Z2 o))) (K (Qb8 false)) (QmJ K o 0))):Hold (tawp QlQ (0+0) QHM (TQ 0 0 QAf K) (Qf [(.a (Tup.cells ctOp o))])) :=
 Hold.of (by kernel_rfl) h
theorem QAR (o:TOp'):TCon Tryz.prog 152 [(.a (Tup.cells ctOp o))] (Qb8 (Q7 o)):=by
 refine Qq rfl fun hb=>tcg (n:=54) (sg:=QhC.sg) Qj (TOk.cons JU (TOk.cons Qsm (TOk.cons QtB TOk.nil))) (by kernel_rfl) (by kernel_rfl) (QBz _ o ?_)
 have hl_o_3:(o.2.2.2).length≤9223372036854775807:=hb.1.2.2.2.1.1
 refine ⟨fun h=>R_eq (by grind [Q7]),fun h=>?_⟩
 exact Qb3 (Q:=fun x=>Qb8 x=Qb8 (Q7 o)) (p:=Za) (c:=fun x=>!(Za x)) 0 hl_o_3 (fun _=>rfl) (fun i h=>QJZ (fun r'=>r'=Qb8 (Q7 o)) o i h) (R_eq (by grind [Q7,Zu]))
theorem Qv3:Qh Tryz.prog QhC:=Qk fun x _=>QAR x.1
def Qeu (t:Bool):TRes:=zre (zcb t)
def Qe7:TRow:=Qg 194 [(.a ctOp)] fun x=>(none,Qeu (Q7 x.1))
def QQi:List TRow:=[Ql7,Qfe]
def QJo:TCode :=
 (zsq [(.reg [zop 1 (.box 69 0 4),zmv 2 (zkb false)]),(zsq [(.reg [zfa 3 1 0,zld 4 3 1,zbi 5 .lss 4 (zki 1),zmv 6 5,.grp 6 false [zfa 7 1 0,zld 8 7 1,zbi 9 .gtr 8 (zki 5)] 10 9,zmv 11 10,.grp 11 false [zfa 12 1 1,zld 13 12 1,zbi 14 .lss 13 (zki 1)] 15 14,zmv 16 15,.grp 16 false [zfa 17 1 1,zld 18 17 1,zbi 19 .gtr 18 (zki 6)] 20 19,zmv 21 20,.grp 21 false [zfa 22 1 2,zld 23 22 1,zbi 24 .lss 23 (zki 1)] 25 24,zmv 26 25,.grp 26 false [zfa 27 1 2,zld 28 27 1,zbi 29 .gtr 28 (zki 6)] 30 29]),(.cond 30 (zsq [(.reg [zmv 2 (zkb false)]),.ret]) .skip)]),(zsq [(.reg [zfa 31 1 0,zld 32 31 1,zbi 33 .neq 32 (zki 1),zmv 34 33,.grp 34 true [zfa 35 1 1,zld 36 35 1,zfa 37 1 2,zld 38 37 1,zbi 39 .neq 36 38] 40 39]),(.cond 40 (zsq [(.reg [zmv 2 (zkb false)]),.ret]) .skip)]),(.draw [zfa 41 1 3,zld 42 41 1,zle 43 42,zLd 44 1 4,zca 45 221 [44],zbi 46 .eql 43 45,zmv 47 46,.grp 47 true [zfa 48 1 3,zld 49 48 1,zca 50 195 [49]] 51 50,zmv 2 51] [(0,4),(1,4),(2,4)]),.ret])
def QOa:List (ARv × Md):=[(.t 2,.one .d)]
theorem QFE (o:TOp') (h :
 (zif ((((((decide (o.1<(1:Int)))||(decide (o.1>(5:Int))))||(decide (o.2.1<(1:Int))))||(decide (o.2.1>(6:Int))))||(decide (o.2.2.1<(1:Int))))||(decide (o.2.2.1>(6:Int)))) (K (Qeu false)) (zif ((o.1 != (1:Int))&&(o.2.1 != o.2.2.1)) (K (Qeu false)) (K (Qeu ((((o.2.2.2).length:Int)==(Z2 o))&&(Zu o.2.2.2))))))):Hold (tawp QQi (0+0) QJo (TQ 0 0 QOa K) (Qf [(.a (Tup.cells ctOp o))])) :=
 Hold.of (by kernel_rfl) h
theorem QPX (o:TOp'):TCon Tryz.prog 194 [(.a (Tup.cells ctOp o))] (Qeu (Q7 o)):=by
 refine Qq rfl fun hb=>tcg (n:=52) (sg:=Qe7.sg) Qj (TOk.cons QAV (TOk.cons QjD TOk.nil)) (by kernel_rfl) (by kernel_rfl) (QFE _ o ?_)
 have hl_o_3:(o.2.2.2).length≤9223372036854775807:=hb.1.2.2.2.1.1
 grind [Q7,m_in]
theorem Qjx:Qh Tryz.prog Qe7:=Qk fun x _=>QPX x.1
def QbA (t:Int):TRes:=zre (zci t)
def Qnu:TRow:=Qg 222 [(.a ctOp)] fun x=>(none,QbA (Qbm x.1))
def QnR:List TRow:=[QhC]
def QsP:TCode :=
 (.cond 8 (zsq [(.reg [zfa 11 1 1,zld 12 11 1,zfa 13 1 2,zld 14 13 1,zbi 15 .mul 12 14,zmv 2 15]),.ret]) (zsq [(.reg [zbi 17 .eql 7 (zki 4),zmv 16 17]),(.cond 16 (zsq [(.reg [zfa 18 1 1,zld 19 18 1,zmv 2 19]),.ret]) .skip)]))
def QA2:List (Nat × Md):=[(1,.b (zds 4)),(7,.one .d),(8,.one .d)]
def QLD:TCode:=.wk QA2 QsP
def Qo9:TCode :=
 (zsq [(.reg [zmv 2 (zki 0)]),.ret])
def QOT:TCode :=
 (zsq [(.reg [zop 1 (.box 69 0 4),zmv 2 (zki 0)]),(zsq [(.reg [zLd 3 1 4,zca 4 152 [3],zno 5 4]),(.cond 5 (zsq [(.reg [zmv 2 (zki 0)]),.ret]) .skip)]),(zsq [(.reg [zfa 6 1 0,zld 7 6 1]),(.block 0 (zsq [(zsq [(.reg [zbi 9 .eql 7 (zki 1),zmv 8 9]),(.cond 8 .skip (.reg [zbi 10 .eql 7 (zki 5),zmv 8 10]))]),QLD]))]),Qo9])
def Qwq:List (ARv × Md):=[(.t 2,.one .d)]
def Qs4:Qb:=TQ 0 0 Qwq K
def QM2:Qb:=Qseq (tawp QnR 0 Qo9 (Qs4 K)) (Qs4 K)
def QGu:Qb:=Qblk 0 (QM2 K)
@[irreducible] def QkX (o:TOp') (x:Bool):Prop:=tawp QnR 0 QsP (QGu K) ⟨[(1,(.p 0 0 0)),(7,(zci o.1)),(8,(zcb x))],[(0,(.box (Tup.cells ctOp o)))],1⟩
theorem Qr0 (o:TOp') (x:Bool) (h :
 (zif x (K (QbA (w64 (o.2.1*o.2.2.1)))) (zif (o.1==(4:Int)) (K (QbA o.2.1)) (K (QbA (0:Int)))))):Hold (QkX K o x) :=
 Hold.of (by kernel_rfl) h
theorem QDX (o:TOp') (h :
 (zif (!(Q7 o)) (K (QbA (0:Int))) (zif (o.1==(1:Int)) (QkX K o (o.1==(1:Int))) (QkX K o (o.1==(5:Int)))))):Hold (tawp QnR (0+0) QOT (TQ 0 0 Qwq K) (Qf [(.a (Tup.cells ctOp o))])) :=
 Hold.of (by kernel_rfl) h
theorem QGa (o:TOp'):TCon Tryz.prog 222 [(.a (Tup.cells ctOp o))] (QbA (Qbm o)):=by
 refine Qq rfl fun hb=>tcg (n:=20) (sg:=Qnu.sg) Qj (TOk.cons Qv3 TOk.nil) (by kernel_rfl) (by kernel_rfl) (QDX _ o ?_)
 have hl_o_3:(o.2.2.2).length≤9223372036854775807:=hb.1.2.2.2.1.1
 refine ⟨fun h=>R_eq (by grind [Qbm]),fun h=>?_⟩
 have hw:=QHR o (by simpa using h)
 refine ⟨fun h1=>(Qr0 (fun r'=>r'=QbA (Qbm o)) o _ ?_).h,fun h1=>(Qr0 (fun r'=>r'=QbA (Qbm o)) o _ ?_).h⟩ <;> grind [Qbm]
theorem QNk:Qh Tryz.prog Qnu:=Qk fun x _=>QGa x.1
def Qcp (t:Bool):TRes:=zre (zcb t)
def QbH:TRow:=Qg 74 [(.a [(.sl ctOp)])] fun x=>(none,Qcp (Qw x.1))
def QkU:List TRow:=[QhC,Jz]
def Qzn:TCode :=
 (zsq [(zsq [(.reg [zmv 4 3,zfa 5 1 0,zld 6 5 1,zle 7 6,zbi 8 .lss 4 7]),(.cond 8 .skip (.exit 0))]),(.block 1 (zsq [(.draw [zfa 11 1 0,zld 12 11 1,zmv 13 3,zia 14 12 13 ctOp,zLd 15 14 4,zca 16 152 [15],zno 17 16,zmv 18 17,.grp 18 false [zmv 19 3,zbi 20 .gtr 19 (zki 0),zmv 21 20,.grp 21 true [zfa 22 1 0,zld 23 22 1,zmv 24 3,zia 25 23 24 ctOp,zfa 26 25 1,zld 27 26 1,zfa 28 1 0,zld 29 28 1,zmv 30 3,zbi 31 .sub 30 (zki 1),zia 32 29 31 ctOp,zfa 33 32 2,zld 34 33 1,zbi 35 .neq 27 34] 36 35] 37 36] []),(.cond 37 (zsq [(.reg [zmv 2 (zkb false)]),.ret]) .skip)])),(.reg [zmv 9 3,zbi 10 .add 9 (zki 1),zmv 3 10])])
def Qts:List (Nat × Md):=[(1,.b [.d]),(3,.one .d)]
def QoM:TCode :=
 (zsq [(.reg [zfa 38 1 0,zld 39 38 1,zle 40 39,zca 41 77 [40,(zki 1),(zki 8)],zmv 2 41]),.ret])
def QFf:TCode :=
 (zsq [(.reg [zop 1 (.box 26 0 1),zmv 2 (zkb false)]),(zsq [(.reg [zmv 3 (zki 0)]),(.block 0 (.loop Qts Qzn))]),QoM])
def QsC:List (ARv × Md):=[(.t 2,.one .d)]
def Qrb:Qb:=TQ 0 0 QsC K
def QHS:Qb:=Qseq (tawp QkU 0 QoM (Qrb K)) (Qrb K)
def QDg:Qb:=Qblk 0 (QHS K)
def QhS (m:List TOp') (i:Int):Prop:=Loop QkU 0 Qts Qzn (QDg K) ⟨[(1,(.p 0 0 0)),(3,(zci i))],[(0,(.box [(zcs ctOp m)]))],1⟩
theorem QyJ (m:List TOp') (i:Int) (h :
 (zif (decide (i<(m.length:Int))) ((((0:Int)≤i∧Int.toNat i<m.length)∧((!(!(Q7 (gtd dOp m (Int.toNat i)))))=true→((decide (i>(0:Int)))=true→(((0:Int)≤i∧Int.toNat i<m.length)∧((0:Int)≤w64 (i-(1:Int))∧Int.toNat (w64 (i-(1:Int)))<m.length)))))∧(zif ((!(Q7 (gtd dOp m (Int.toNat i))))||((decide (i>(0:Int)))&&(((gtd dOp m (Int.toNat i)).2.1) != ((gtd dOp m (Int.toNat (w64 (i-(1:Int))))).2.2.1)))) (K (Qcp false)) (QhS K m (w64 (i+(1:Int)))))) (K (Qcp (m_in (m.length:Int) (1:Int) (8:Int)))))):QhS K m i :=
 Loop.of (by kernel_rfl) h
theorem QAz (m:List TOp') (h :
 (QhS K m 0)):Hold (tawp QkU (0+0) QFf (TQ 0 0 QsC K) (Qf [(.a [(.c (.sl ctOp) m)])])) :=
 Hold.of (by kernel_rfl) h
theorem QBG (m:List TOp'):TCon Tryz.prog 74 [(.a [(.c (.sl ctOp) m)])] (Qcp (Qw m)):=by
 refine Qq rfl fun hb=>tcg (n:=42) (sg:=QbH.sg) Qj (TOk.cons Qv3 (TOk.cons JU TOk.nil)) (by kernel_rfl) (by kernel_rfl) (QAz _ m ?_)
 have hl_m_0:(m).length≤9223372036854775807:=hb.1.1.1
 refine ZL m (fun r k=>Yf (Qat m k) r=Yf none m→QhS (fun r'=>r'=Qcp (Qw m)) m k) ?_ ?_ rfl
 ·intro he
  refine QyJ (fun r'=>r'=Qcp (Qw m)) m _ ⟨fun h=>by simp at h,fun _=>?_⟩
  grind [Yf,Qw]
 ·intro k x r hk hlt hg ih he
  refine QyJ (fun r'=>r'=Qcp (Qw m)) m _ ⟨fun _=>?_,fun h=>by simp at h;omega⟩
  rw [Int.toNat_natCast,hg,Qo (x:=(k:Int)+1) (by omega) (by omega)]
  have ep:Qat m (k+1)=some x.2.2.1:=by simp [Qat,hg]
  rw [ep] at ih
  rcases Nat.eq_zero_or_pos k with h0 | h0
  ·subst h0
   simp only [Yf,Qat,if_true] at he
   grind [Qw]
  ·have e2:=QcP h0 (by omega:k≤9223372036854775807)
   simp only [Yf,Qat,if_neg (Nat.ne_of_gt h0)] at he
   grind [Qw]
theorem Qd8:Qh Tryz.prog QbH:=Qk fun x _=>QBG x.1
def Qbz (t:Bool):TRes:=zre (zcb t)
def J6:TRow:=Qg 131 [(.a [(.sl ctOp)])] fun x=>(none,Qbz (Qw x.1))
def Qja:List TRow:=[Qe7]
def Quf:TCode :=
 (zsq [(.reg [zbi 19 .lss 18 17]),(.cond 19 .skip (.exit 0)),(.block 1 (zsq [(.reg [zmv 20 18,zia 21 16 18 ctOp,zLd 22 21 4,zop 4 (.new 69 (z0s ctOp)),zmv 3 20,zst 4 22 4]),(.draw [zLd 23 4 4,zca 24 194 [23],zno 25 24,zmv 26 25,.grp 26 false [zmv 27 3,zbi 28 .gtr 27 (zki 0),zmv 29 28,.grp 29 true [zfa 30 1 0,zld 31 30 1,zmv 32 3,zbi 33 .sub 32 (zki 1),zia 34 31 33 ctOp,zfa 35 34 2,zld 36 35 1,zfa 37 4 1,zld 38 37 1,zbi 39 .neq 36 38] 40 39] 41 40] []),(.cond 41 (zsq [(.reg [zmv 2 (zkb false)]),.ret]) .skip)])),(.reg [zbi 42 .add 18 (zki 1),zmv 18 42])])
def QwI:List (Nat × Md):=[(1,.b [.d]),(16,.one .d),(17,.one .d),(18,.one .d)]
def QpB:TCode :=
 (zsq [(.reg [zmv 2 (zkb true)]),.ret])
def QI2:TCode :=
 (zsq [(.reg [zop 1 (.box 26 0 1),zmv 2 (zkb false)]),(zsq [(.reg [zfa 5 1 0,zld 6 5 1,zle 7 6,zbi 8 .lss 7 (zki 1),zmv 9 8,.grp 9 false [zfa 10 1 0,zld 11 10 1,zle 12 11,zbi 13 .gtr 12 (zki 8)] 14 13]),(.cond 14 (zsq [(.reg [zmv 2 (zkb false)]),.ret]) .skip)]),(zsq [(.reg [zfa 15 1 0,zld 16 15 1,zle 17 16,zmv 18 (zki 0)]),(.block 0 (.loop QwI Quf))]),QpB])
def QxE:List (ARv × Md):=[(.t 2,.one .d)]
def QxA:Qb:=TQ 0 0 QxE K
def QNo:Qb:=Qseq (tawp Qja 0 QpB (QxA K)) (QxA K)
def QGR:Qb:=Qblk 0 (QNo K)
def Qgg (m:List TOp') (x:Int):Prop:=Loop Qja 0 QwI Quf (QGR K) ⟨[(1,(.p 0 0 0)),(16,(zcs ctOp m)),(17,(zci (m.length:Int))),(18,(zci x))],[(0,(.box [(zcs ctOp m)]))],1⟩
theorem QoA (m:List TOp') (x:Int) (h :
 (zif (decide (x<(m.length:Int))) (((0:Int)≤x∧Int.toNat x<m.length)∧(((!(!(Q7 (gtd dOp m (Int.toNat x)))))=true→((decide (x>(0:Int)))=true→((0:Int)≤w64 (x-(1:Int))∧Int.toNat (w64 (x-(1:Int)))<m.length)))∧(zif ((!(Q7 (gtd dOp m (Int.toNat x))))||((decide (x>(0:Int)))&&(((gtd dOp m (Int.toNat (w64 (x-(1:Int))))).2.2.1) != ((gtd dOp m (Int.toNat x)).2.1)))) (K (Qbz false)) (Qgg K m (w64 (x+(1:Int))))))) (K (Qbz true)))):Qgg K m x :=
 Loop.of (by kernel_rfl) h
theorem QBd (m:List TOp') (h :
 (zif ((decide ((m.length:Int)<(1:Int)))||(decide ((m.length:Int)>(8:Int)))) (K (Qbz false)) (Qgg K m 0))):Hold (tawp Qja (0+0) QI2 (TQ 0 0 QxE K) (Qf [(.a [(.c (.sl ctOp) m)])])) :=
 Hold.of (by kernel_rfl) h
theorem QBw (m:List TOp'):TCon Tryz.prog 131 [(.a [(.c (.sl ctOp) m)])] (Qbz (Qw m)):=by
 refine Qq rfl fun hb=>tcg (n:=43) (sg:=J6.sg) Qj (TOk.cons Qjx TOk.nil) (by kernel_rfl) (by kernel_rfl) (QBd _ m ?_)
 have hl_m_0:(m).length≤9223372036854775807:=hb.1.1.1
 refine ⟨fun h=>R_eq (by grind [Qw,m_in]),fun h=>?_⟩
 have hin:m_in m.length 1 8=true:=by grind [m_in]
 refine ZL m (fun r k=>Yf (Qat m k) r=Yf none m→Qgg (fun r'=>r'=Qbz (Qw m)) m k) ?_ ?_ rfl
 ·intro he
  refine QoA (fun r'=>r'=Qbz (Qw m)) m _ ⟨fun h=>by simp at h,fun _=>?_⟩
  grind [Yf,Qw]
 ·intro k x r hk hlt hg ih he
  refine QoA (fun r'=>r'=Qbz (Qw m)) m _ ⟨fun _=>?_,fun h=>by simp at h;omega⟩
  rw [Int.toNat_natCast,hg,Qo (x:=(k:Int)+1) (by omega) (by omega)]
  have ep:Qat m (k+1)=some x.2.2.1:=by simp [Qat,hg]
  rw [ep] at ih
  rcases Nat.eq_zero_or_pos k with h0 | h0
  ·subst h0
   simp only [Yf,Qat,if_true] at he
   grind [Qw]
  ·have e2:=QcP h0 (by omega:k≤9223372036854775807)
   simp only [Yf,Qat,if_neg (Nat.ne_of_gt h0)] at he
   grind [Qw]
theorem QaP:Qh Tryz.prog J6:=Qk fun x _=>QBw x.1
def Qg3 (t:Int):TRes:=zre (zci t)
def Qdr:TRow:=Qg 115 [(.a [(.sl ctOp)])] fun x=>(none,Qg3 (QX x.1))
def QO9:List TRow:=[J6]
def QAt:TCode :=
 (zsq [(.reg [zop 1 (.box 26 0 1),zmv 2 (zki 0)]),(zsq [(.reg [zLd 3 1 1,zca 4 131 [3],zno 5 4]),(.cond 5 (zsq [(.reg [zmv 2 (zki 0)]),.ret]) .skip)]),(.reg [zfa 6 1 0,zld 7 6 1,zia 8 7 (zki 0) ctOp,zfa 9 8 1,zld 10 9 1,zmv 2 10]),.ret])
def QHh:List (ARv × Md):=[(.t 2,.one .d)]
theorem QMq (m:List TOp') (h :
 (zif (!(Qw m)) (K (Qg3 (0:Int))) (((0:Int)≤(0:Int)∧Int.toNat (0:Int)<m.length)∧K (Qg3 ((gtd dOp m (Int.toNat (0:Int))).2.1))))):Hold (tawp QO9 (0+0) QAt (TQ 0 0 QHh K) (Qf [(.a [(.c (.sl ctOp) m)])])) :=
 Hold.of (by kernel_rfl) h
theorem QEn (m:List TOp'):TCon Tryz.prog 115 [(.a [(.c (.sl ctOp) m)])] (Qg3 (QX m)):=by
 refine Qq rfl fun hb=>tcg (n:=11) (sg:=Qdr.sg) Qj (TOk.cons QaP TOk.nil) (by kernel_rfl) (by kernel_rfl) (QMq _ m ?_)
 have hl_m_0:(m).length≤9223372036854775807:=hb.1.1.1
 refine ⟨fun h=>R_eq (by grind [QX]),fun h=>?_⟩
 have:=Yx (m:=m) (by simpa using h)
 exact ⟨⟨by omega,by simp;omega⟩,R_eq (by simp at h;simp [QX,h])⟩
theorem QhR:Qh Tryz.prog Qdr:=Qk fun x _=>QEn x.1
def QfO (t:Int):TRes:=zre (zci t)
def Qif:TRow:=Qg 153 [(.a [(.sl ctOp)])] fun x=>(none,QfO (QX x.1))
def QAK:List TRow:=[QbH]
def QOu:TCode :=
 (zsq [(.reg [zop 1 (.box 26 0 1),zmv 2 (zki 0)]),(zsq [(.reg [zLd 3 1 1,zca 4 74 [3],zno 5 4]),(.cond 5 (zsq [(.reg [zmv 2 (zki 0)]),.ret]) .skip)]),(.reg [zfa 6 1 0,zld 7 6 1,zia 8 7 (zki 0) ctOp,zfa 9 8 1,zld 10 9 1,zmv 2 10]),.ret])
def QBx:List (ARv × Md):=[(.t 2,.one .d)]
theorem QOQ (m:List TOp') (h :
 (zif (!(Qw m)) (K (QfO (0:Int))) (((0:Int)≤(0:Int)∧Int.toNat (0:Int)<m.length)∧K (QfO ((gtd dOp m (Int.toNat (0:Int))).2.1))))):Hold (tawp QAK (0+0) QOu (TQ 0 0 QBx K) (Qf [(.a [(.c (.sl ctOp) m)])])) :=
 Hold.of (by kernel_rfl) h
theorem QDi (m:List TOp'):TCon Tryz.prog 153 [(.a [(.c (.sl ctOp) m)])] (QfO (QX m)):=by
 refine Qq rfl fun hb=>tcg (n:=11) (sg:=Qif.sg) Qj (TOk.cons Qd8 TOk.nil) (by kernel_rfl) (by kernel_rfl) (QOQ _ m ?_)
 have hl_m_0:(m).length≤9223372036854775807:=hb.1.1.1
 refine ⟨fun h=>R_eq (by grind [QX]),fun h=>?_⟩
 have:=Yx (m:=m) (by simpa using h)
 exact ⟨⟨by omega,by simp;omega⟩,R_eq (by simp at h;simp [QX,h])⟩
theorem Qvd:Qh Tryz.prog Qif:=Qk fun x _=>QDi x.1
def QiQ (t:Int):TRes:=zre (zci t)
def Qdk:TRow:=Qg 117 [(.a [(.sl ctOp)])] fun x=>(none,QiQ (Q1 x.1))
def QEY:List TRow:=[J6]
def QNN:TCode :=
 (zsq [(.reg [zop 1 (.box 26 0 1),zmv 2 (zki 0)]),(zsq [(.reg [zLd 3 1 1,zca 4 131 [3],zno 5 4]),(.cond 5 (zsq [(.reg [zmv 2 (zki 0)]),.ret]) .skip)]),(.reg [zfa 6 1 0,zld 7 6 1,zfa 8 1 0,zld 9 8 1,zle 10 9,zbi 11 .sub 10 (zki 1),zia 12 7 11 ctOp,zfa 13 12 2,zld 14 13 1,zmv 2 14]),.ret])
def QRo:List (ARv × Md):=[(.t 2,.one .d)]
theorem QDP (m:List TOp') (h :
 (zif (!(Qw m)) (K (QiQ (0:Int))) (((0:Int)≤w64 ((m.length:Int)-(1:Int))∧Int.toNat (w64 ((m.length:Int)-(1:Int)))<m.length)∧K (QiQ ((gtd dOp m (Int.toNat (w64 ((m.length:Int)-(1:Int))))).2.2.1))))):Hold (tawp QEY (0+0) QNN (TQ 0 0 QRo K) (Qf [(.a [(.c (.sl ctOp) m)])])) :=
 Hold.of (by kernel_rfl) h
theorem QMm (m:List TOp'):TCon Tryz.prog 117 [(.a [(.c (.sl ctOp) m)])] (QiQ (Q1 m)):=by
 refine Qq rfl fun hb=>tcg (n:=15) (sg:=Qdk.sg) Qj (TOk.cons QaP TOk.nil) (by kernel_rfl) (by kernel_rfl) (QDP _ m ?_)
 have hl_m_0:(m).length≤9223372036854775807:=hb.1.1.1
 refine ⟨fun h=>R_eq (by grind [Q1]),fun h=>?_⟩
 have:=Yx (m:=m) (by simpa using h)
 have e:=QcP this.1 (by omega:m.length≤9223372036854775807)
 rw [e.1]
 exact ⟨⟨e.2,by omega⟩,R_eq (by simp at h;simp [Q1,h])⟩
theorem Qgb:Qh Tryz.prog Qdk:=Qk fun x _=>QMm x.1
def Qg5 (t:Int):TRes:=zre (zci t)
def Qig:TRow:=Qg 154 [(.a [(.sl ctOp)])] fun x=>(none,Qg5 (Q1 x.1))
def QHQ:List TRow:=[QbH]
def QAA:TCode :=
 (zsq [(.reg [zop 1 (.box 26 0 1),zmv 2 (zki 0)]),(zsq [(.reg [zLd 3 1 1,zca 4 74 [3],zno 5 4]),(.cond 5 (zsq [(.reg [zmv 2 (zki 0)]),.ret]) .skip)]),(.reg [zfa 6 1 0,zld 7 6 1,zfa 8 1 0,zld 9 8 1,zle 10 9,zbi 11 .sub 10 (zki 1),zia 12 7 11 ctOp,zfa 13 12 2,zld 14 13 1,zmv 2 14]),.ret])
def QIj:List (ARv × Md):=[(.t 2,.one .d)]
theorem QLY (m:List TOp') (h :
 (zif (!(Qw m)) (K (Qg5 (0:Int))) (((0:Int)≤w64 ((m.length:Int)-(1:Int))∧Int.toNat (w64 ((m.length:Int)-(1:Int)))<m.length)∧K (Qg5 ((gtd dOp m (Int.toNat (w64 ((m.length:Int)-(1:Int))))).2.2.1))))):Hold (tawp QHQ (0+0) QAA (TQ 0 0 QIj K) (Qf [(.a [(.c (.sl ctOp) m)])])) :=
 Hold.of (by kernel_rfl) h
theorem QKG (m:List TOp'):TCon Tryz.prog 154 [(.a [(.c (.sl ctOp) m)])] (Qg5 (Q1 m)):=by
 refine Qq rfl fun hb=>tcg (n:=15) (sg:=Qig.sg) Qj (TOk.cons Qd8 TOk.nil) (by kernel_rfl) (by kernel_rfl) (QLY _ m ?_)
 have hl_m_0:(m).length≤9223372036854775807:=hb.1.1.1
 refine ⟨fun h=>R_eq (by grind [Q1]),fun h=>?_⟩
 have:=Yx (m:=m) (by simpa using h)
 have e:=QcP this.1 (by omega:m.length≤9223372036854775807)
 rw [e.1]
 exact ⟨⟨e.2,by omega⟩,R_eq (by simp at h;simp [Q1,h])⟩
theorem Qun:Qh Tryz.prog Qig:=Qk fun x _=>QKG x.1
end
end Go.Proofs.YtjbdljkhbglnhaaGreat.Am

