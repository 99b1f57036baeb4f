/- -/
import Derived.Test.YtephkbajoofeoaaYEP1
namespace Go.Proofs.Ytephkbajoofeoaa.Am
open Go Go.RowKit Go.Proofs.Ytephkbajoofeoaa
set_option linter.all false
noncomputable section
variable (K:TRes→Prop)
def ZT (t:Int):TRes:=zre (zci t)
def Qbi:TRow:=Qp 191 [(.a ctOp)] fun x=>(none,ZT (QH x.1))
def QcH:List TRow:=[Z9]
def Qe4:TCode :=
 (.cond 15 (zsq [(.reg [zfa 18 1 1,zld 19 18 1,zfa 20 1 2,zld 21 20 1,zbi 22 .mul 19 21,zmv 2 22]),.ret]) (zsq [(.reg [zbi 24 .eql 14 (zki 2),zmv 23 24]),(.cond 23 (zsq [(.reg [zfa 25 1 1,zld 26 25 1,zmv 2 26]),.ret]) (zsq [(.reg [zbi 28 .eql 14 (zki 4),zmv 27 28]),(.cond 27 (zsq [(.reg [zmv 2 (zki 1)]),.ret]) .skip)]))]))
def Qo8:List (Nat × Md):=[(1,.b (zds 4)),(14,.one .d),(15,.one .d)]
def Qod:TCode:=.wk Qo8 Qe4
def QeF:TCode :=
 (zsq [(.reg [zmv 2 (zki 0)]),.ret])
def Qm5:TCode :=
 (zsq [(.reg [zop 1 (.box 76 0 4),zmv 2 (zki 0)]),(zsq [(.reg [zfa 3 1 1,zld 4 3 1,zca 5 102 [4,(zki 1),(zki 6)],zno 6 5,zmv 7 6,.grp 7 false [zfa 8 1 2,zld 9 8 1,zca 10 102 [9,(zki 1),(zki 6)],zno 11 10] 12 11]),(.cond 12 (zsq [(.reg [zmv 2 (zki 0)]),.ret]) .skip)]),(zsq [(.reg [zfa 13 1 0,zld 14 13 1]),(.block 0 (zsq [(zsq [(.reg [zbi 16 .eql 14 (zki 1),zmv 15 16]),(.cond 15 .skip (.reg [zbi 17 .eql 14 (zki 5),zmv 15 17]))]),Qod]))]),QeF])
def Qf1:List (ARv × Md):=[(.t 2,.one .d)]
def QhM:Qd:=TQ 0 0 Qf1 K
def Qmn:Qd:=Qseq (tawp QcH 0 QeF (QhM K)) (QhM K)
def QlG:Qd:=Qblk 0 (Qmn K)
@[irreducible] def QbX (o:TOp') (x:Bool):Prop:=tawp QcH 0 Qe4 (QlG K) ⟨[(1,(.p 0 0 0)),(14,(zci o.1)),(15,(zcb x))],[(0,(.box (Tup.cells ctOp o)))],1⟩
theorem Qee (o:TOp') (x:Bool) (h :
 (zif x (K (ZT (w64 (o.2.1*o.2.2.1)))) (zif (o.1==(2:Int)) (K (ZT o.2.1)) (zif (o.1==(4:Int)) (K (ZT (1:Int))) (K (ZT (0:Int))))))):Hold (QbX K o x) :=
 Hold.of (by kernel_rfl) h
theorem Qjz (o:TOp') (h :
 (zif ((!(m_in o.2.1 (1:Int) (6:Int)))||(!(m_in o.2.2.1 (1:Int) (6:Int)))) (K (ZT (0:Int))) (zif (o.1==(1:Int)) (QbX K o (o.1==(1:Int))) (QbX K o (o.1==(5:Int)))))):Hold (tawp QcH (0+0) Qm5 (TQ 0 0 Qf1 K) (Qj [(.a (Tup.cells ctOp o))])) :=
 Hold.of (by kernel_rfl) h
theorem QmL (o:TOp'):TCon Try.prog 191 [(.a (Tup.cells ctOp o))] (ZT (QH o)):=by
 refine QG rfl fun hb=>tcg (n:=29) (sg:=Qbi.sg) Qq (TOk.cons YY TOk.nil) (by kernel_rfl) (by kernel_rfl) (Qjz _ o ?_)
 have hl_o_3:(o.2.2.2).length≤9223372036854775807:=hb.1.2.2.2.1.1
 refine ⟨fun h=>R_eq (by grind [QH]),fun h=>?_⟩
 have hi:m_in o.2.1 1 6=true∧m_in o.2.2.1 1 6=true:=by simpa using h
 have hm:=Qcw (QP.1 hi.1).1 (QP.1 hi.1).2 (QP.1 hi.2).1 (QP.1 hi.2).2
 have hw:=Qi (x:=o.2.1*o.2.2.1) (by omega) (by omega)
 refine ⟨fun h1=>(Qee (fun r'=>r'=ZT (QH o)) o _ ?_).h,fun h1=>(Qee (fun r'=>r'=ZT (QH o)) o _ ?_).h⟩ <;> grind [QH]
theorem QgU:Qo Try.prog Qbi:=Qs fun x _=>QmL x.1
def ZV (t:Int):TRes:=zre (zci t)
def QdS:TRow:=Qp 189 [(.a ctOp)] fun x=>(none,ZV (QH x.1))
def QcG:List TRow:=[]
def Qgu:TCode :=
 (.cond 23 (zsq [(.reg [zfa 26 1 1,zld 27 26 1,zfa 28 1 2,zld 29 28 1,zbi 30 .mul 27 29,zmv 2 30]),.ret]) (zsq [(.reg [zbi 32 .eql 22 (zki 2),zmv 31 32]),(.cond 31 (zsq [(.reg [zfa 33 1 1,zld 34 33 1,zmv 2 34]),.ret]) (zsq [(.reg [zbi 36 .eql 22 (zki 4),zmv 35 36]),(.cond 35 (zsq [(.reg [zmv 2 (zki 1)]),.ret]) .skip)]))]))
def Qjn:List (Nat × Md):=[(1,.b (zds 4)),(22,.one .d),(23,.one .d)]
def QmX:TCode:=.wk Qjn Qgu
def QhP:TCode :=
 (zsq [(.reg [zmv 2 (zki 0)]),.ret])
def Qoi:TCode :=
 (zsq [(.reg [zop 1 (.box 76 0 4),zmv 2 (zki 0)]),(zsq [(.reg [zfa 3 1 1,zld 4 3 1,zbi 5 .lss 4 (zki 1),zmv 6 5,.grp 6 false [zfa 7 1 1,zld 8 7 1,zbi 9 .gtr 8 (zki 6)] 10 9,zmv 11 10,.grp 11 false [zfa 12 1 2,zld 13 12 1,zbi 14 .lss 13 (zki 1)] 15 14,zmv 16 15,.grp 16 false [zfa 17 1 2,zld 18 17 1,zbi 19 .gtr 18 (zki 6)] 20 19]),(.cond 20 (zsq [(.reg [zmv 2 (zki 0)]),.ret]) .skip)]),(zsq [(.reg [zfa 21 1 0,zld 22 21 1]),(.block 0 (zsq [(zsq [(.reg [zbi 24 .eql 22 (zki 1),zmv 23 24]),(.cond 23 .skip (.reg [zbi 25 .eql 22 (zki 5),zmv 23 25]))]),QmX]))]),QhP])
def Qe2:List (ARv × Md):=[(.t 2,.one .d)]
def QiU:Qd:=TQ 0 0 Qe2 K
def Qko:Qd:=Qseq (tawp QcG 0 QhP (QiU K)) (QiU K)
def QoK:Qd:=Qblk 0 (Qko K)
@[irreducible] def Qb2 (o:TOp') (x:Bool):Prop:=tawp QcG 0 Qgu (QoK K) ⟨[(1,(.p 0 0 0)),(22,(zci o.1)),(23,(zcb x))],[(0,(.box (Tup.cells ctOp o)))],1⟩
theorem Qi8 (o:TOp') (x:Bool) (h :
 (zif x (K (ZV (w64 (o.2.1*o.2.2.1)))) (zif (o.1==(2:Int)) (K (ZV o.2.1)) (zif (o.1==(4:Int)) (K (ZV (1:Int))) (K (ZV (0:Int))))))):Hold (Qb2 K o x) :=
 Hold.of (by kernel_rfl) h
theorem Qnx (o:TOp') (h :
 (zif ((((decide (o.2.1<(1:Int)))||(decide (o.2.1>(6:Int))))||(decide (o.2.2.1<(1:Int))))||(decide (o.2.2.1>(6:Int)))) (K (ZV (0:Int))) (zif (o.1==(1:Int)) (Qb2 K o (o.1==(1:Int))) (Qb2 K o (o.1==(5:Int)))))):Hold (tawp QcG (0+0) Qoi (TQ 0 0 Qe2 K) (Qj [(.a (Tup.cells ctOp o))])) :=
 Hold.of (by kernel_rfl) h
theorem Qll (o:TOp'):TCon Try.prog 189 [(.a (Tup.cells ctOp o))] (ZV (QH o)):=by
 refine QG rfl fun hb=>tcg (n:=37) (sg:=QdS.sg) Qq TOk.nil (by kernel_rfl) (by kernel_rfl) (Qnx _ o ?_)
 have hl_o_3:(o.2.2.2).length≤9223372036854775807:=hb.1.2.2.2.1.1
 refine ⟨fun h=>R_eq (by grind [QH,m_in]),fun h=>?_⟩
 have hi:m_in o.2.1 1 6=true∧m_in o.2.2.1 1 6=true:=by grind [m_in]
 have hm:=Qcw (QP.1 hi.1).1 (QP.1 hi.1).2 (QP.1 hi.2).1 (QP.1 hi.2).2
 have hw:=Qi (x:=o.2.1*o.2.2.1) (by omega) (by omega)
 refine ⟨fun h1=>(Qi8 (fun r'=>r'=ZV (QH o)) o _ ?_).h,fun h1=>(Qi8 (fun r'=>r'=ZV (QH o)) o _ ?_).h⟩ <;> grind [QH]
theorem Qnl:Qo Try.prog QdS:=Qs fun x _=>Qll x.1
def Z4 (t:Bool):TRes:=zre (zcb t)
def Qby:TRow:=Qp 137 [(.a ctOp)] fun x=>(none,Z4 (QE x.1))
def QdT:List TRow:=[Z9,Qbi,QbN]
def Qho:TCode :=
 (zsq [(zsq [(.reg [zmv 40 3,zfa 41 1 3,zld 42 41 1,zle 43 42,zbi 44 .lss 40 43]),(.cond 44 .skip (.exit 0))]),(.block 1 (zsq [(.reg [zfa 47 1 3,zld 48 47 1,zmv 49 3,zia 50 48 49 [TI],zld 51 50 1,zca 52 122 [51],zno 53 52]),(.cond 53 (zsq [(.reg [zmv 2 (zkb false)]),.ret]) .skip)])),(.reg [zmv 45 3,zbi 46 .add 45 (zki 1),zmv 3 46])])
def Qh0:List (Nat × Md):=[(1,.b (zds 4)),(3,.one .d)]
def Qhz:TCode :=
 (zsq [(.reg [zmv 2 (zkb true)]),.ret])
def QlP:TCode :=
 (zsq [(.reg [zop 1 (.box 76 0 4),zmv 2 (zkb false)]),(zsq [(.draw [zfa 4 1 0,zld 5 4 1,zca 6 102 [5,(zki 1),(zki 5)],zno 7 6,zmv 8 7,.grp 8 false [zfa 9 1 1,zld 10 9 1,zca 11 102 [10,(zki 1),(zki 6)],zno 12 11] 13 12,zmv 14 13,.grp 14 false [zfa 15 1 2,zld 16 15 1,zca 17 102 [16,(zki 1),(zki 6)],zno 18 17] 19 18,zmv 20 19,.grp 20 false [zfa 21 1 0,zld 22 21 1,zbi 23 .neq 22 (zki 1),zmv 24 23,.grp 24 true [zfa 25 1 1,zld 26 25 1,zfa 27 1 2,zld 28 27 1,zbi 29 .neq 26 28] 30 29] 31 30,zmv 32 31,.grp 32 false [zfa 33 1 3,zld 34 33 1,zle 35 34,zLd 36 1 4,zca 37 191 [36],zbi 38 .neq 35 37] 39 38] [(29,33),(30,33),(31,33)]),(.cond 39 (zsq [(.reg [zmv 2 (zkb false)]),.ret]) .skip)]),(zsq [(.reg [zmv 3 (zki 0)]),(.block 0 (.loop Qh0 Qho))]),Qhz])
def Qhm:List (ARv × Md):=[(.t 2,.one .d)]
def Qf2:Qd:=TQ 0 0 Qhm K
def QmO:Qd:=Qseq (tawp QdT 0 Qhz (Qf2 K)) (Qf2 K)
def Qpn:Qd:=Qblk 0 (QmO K)
def Qc7 (o:TOp') (i:Int):Prop:=Loop QdT 0 Qh0 Qho (Qpn K) ⟨[(1,(.p 0 0 0)),(3,(zci i))],[(0,(.box (Tup.cells ctOp o)))],1⟩
theorem Qpu (o:TOp') (i:Int) (h :
 (zif (decide (i<((o.2.2.2).length:Int))) (((0:Int)≤i∧Int.toNat i<(o.2.2.2).length)∧(zif (!(QS (gtd (0:Int) o.2.2.2 (Int.toNat i)))) (K (Z4 false)) (Qc7 K o (w64 (i+(1:Int)))))) (K (Z4 true)))):Qc7 K o i :=
 Loop.of (by kernel_rfl) h
theorem Qop (o:TOp') (h :
 (zif (((((!(m_in o.1 (1:Int) (5:Int)))||(!(m_in o.2.1 (1:Int) (6:Int))))||(!(m_in o.2.2.1 (1:Int) (6:Int))))||((o.1 != (1:Int))&&(o.2.1 != o.2.2.1)))||(((o.2.2.2).length:Int) != (QH o))) (K (Z4 false)) (Qc7 K o 0))):Hold (tawp QdT (0+0) QlP (TQ 0 0 Qhm K) (Qj [(.a (Tup.cells ctOp o))])) :=
 Hold.of (by kernel_rfl) h
theorem QpS (o:TOp'):TCon Try.prog 137 [(.a (Tup.cells ctOp o))] (Z4 (QE o)):=by
 refine QG rfl fun hb=>tcg (n:=54) (sg:=Qby.sg) Qq (TOk.cons YY (TOk.cons QgU (TOk.cons Qmm TOk.nil))) (by kernel_rfl) (by kernel_rfl) (Qop _ o ?_)
 have hl_o_3:(o.2.2.2).length≤9223372036854775807:=hb.1.2.2.2.1.1
 refine ⟨fun h=>R_eq (by grind [QE]),fun h=>?_⟩
 exact QhA (Q:=fun x=>Z4 x=Z4 (QE o)) (p:=QS) (c:=fun x=>!(QS x)) 0 hl_o_3 (fun _=>rfl) (fun i h=>Qpu (fun r'=>r'=Z4 (QE o)) o i h) (R_eq (by grind [QE,Q4]))
theorem QhX:Qo Try.prog Qby:=Qs fun x _=>QpS x.1
def J1 (t:Bool):TRes:=zre (zcb t)
def Qbu:TRow:=Qp 134 [(.a ctOp)] fun x=>(none,J1 (QE x.1))
def QoF:List TRow:=[QdS,Qdz]
def QpP:TCode :=
 (zsq [(.reg [zop 1 (.box 76 0 4),zmv 2 (zkb false)]),(zsq [(.reg [zfa 3 1 0,zld 4 3 1,zbi 5 .lss 4 (zki 1),zmv 6 5,.grp 6 false [zfa 7 1 0,zld 8 7 1,zbi 9 .gtr 8 (zki 5)] 10 9,zmv 11 10,.grp 11 false [zfa 12 1 1,zld 13 12 1,zbi 14 .lss 13 (zki 1)] 15 14,zmv 16 15,.grp 16 false [zfa 17 1 1,zld 18 17 1,zbi 19 .gtr 18 (zki 6)] 20 19,zmv 21 20,.grp 21 false [zfa 22 1 2,zld 23 22 1,zbi 24 .lss 23 (zki 1)] 25 24,zmv 26 25,.grp 26 false [zfa 27 1 2,zld 28 27 1,zbi 29 .gtr 28 (zki 6)] 30 29]),(.cond 30 (zsq [(.reg [zmv 2 (zkb false)]),.ret]) .skip)]),(zsq [(.reg [zfa 31 1 0,zld 32 31 1,zbi 33 .neq 32 (zki 1),zmv 34 33,.grp 34 true [zfa 35 1 1,zld 36 35 1,zfa 37 1 2,zld 38 37 1,zbi 39 .neq 36 38] 40 39]),(.cond 40 (zsq [(.reg [zmv 2 (zkb false)]),.ret]) .skip)]),(.draw [zfa 41 1 3,zld 42 41 1,zle 43 42,zLd 44 1 4,zca 45 189 [44],zbi 46 .eql 43 45,zmv 47 46,.grp 47 true [zfa 48 1 3,zld 49 48 1,zca 50 190 [49]] 51 50,zmv 2 51] [(0,4),(1,4),(2,4)]),.ret])
def Qjy:List (ARv × Md):=[(.t 2,.one .d)]
theorem QnM (o:TOp') (h :
 (zif ((((((decide (o.1<(1:Int)))||(decide (o.1>(5:Int))))||(decide (o.2.1<(1:Int))))||(decide (o.2.1>(6:Int))))||(decide (o.2.2.1<(1:Int))))||(decide (o.2.2.1>(6:Int)))) (K (J1 false)) (zif ((o.1 != (1:Int))&&(o.2.1 != o.2.2.1)) (K (J1 false)) (K (J1 ((((o.2.2.2).length:Int)==(QH o))&&(Q4 o.2.2.2))))))):Hold (tawp QoF (0+0) QpP (TQ 0 0 Qjy K) (Qj [(.a (Tup.cells ctOp o))])) :=
 Hold.of (by kernel_rfl) h
theorem QoW (o:TOp'):TCon Try.prog 134 [(.a (Tup.cells ctOp o))] (J1 (QE o)):=by
 refine QG rfl fun hb=>tcg (n:=52) (sg:=Qbu.sg) Qq (TOk.cons Qnl (TOk.cons Qpc TOk.nil)) (by kernel_rfl) (by kernel_rfl) (QnM _ o ?_)
 have hl_o_3:(o.2.2.2).length≤9223372036854775807:=hb.1.2.2.2.1.1
 grind [QE,m_in]
theorem QgS:Qo Try.prog Qbu:=Qs fun x _=>QoW x.1
def Z2 (t:Int):TRes:=zre (zci t)
def Qdv:TRow:=Qp 192 [(.a ctOp)] fun x=>(none,Z2 (QZ x.1))
def Qcl:List TRow:=[Qby]
def Qiu:TCode :=
 (.cond 8 (zsq [(.reg [zfa 11 1 1,zld 12 11 1,zfa 13 1 2,zld 14 13 1,zbi 15 .mul 12 14,zmv 2 15]),.ret]) (zsq [(.reg [zbi 17 .eql 7 (zki 4),zmv 16 17]),(.cond 16 (zsq [(.reg [zfa 18 1 1,zld 19 18 1,zmv 2 19]),.ret]) .skip)]))
def QmZ:List (Nat × Md):=[(1,.b (zds 4)),(7,.one .d),(8,.one .d)]
def Qki:TCode:=.wk QmZ Qiu
def Qjd:TCode :=
 (zsq [(.reg [zmv 2 (zki 0)]),.ret])
def Qpa:TCode :=
 (zsq [(.reg [zop 1 (.box 76 0 4),zmv 2 (zki 0)]),(zsq [(.reg [zLd 3 1 4,zca 4 137 [3],zno 5 4]),(.cond 5 (zsq [(.reg [zmv 2 (zki 0)]),.ret]) .skip)]),(zsq [(.reg [zfa 6 1 0,zld 7 6 1]),(.block 0 (zsq [(zsq [(.reg [zbi 9 .eql 7 (zki 1),zmv 8 9]),(.cond 8 .skip (.reg [zbi 10 .eql 7 (zki 5),zmv 8 10]))]),Qki]))]),Qjd])
def Qhg:List (ARv × Md):=[(.t 2,.one .d)]
def Qeu:Qd:=TQ 0 0 Qhg K
def Qmt:Qd:=Qseq (tawp Qcl 0 Qjd (Qeu K)) (Qeu K)
def QoU:Qd:=Qblk 0 (Qmt K)
@[irreducible] def QbU (o:TOp') (x:Bool):Prop:=tawp Qcl 0 Qiu (QoU K) ⟨[(1,(.p 0 0 0)),(7,(zci o.1)),(8,(zcb x))],[(0,(.box (Tup.cells ctOp o)))],1⟩
theorem Qf0 (o:TOp') (x:Bool) (h :
 (zif x (K (Z2 (w64 (o.2.1*o.2.2.1)))) (zif (o.1==(4:Int)) (K (Z2 o.2.1)) (K (Z2 (0:Int)))))):Hold (QbU K o x) :=
 Hold.of (by kernel_rfl) h
theorem QoO (o:TOp') (h :
 (zif (!(QE o)) (K (Z2 (0:Int))) (zif (o.1==(1:Int)) (QbU K o (o.1==(1:Int))) (QbU K o (o.1==(5:Int)))))):Hold (tawp Qcl (0+0) Qpa (TQ 0 0 Qhg K) (Qj [(.a (Tup.cells ctOp o))])) :=
 Hold.of (by kernel_rfl) h
theorem Qph (o:TOp'):TCon Try.prog 192 [(.a (Tup.cells ctOp o))] (Z2 (QZ o)):=by
 refine QG rfl fun hb=>tcg (n:=20) (sg:=Qdv.sg) Qq (TOk.cons QhX TOk.nil) (by kernel_rfl) (by kernel_rfl) (QoO _ o ?_)
 have hl_o_3:(o.2.2.2).length≤9223372036854775807:=hb.1.2.2.2.1.1
 refine ⟨fun h=>R_eq (by grind [QZ]),fun h=>?_⟩
 have hw:=Qga o (by simpa using h)
 refine ⟨fun h1=>(Qf0 (fun r'=>r'=Z2 (QZ o)) o _ ?_).h,fun h1=>(Qf0 (fun r'=>r'=Z2 (QZ o)) o _ ?_).h⟩ <;> grind [QZ]
theorem QjM:Qo Try.prog Qdv:=Qs fun x _=>Qph x.1
def Z5 (t:Int):TRes:=zre (zci t)
def QdE:TRow:=Qp 52 [(.a ctOp)] fun x=>(none,Z5 (QZ x.1))
def QdP:List TRow:=[Qbu]
def QhT:TCode :=
 (.cond 8 (zsq [(.reg [zfa 11 1 1,zld 12 11 1,zfa 13 1 2,zld 14 13 1,zbi 15 .mul 12 14,zmv 2 15]),.ret]) (zsq [(.reg [zbi 17 .eql 7 (zki 4),zmv 16 17]),(.cond 16 (zsq [(.reg [zfa 18 1 1,zld 19 18 1,zmv 2 19]),.ret]) .skip)]))
def Qpo:List (Nat × Md):=[(1,.b (zds 4)),(7,.one .d),(8,.one .d)]
def Qm7:TCode:=.wk Qpo QhT
def Qfd:TCode :=
 (zsq [(.reg [zmv 2 (zki 0)]),.ret])
def Qjp:TCode :=
 (zsq [(.reg [zop 1 (.box 76 0 4),zmv 2 (zki 0)]),(zsq [(.reg [zLd 3 1 4,zca 4 134 [3],zno 5 4]),(.cond 5 (zsq [(.reg [zmv 2 (zki 0)]),.ret]) .skip)]),(zsq [(.reg [zfa 6 1 0,zld 7 6 1]),(.block 0 (zsq [(zsq [(.reg [zbi 9 .eql 7 (zki 1),zmv 8 9]),(.cond 8 .skip (.reg [zbi 10 .eql 7 (zki 5),zmv 8 10]))]),Qm7]))]),Qfd])
def Qgj:List (ARv × Md):=[(.t 2,.one .d)]
def QgI:Qd:=TQ 0 0 Qgj K
def Qlt:Qd:=Qseq (tawp QdP 0 Qfd (QgI K)) (QgI K)
def QlD:Qd:=Qblk 0 (Qlt K)
@[irreducible] def Qc1 (o:TOp') (x:Bool):Prop:=tawp QdP 0 QhT (QlD K) ⟨[(1,(.p 0 0 0)),(7,(zci o.1)),(8,(zcb x))],[(0,(.box (Tup.cells ctOp o)))],1⟩
theorem Qhe (o:TOp') (x:Bool) (h :
 (zif x (K (Z5 (w64 (o.2.1*o.2.2.1)))) (zif (o.1==(4:Int)) (K (Z5 o.2.1)) (K (Z5 (0:Int)))))):Hold (Qc1 K o x) :=
 Hold.of (by kernel_rfl) h
theorem Qos (o:TOp') (h :
 (zif (!(QE o)) (K (Z5 (0:Int))) (zif (o.1==(1:Int)) (Qc1 K o (o.1==(1:Int))) (Qc1 K o (o.1==(5:Int)))))):Hold (tawp QdP (0+0) Qjp (TQ 0 0 Qgj K) (Qj [(.a (Tup.cells ctOp o))])) :=
 Hold.of (by kernel_rfl) h
theorem QlZ (o:TOp'):TCon Try.prog 52 [(.a (Tup.cells ctOp o))] (Z5 (QZ o)):=by
 refine QG rfl fun hb=>tcg (n:=20) (sg:=QdE.sg) Qq (TOk.cons QgS TOk.nil) (by kernel_rfl) (by kernel_rfl) (Qos _ o ?_)
 have hl_o_3:(o.2.2.2).length≤9223372036854775807:=hb.1.2.2.2.1.1
 refine ⟨fun h=>R_eq (by grind [QZ]),fun h=>?_⟩
 have hw:=Qga o (by simpa using h)
 refine ⟨fun h1=>(Qhe (fun r'=>r'=Z5 (QZ o)) o _ ?_).h,fun h1=>(Qhe (fun r'=>r'=Z5 (QZ o)) o _ ?_).h⟩ <;> grind [QZ]
theorem QoE:Qo Try.prog QdE:=Qs fun x _=>QlZ x.1
def YD (t:Bool):TRes:=zre (zcb t)
def QaM:TRow:=Qp 60 [(.a [(.sl ctOp)])] fun x=>(none,YD (Qn x.1))
def QbO:List TRow:=[Qby,Z9]
def Qhu:TCode :=
 (zsq [(zsq [(.reg [zmv 4 3,zfa 5 1 0,zld 6 5 1,zle 7 6,zbi 8 .lss 4 7]),(.cond 8 .skip (.exit 0))]),(.block 1 (zsq [(.draw [zfa 11 1 0,zld 12 11 1,zmv 13 3,zia 14 12 13 ctOp,zLd 15 14 4,zca 16 137 [15],zno 17 16,zmv 18 17,.grp 18 false [zmv 19 3,zbi 20 .gtr 19 (zki 0),zmv 21 20,.grp 21 true [zfa 22 1 0,zld 23 22 1,zmv 24 3,zia 25 23 24 ctOp,zfa 26 25 1,zld 27 26 1,zfa 28 1 0,zld 29 28 1,zmv 30 3,zbi 31 .sub 30 (zki 1),zia 32 29 31 ctOp,zfa 33 32 2,zld 34 33 1,zbi 35 .neq 27 34] 36 35] 37 36] []),(.cond 37 (zsq [(.reg [zmv 2 (zkb false)]),.ret]) .skip)])),(.reg [zmv 9 3,zbi 10 .add 9 (zki 1),zmv 3 10])])
def QeB:List (Nat × Md):=[(1,.b [.d]),(3,.one .d)]
def Qil:TCode :=
 (zsq [(.reg [zfa 38 1 0,zld 39 38 1,zle 40 39,zca 41 102 [40,(zki 1),(zki 8)],zmv 2 41]),.ret])
def Qla:TCode :=
 (zsq [(.reg [zop 1 (.box 66 0 1),zmv 2 (zkb false)]),(zsq [(.reg [zmv 3 (zki 0)]),(.block 0 (.loop QeB Qhu))]),Qil])
def Qe5:List (ARv × Md):=[(.t 2,.one .d)]
def Qiy:Qd:=TQ 0 0 Qe5 K
def QkR:Qd:=Qseq (tawp QbO 0 Qil (Qiy K)) (Qiy K)
def QjY:Qd:=Qblk 0 (QkR K)
def Qa7 (m:List TOp') (i:Int):Prop:=Loop QbO 0 QeB Qhu (QjY K) ⟨[(1,(.p 0 0 0)),(3,(zci i))],[(0,(.box [(zcs ctOp m)]))],1⟩
theorem QgO (m:List TOp') (i:Int) (h :
 (zif (decide (i<(m.length:Int))) ((((0:Int)≤i∧Int.toNat i<m.length)∧((!(!(QE (gtd dOp m (Int.toNat i)))))=true→((decide (i>(0:Int)))=true→(((0:Int)≤i∧Int.toNat i<m.length)∧((0:Int)≤w64 (i-(1:Int))∧Int.toNat (w64 (i-(1:Int)))<m.length)))))∧(zif ((!(QE (gtd dOp m (Int.toNat i))))||((decide (i>(0:Int)))&&(((gtd dOp m (Int.toNat i)).2.1) != ((gtd dOp m (Int.toNat (w64 (i-(1:Int))))).2.2.1)))) (K (YD false)) (Qa7 K m (w64 (i+(1:Int)))))) (K (YD (m_in (m.length:Int) (1:Int) (8:Int)))))):Qa7 K m i :=
 Loop.of (by kernel_rfl) h
theorem Qng (m:List TOp') (h :
 (Qa7 K m 0)):Hold (tawp QbO (0+0) Qla (TQ 0 0 Qe5 K) (Qj [(.a [(.c (.sl ctOp) m)])])) :=
 Hold.of (by kernel_rfl) h
theorem QjL (m:List TOp'):TCon Try.prog 60 [(.a [(.c (.sl ctOp) m)])] (YD (Qn m)):=by
 refine QG rfl fun hb=>tcg (n:=42) (sg:=QaM.sg) Qq (TOk.cons QhX (TOk.cons YY TOk.nil)) (by kernel_rfl) (by kernel_rfl) (Qng _ m ?_)
 have hl_m_0:(m).length≤9223372036854775807:=hb.1.1.1
 refine Yb m (fun r k=>Q0 (ZA m k) r=Q0 none m→Qa7 (fun r'=>r'=YD (Qn m)) m k) ?_ ?_ rfl
 ·intro he
  refine QgO (fun r'=>r'=YD (Qn m)) m _ ⟨fun h=>by simp at h,fun _=>?_⟩
  grind [Q0,Qn]
 ·intro k x r hk hlt hg ih he
  refine QgO (fun r'=>r'=YD (Qn m)) m _ ⟨fun _=>?_,fun h=>by simp at h;omega⟩
  rw [Int.toNat_natCast,hg,Qi (x:=(k:Int)+1) (by omega) (by omega)]
  have ep:ZA m (k+1)=some x.2.2.1:=by simp [ZA,hg]
  rw [ep] at ih
  rcases Nat.eq_zero_or_pos k with h0 | h0
  ·subst h0
   simp only [Q0,ZA,if_true] at he
   grind [Qn]
  ·have e2:=Qaf h0 (by omega:k≤9223372036854775807)
   simp only [Q0,ZA,if_neg (Nat.ne_of_gt h0)] at he
   grind [Qn]
theorem Qhw:Qo Try.prog QaM:=Qs fun x _=>QjL x.1
def Ya (t:Bool):TRes:=zre (zcb t)
def Qax:TRow:=Qp 133 [(.a [(.sl ctOp)])] fun x=>(none,Ya (Qn x.1))
def Qco:List TRow:=[Qbu]
def Qhb:TCode :=
 (zsq [(.reg [zbi 19 .lss 18 17]),(.cond 19 .skip (.exit 0)),(.block 1 (zsq [(.reg [zmv 20 18,zia 21 16 18 ctOp,zLd 22 21 4,zop 4 (.new 76 (z0s ctOp)),zmv 3 20,zst 4 22 4]),(.draw [zLd 23 4 4,zca 24 134 [23],zno 25 24,zmv 26 25,.grp 26 false [zmv 27 3,zbi 28 .gtr 27 (zki 0),zmv 29 28,.grp 29 true [zfa 30 1 0,zld 31 30 1,zmv 32 3,zbi 33 .sub 32 (zki 1),zia 34 31 33 ctOp,zfa 35 34 2,zld 36 35 1,zfa 37 4 1,zld 38 37 1,zbi 39 .neq 36 38] 40 39] 41 40] []),(.cond 41 (zsq [(.reg [zmv 2 (zkb false)]),.ret]) .skip)])),(.reg [zbi 42 .add 18 (zki 1),zmv 18 42])])
def Qft:List (Nat × Md):=[(1,.b [.d]),(16,.one .d),(17,.one .d),(18,.one .d)]
def Qiz:TCode :=
 (zsq [(.reg [zmv 2 (zkb true)]),.ret])
def QnZ:TCode :=
 (zsq [(.reg [zop 1 (.box 66 0 1),zmv 2 (zkb false)]),(zsq [(.reg [zfa 5 1 0,zld 6 5 1,zle 7 6,zbi 8 .lss 7 (zki 1),zmv 9 8,.grp 9 false [zfa 10 1 0,zld 11 10 1,zle 12 11,zbi 13 .gtr 12 (zki 8)] 14 13]),(.cond 14 (zsq [(.reg [zmv 2 (zkb false)]),.ret]) .skip)]),(zsq [(.reg [zfa 15 1 0,zld 16 15 1,zle 17 16,zmv 18 (zki 0)]),(.block 0 (.loop Qft Qhb))]),Qiz])
def QfV:List (ARv × Md):=[(.t 2,.one .d)]
def Qhv:Qd:=TQ 0 0 QfV K
def Qmf:Qd:=Qseq (tawp Qco 0 Qiz (Qhv K)) (Qhv K)
def Qka:Qd:=Qblk 0 (Qmf K)
def QaP (m:List TOp') (x:Int):Prop:=Loop Qco 0 Qft Qhb (Qka K) ⟨[(1,(.p 0 0 0)),(16,(zcs ctOp m)),(17,(zci (m.length:Int))),(18,(zci x))],[(0,(.box [(zcs ctOp m)]))],1⟩
theorem QfU (m:List TOp') (x:Int) (h :
 (zif (decide (x<(m.length:Int))) (((0:Int)≤x∧Int.toNat x<m.length)∧(((!(!(QE (gtd dOp m (Int.toNat x)))))=true→((decide (x>(0:Int)))=true→((0:Int)≤w64 (x-(1:Int))∧Int.toNat (w64 (x-(1:Int)))<m.length)))∧(zif ((!(QE (gtd dOp m (Int.toNat x))))||((decide (x>(0:Int)))&&(((gtd dOp m (Int.toNat (w64 (x-(1:Int))))).2.2.1) != ((gtd dOp m (Int.toNat x)).2.1)))) (K (Ya false)) (QaP K m (w64 (x+(1:Int))))))) (K (Ya true)))):QaP K m x :=
 Loop.of (by kernel_rfl) h
theorem Qke (m:List TOp') (h :
 (zif ((decide ((m.length:Int)<(1:Int)))||(decide ((m.length:Int)>(8:Int)))) (K (Ya false)) (QaP K m 0))):Hold (tawp Qco (0+0) QnZ (TQ 0 0 QfV K) (Qj [(.a [(.c (.sl ctOp) m)])])) :=
 Hold.of (by kernel_rfl) h
theorem QnB (m:List TOp'):TCon Try.prog 133 [(.a [(.c (.sl ctOp) m)])] (Ya (Qn m)):=by
 refine QG rfl fun hb=>tcg (n:=43) (sg:=Qax.sg) Qq (TOk.cons QgS TOk.nil) (by kernel_rfl) (by kernel_rfl) (Qke _ m ?_)
 have hl_m_0:(m).length≤9223372036854775807:=hb.1.1.1
 refine ⟨fun h=>R_eq (by grind [Qn,m_in]),fun h=>?_⟩
 have hin:m_in m.length 1 8=true:=by grind [m_in]
 refine Yb m (fun r k=>Q0 (ZA m k) r=Q0 none m→QaP (fun r'=>r'=Ya (Qn m)) m k) ?_ ?_ rfl
 ·intro he
  refine QfU (fun r'=>r'=Ya (Qn m)) m _ ⟨fun h=>by simp at h,fun _=>?_⟩
  grind [Q0,Qn]
 ·intro k x r hk hlt hg ih he
  refine QfU (fun r'=>r'=Ya (Qn m)) m _ ⟨fun _=>?_,fun h=>by simp at h;omega⟩
  rw [Int.toNat_natCast,hg,Qi (x:=(k:Int)+1) (by omega) (by omega)]
  have ep:ZA m (k+1)=some x.2.2.1:=by simp [ZA,hg]
  rw [ep] at ih
  rcases Nat.eq_zero_or_pos k with h0 | h0
  ·subst h0
   simp only [Q0,ZA,if_true] at he
   grind [Qn]
  ·have e2:=Qaf h0 (by omega:k≤9223372036854775807)
   simp only [Q0,ZA,if_neg (Nat.ne_of_gt h0)] at he
   grind [Qn]
theorem Qf7:Qo Try.prog Qax:=Qs fun x _=>QnB x.1
end
end Go.Proofs.Ytephkbajoofeoaa.Am

