/- -/
import Derived.Test.YtephkbajoofeoaaYGP1
namespace Go.Proofs.Ytephkbajoofeoaa.Am
open Go Go.RowKit Go.Proofs.Ytephkbajoofeoaa
set_option linter.all false
noncomputable section
variable (K:TRes→Prop)
def Zw (t:Int):TRes:=zre (zci t)
def QaE:TRow:=Qj 191 [(.a ctOp)] fun x=>(none,Zw (QR x.1))
def Qbi:List TRow:=[ZH]
def Qd8:TCode :=
 (.cond 15 (zsq [(.reg [zfa 18 1 1,zld 19 18 1,zfa 20 1 2,zld 21 20 1,zbi 22 .mul 19 21,zmv 2 22]),.ret]) (zsq [(.reg [zbi 24 .eql 14 (zki 2),zmv 23 24]),(.cond 23 (zsq [(.reg [zfa 25 1 1,zld 26 25 1,zmv 2 26]),.ret]) (zsq [(.reg [zbi 28 .eql 14 (zki 4),zmv 27 28]),(.cond 27 (zsq [(.reg [zmv 2 (zki 1)]),.ret]) .skip)]))]))
def QhJ:List (Nat × Md):=[(1,.b (zds 4)),(14,.one .d),(15,.one .d)]
def Qm7:TCode:=.wk QhJ Qd8
def Qg9:TCode :=
 (zsq [(.reg [zmv 2 (zki 0)]),.ret])
def QkW:TCode :=
 (zsq [(.reg [zop 1 (.box 76 0 4),zmv 2 (zki 0)]),(zsq [(.reg [zfa 3 1 1,zld 4 3 1,zca 5 102 [4,(zki 1),(zki 6)],zno 6 5,zmv 7 6,.grp 7 false [zfa 8 1 2,zld 9 8 1,zca 10 102 [9,(zki 1),(zki 6)],zno 11 10] 12 11]),(.cond 12 (zsq [(.reg [zmv 2 (zki 0)]),.ret]) .skip)]),(zsq [(.reg [zfa 13 1 0,zld 14 13 1]),(.block 0 (zsq [(zsq [(.reg [zbi 16 .eql 14 (zki 1),zmv 15 16]),(.cond 15 .skip (.reg [zbi 17 .eql 14 (zki 5),zmv 15 17]))]),Qm7]))]),Qg9])
def QfB:List (ARv × Md):=[(.t 2,.one .d)]
def QdG:Qd:=TQ 0 0 QfB K
def Qma:Qd:=Qseq (tawp Qbi 0 Qg9 (QdG K)) (QdG K)
def Qkr:Qd:=Qblk 0 (Qma K)
@[irreducible] def Qc5 (o:TOp') (x:Bool):Prop:=tawp Qbi 0 Qd8 (Qkr K) ⟨[(1,(.p 0 0 0)),(14,(zci o.1)),(15,(zcb x))],[(0,(.box (Tup.cells ctOp o)))],1⟩
theorem QgC (o:TOp') (x:Bool) (h :
 (zif x (K (Zw (w64 (o.2.1*o.2.2.1)))) (zif (o.1==(2:Int)) (K (Zw o.2.1)) (zif (o.1==(4:Int)) (K (Zw (1:Int))) (K (Zw (0:Int))))))):Hold (Qc5 K o x) :=
 Hold.of (by kernel_rfl) h
theorem Qib (o:TOp') (h :
 (zif ((!(m_in o.2.1 (1:Int) (6:Int)))||(!(m_in o.2.2.1 (1:Int) (6:Int)))) (K (Zw (0:Int))) (zif (o.1==(1:Int)) (Qc5 K o (o.1==(1:Int))) (Qc5 K o (o.1==(5:Int)))))):Hold (tawp Qbi (0+0) QkW (TQ 0 0 QfB K) (Qh [(.a (Tup.cells ctOp o))])) :=
 Hold.of (by kernel_rfl) h
theorem QiQ (o:TOp'):TCon Try.prog 191 [(.a (Tup.cells ctOp o))] (Zw (QR o)):=by
 refine Ql rfl fun hb=>tcg (n:=29) (sg:=QaE.sg) Qm (TOk.cons Z7 TOk.nil) (by kernel_rfl) (by kernel_rfl) (Qib _ o ?_)
 have hl_o_3:(o.2.2.2).length≤9223372036854775807:=hb.1.2.2.2.1.1
 refine ⟨fun h=>R_eq (by grind [QR]),fun h=>?_⟩
 have hi:m_in o.2.1 1 6=true∧m_in o.2.2.1 1 6=true:=by simpa using h
 have hm:=QeA (QQ.1 hi.1).1 (QQ.1 hi.1).2 (QQ.1 hi.2).1 (QQ.1 hi.2).2
 have hw:=Qz (x:=o.2.1*o.2.2.1) (by omega) (by omega)
 refine ⟨fun h1=>(QgC (fun r'=>r'=Zw (QR o)) o _ ?_).h,fun h1=>(QgC (fun r'=>r'=Zw (QR o)) o _ ?_).h⟩ <;> grind [QR]
theorem QlH:Qi Try.prog QaE:=Qn fun x _=>QiQ x.1
def ZC (t:Int):TRes:=zre (zci t)
def QaQ:TRow:=Qj 189 [(.a ctOp)] fun x=>(none,ZC (QR x.1))
def Qbw:List TRow:=[]
def Qdb:TCode :=
 (.cond 23 (zsq [(.reg [zfa 26 1 1,zld 27 26 1,zfa 28 1 2,zld 29 28 1,zbi 30 .mul 27 29,zmv 2 30]),.ret]) (zsq [(.reg [zbi 32 .eql 22 (zki 2),zmv 31 32]),(.cond 31 (zsq [(.reg [zfa 33 1 1,zld 34 33 1,zmv 2 34]),.ret]) (zsq [(.reg [zbi 36 .eql 22 (zki 4),zmv 35 36]),(.cond 35 (zsq [(.reg [zmv 2 (zki 1)]),.ret]) .skip)]))]))
def QiZ:List (Nat × Md):=[(1,.b (zds 4)),(22,.one .d),(23,.one .d)]
def Qlg:TCode:=.wk QiZ Qdb
def Qg1:TCode :=
 (zsq [(.reg [zmv 2 (zki 0)]),.ret])
def Qn5:TCode :=
 (zsq [(.reg [zop 1 (.box 76 0 4),zmv 2 (zki 0)]),(zsq [(.reg [zfa 3 1 1,zld 4 3 1,zbi 5 .lss 4 (zki 1),zmv 6 5,.grp 6 false [zfa 7 1 1,zld 8 7 1,zbi 9 .gtr 8 (zki 6)] 10 9,zmv 11 10,.grp 11 false [zfa 12 1 2,zld 13 12 1,zbi 14 .lss 13 (zki 1)] 15 14,zmv 16 15,.grp 16 false [zfa 17 1 2,zld 18 17 1,zbi 19 .gtr 18 (zki 6)] 20 19]),(.cond 20 (zsq [(.reg [zmv 2 (zki 0)]),.ret]) .skip)]),(zsq [(.reg [zfa 21 1 0,zld 22 21 1]),(.block 0 (zsq [(zsq [(.reg [zbi 24 .eql 22 (zki 1),zmv 23 24]),(.cond 23 .skip (.reg [zbi 25 .eql 22 (zki 5),zmv 23 25]))]),Qlg]))]),Qg1])
def Qef:List (ARv × Md):=[(.t 2,.one .d)]
def Qel:Qd:=TQ 0 0 Qef K
def Qj0:Qd:=Qseq (tawp Qbw 0 Qg1 (Qel K)) (Qel K)
def QkD:Qd:=Qblk 0 (Qj0 K)
@[irreducible] def Qbg (o:TOp') (x:Bool):Prop:=tawp Qbw 0 Qdb (QkD K) ⟨[(1,(.p 0 0 0)),(22,(zci o.1)),(23,(zcb x))],[(0,(.box (Tup.cells ctOp o)))],1⟩
theorem QfR (o:TOp') (x:Bool) (h :
 (zif x (K (ZC (w64 (o.2.1*o.2.2.1)))) (zif (o.1==(2:Int)) (K (ZC o.2.1)) (zif (o.1==(4:Int)) (K (ZC (1:Int))) (K (ZC (0:Int))))))):Hold (Qbg K o x) :=
 Hold.of (by kernel_rfl) h
theorem Qlj (o:TOp') (h :
 (zif ((((decide (o.2.1<(1:Int)))||(decide (o.2.1>(6:Int))))||(decide (o.2.2.1<(1:Int))))||(decide (o.2.2.1>(6:Int)))) (K (ZC (0:Int))) (zif (o.1==(1:Int)) (Qbg K o (o.1==(1:Int))) (Qbg K o (o.1==(5:Int)))))):Hold (tawp Qbw (0+0) Qn5 (TQ 0 0 Qef K) (Qh [(.a (Tup.cells ctOp o))])) :=
 Hold.of (by kernel_rfl) h
theorem Qj9 (o:TOp'):TCon Try.prog 189 [(.a (Tup.cells ctOp o))] (ZC (QR o)):=by
 refine Ql rfl fun hb=>tcg (n:=37) (sg:=QaQ.sg) Qm TOk.nil (by kernel_rfl) (by kernel_rfl) (Qlj _ o ?_)
 have hl_o_3:(o.2.2.2).length≤9223372036854775807:=hb.1.2.2.2.1.1
 refine ⟨fun h=>R_eq (by grind [QR,m_in]),fun h=>?_⟩
 have hi:m_in o.2.1 1 6=true∧m_in o.2.2.1 1 6=true:=by grind [m_in]
 have hm:=QeA (QQ.1 hi.1).1 (QQ.1 hi.1).2 (QQ.1 hi.2).1 (QQ.1 hi.2).2
 have hw:=Qz (x:=o.2.1*o.2.2.1) (by omega) (by omega)
 refine ⟨fun h1=>(QfR (fun r'=>r'=ZC (QR o)) o _ ?_).h,fun h1=>(QfR (fun r'=>r'=ZC (QR o)) o _ ?_).h⟩ <;> grind [QR]
theorem Qll:Qi Try.prog QaQ:=Qn fun x _=>Qj9 x.1
def ZQ (t:Bool):TRes:=zre (zcb t)
def QaY:TRow:=Qj 137 [(.a ctOp)] fun x=>(none,ZQ (QP x.1))
def Qa5:List TRow:=[ZH,QaE,QcN]
def QdN:TCode :=
 (zsq [(zsq [(.reg [zmv 40 3,zfa 41 1 3,zld 42 41 1,zle 43 42,zbi 44 .lss 40 43]),(.cond 44 .skip (.exit 0))]),(.block 1 (zsq [(.reg [zfa 47 1 3,zld 48 47 1,zmv 49 3,zia 50 48 49 [TI],zld 51 50 1,zca 52 122 [51],zno 53 52]),(.cond 53 (zsq [(.reg [zmv 2 (zkb false)]),.ret]) .skip)])),(.reg [zmv 45 3,zbi 46 .add 45 (zki 1),zmv 3 46])])
def Qhd:List (Nat × Md):=[(1,.b (zds 4)),(3,.one .d)]
def Qg3:TCode :=
 (zsq [(.reg [zmv 2 (zkb true)]),.ret])
def QjR:TCode :=
 (zsq [(.reg [zop 1 (.box 76 0 4),zmv 2 (zkb false)]),(zsq [(.draw [zfa 4 1 0,zld 5 4 1,zca 6 102 [5,(zki 1),(zki 5)],zno 7 6,zmv 8 7,.grp 8 false [zfa 9 1 1,zld 10 9 1,zca 11 102 [10,(zki 1),(zki 6)],zno 12 11] 13 12,zmv 14 13,.grp 14 false [zfa 15 1 2,zld 16 15 1,zca 17 102 [16,(zki 1),(zki 6)],zno 18 17] 19 18,zmv 20 19,.grp 20 false [zfa 21 1 0,zld 22 21 1,zbi 23 .neq 22 (zki 1),zmv 24 23,.grp 24 true [zfa 25 1 1,zld 26 25 1,zfa 27 1 2,zld 28 27 1,zbi 29 .neq 26 28] 30 29] 31 30,zmv 32 31,.grp 32 false [zfa 33 1 3,zld 34 33 1,zle 35 34,zLd 36 1 4,zca 37 191 [36],zbi 38 .neq 35 37] 39 38] [(29,33),(30,33),(31,33)]),(.cond 39 (zsq [(.reg [zmv 2 (zkb false)]),.ret]) .skip)]),(zsq [(.reg [zmv 3 (zki 0)]),(.block 0 (.loop Qhd QdN))]),Qg3])
def QeP:List (ARv × Md):=[(.t 2,.one .d)]
def Qdq:Qd:=TQ 0 0 QeP K
def QnP:Qd:=Qseq (tawp Qa5 0 Qg3 (Qdq K)) (Qdq K)
def QiA:Qd:=Qblk 0 (QnP K)
def QbS (o:TOp') (i:Int):Prop:=Loop Qa5 0 Qhd QdN (QiA K) ⟨[(1,(.p 0 0 0)),(3,(zci i))],[(0,(.box (Tup.cells ctOp o)))],1⟩
theorem QjB (o:TOp') (i:Int) (h :
 (zif (decide (i<((o.2.2.2).length:Int))) (((0:Int)≤i∧Int.toNat i<(o.2.2.2).length)∧(zif (!(Zk (gtd (0:Int) o.2.2.2 (Int.toNat i)))) (K (ZQ false)) (QbS K o (w64 (i+(1:Int)))))) (K (ZQ true)))):QbS K o i :=
 Loop.of (by kernel_rfl) h
theorem Qkp (o:TOp') (h :
 (zif (((((!(m_in o.1 (1:Int) (5:Int)))||(!(m_in o.2.1 (1:Int) (6:Int))))||(!(m_in o.2.2.1 (1:Int) (6:Int))))||((o.1 != (1:Int))&&(o.2.1 != o.2.2.1)))||(((o.2.2.2).length:Int) != (QR o))) (K (ZQ false)) (QbS K o 0))):Hold (tawp Qa5 (0+0) QjR (TQ 0 0 QeP K) (Qh [(.a (Tup.cells ctOp o))])) :=
 Hold.of (by kernel_rfl) h
theorem QiI (o:TOp'):TCon Try.prog 137 [(.a (Tup.cells ctOp o))] (ZQ (QP o)):=by
 refine Ql rfl fun hb=>tcg (n:=54) (sg:=QaY.sg) Qm (TOk.cons Z7 (TOk.cons QlH (TOk.cons Qmf TOk.nil))) (by kernel_rfl) (by kernel_rfl) (Qkp _ o ?_)
 have hl_o_3:(o.2.2.2).length≤9223372036854775807:=hb.1.2.2.2.1.1
 refine ⟨fun h=>R_eq (by grind [QP]),fun h=>?_⟩
 exact Qfy (Q:=fun x=>ZQ x=ZQ (QP o)) (p:=Zk) (c:=fun x=>!(Zk x)) 0 hl_o_3 (fun _=>rfl) (fun i h=>QjB (fun r'=>r'=ZQ (QP o)) o i h) (R_eq (by grind [QP,Yh]))
theorem Qmk:Qi Try.prog QaY:=Qn fun x _=>QiI x.1
def YX (t:Bool):TRes:=zre (zcb t)
def QaP:TRow:=Qj 134 [(.a ctOp)] fun x=>(none,YX (QP x.1))
def Qjj:List TRow:=[QaQ,QbC]
def Qiv:TCode :=
 (zsq [(.reg [zop 1 (.box 76 0 4),zmv 2 (zkb false)]),(zsq [(.reg [zfa 3 1 0,zld 4 3 1,zbi 5 .lss 4 (zki 1),zmv 6 5,.grp 6 false [zfa 7 1 0,zld 8 7 1,zbi 9 .gtr 8 (zki 5)] 10 9,zmv 11 10,.grp 11 false [zfa 12 1 1,zld 13 12 1,zbi 14 .lss 13 (zki 1)] 15 14,zmv 16 15,.grp 16 false [zfa 17 1 1,zld 18 17 1,zbi 19 .gtr 18 (zki 6)] 20 19,zmv 21 20,.grp 21 false [zfa 22 1 2,zld 23 22 1,zbi 24 .lss 23 (zki 1)] 25 24,zmv 26 25,.grp 26 false [zfa 27 1 2,zld 28 27 1,zbi 29 .gtr 28 (zki 6)] 30 29]),(.cond 30 (zsq [(.reg [zmv 2 (zkb false)]),.ret]) .skip)]),(zsq [(.reg [zfa 31 1 0,zld 32 31 1,zbi 33 .neq 32 (zki 1),zmv 34 33,.grp 34 true [zfa 35 1 1,zld 36 35 1,zfa 37 1 2,zld 38 37 1,zbi 39 .neq 36 38] 40 39]),(.cond 40 (zsq [(.reg [zmv 2 (zkb false)]),.ret]) .skip)]),(.draw [zfa 41 1 3,zld 42 41 1,zle 43 42,zLd 44 1 4,zca 45 189 [44],zbi 46 .eql 43 45,zmv 47 46,.grp 47 true [zfa 48 1 3,zld 49 48 1,zca 50 190 [49]] 51 50,zmv 2 51] [(0,4),(1,4),(2,4)]),.ret])
def QlB:List (ARv × Md):=[(.t 2,.one .d)]
theorem Qid (o:TOp') (h :
 (zif ((((((decide (o.1<(1:Int)))||(decide (o.1>(5:Int))))||(decide (o.2.1<(1:Int))))||(decide (o.2.1>(6:Int))))||(decide (o.2.2.1<(1:Int))))||(decide (o.2.2.1>(6:Int)))) (K (YX false)) (zif ((o.1 != (1:Int))&&(o.2.1 != o.2.2.1)) (K (YX false)) (K (YX ((((o.2.2.2).length:Int)==(QR o))&&(Yh o.2.2.2))))))):Hold (tawp Qjj (0+0) Qiv (TQ 0 0 QlB K) (Qh [(.a (Tup.cells ctOp o))])) :=
 Hold.of (by kernel_rfl) h
theorem Qmp (o:TOp'):TCon Try.prog 134 [(.a (Tup.cells ctOp o))] (YX (QP o)):=by
 refine Ql rfl fun hb=>tcg (n:=52) (sg:=QaP.sg) Qm (TOk.cons Qll (TOk.cons Qit TOk.nil)) (by kernel_rfl) (by kernel_rfl) (Qid _ o ?_)
 have hl_o_3:(o.2.2.2).length≤9223372036854775807:=hb.1.2.2.2.1.1
 grind [QP,m_in]
theorem Qlr:Qi Try.prog QaP:=Qn fun x _=>Qmp x.1
def Z9 (t:Bool):TRes:=zre (zcb t)
def QcH:TRow:=Qj 60 [(.a [(.sl ctOp)])] fun x=>(none,Z9 (QE x.1))
def Qbp:List TRow:=[QaY,ZH]
def Qgi:TCode :=
 (zsq [(zsq [(.reg [zmv 4 3,zfa 5 1 0,zld 6 5 1,zle 7 6,zbi 8 .lss 4 7]),(.cond 8 .skip (.exit 0))]),(.block 1 (zsq [(.draw [zfa 11 1 0,zld 12 11 1,zmv 13 3,zia 14 12 13 ctOp,zLd 15 14 4,zca 16 137 [15],zno 17 16,zmv 18 17,.grp 18 false [zmv 19 3,zbi 20 .gtr 19 (zki 0),zmv 21 20,.grp 21 true [zfa 22 1 0,zld 23 22 1,zmv 24 3,zia 25 23 24 ctOp,zfa 26 25 1,zld 27 26 1,zfa 28 1 0,zld 29 28 1,zmv 30 3,zbi 31 .sub 30 (zki 1),zia 32 29 31 ctOp,zfa 33 32 2,zld 34 33 1,zbi 35 .neq 27 34] 36 35] 37 36] []),(.cond 37 (zsq [(.reg [zmv 2 (zkb false)]),.ret]) .skip)])),(.reg [zmv 9 3,zbi 10 .add 9 (zki 1),zmv 3 10])])
def QeS:List (Nat × Md):=[(1,.b [.d]),(3,.one .d)]
def QeR:TCode :=
 (zsq [(.reg [zfa 38 1 0,zld 39 38 1,zle 40 39,zca 41 102 [40,(zki 1),(zki 8)],zmv 2 41]),.ret])
def Qnz:TCode :=
 (zsq [(.reg [zop 1 (.box 66 0 1),zmv 2 (zkb false)]),(zsq [(.reg [zmv 3 (zki 0)]),(.block 0 (.loop QeS Qgi))]),QeR])
def QfG:List (ARv × Md):=[(.t 2,.one .d)]
def Qeq:Qd:=TQ 0 0 QfG K
def QkO:Qd:=Qseq (tawp Qbp 0 QeR (Qeq K)) (Qeq K)
def QkX:Qd:=Qblk 0 (QkO K)
def J8 (m:List TOp') (i:Int):Prop:=Loop Qbp 0 QeS Qgi (QkX K) ⟨[(1,(.p 0 0 0)),(3,(zci i))],[(0,(.box [(zcs ctOp m)]))],1⟩
theorem QeT (m:List TOp') (i:Int) (h :
 (zif (decide (i<(m.length:Int))) ((((0:Int)≤i∧Int.toNat i<m.length)∧((!(!(QP (gtd dOp m (Int.toNat i)))))=true→((decide (i>(0:Int)))=true→(((0:Int)≤i∧Int.toNat i<m.length)∧((0:Int)≤w64 (i-(1:Int))∧Int.toNat (w64 (i-(1:Int)))<m.length)))))∧(zif ((!(QP (gtd dOp m (Int.toNat i))))||((decide (i>(0:Int)))&&(((gtd dOp m (Int.toNat i)).2.1) != ((gtd dOp m (Int.toNat (w64 (i-(1:Int))))).2.2.1)))) (K (Z9 false)) (J8 K m (w64 (i+(1:Int)))))) (K (Z9 (m_in (m.length:Int) (1:Int) (8:Int)))))):J8 K m i :=
 Loop.of (by kernel_rfl) h
theorem QjN (m:List TOp') (h :
 (J8 K m 0)):Hold (tawp Qbp (0+0) Qnz (TQ 0 0 QfG K) (Qh [(.a [(.c (.sl ctOp) m)])])) :=
 Hold.of (by kernel_rfl) h
theorem Qn2 (m:List TOp'):TCon Try.prog 60 [(.a [(.c (.sl ctOp) m)])] (Z9 (QE m)):=by
 refine Ql rfl fun hb=>tcg (n:=42) (sg:=QcH.sg) Qm (TOk.cons Qmk (TOk.cons Z7 TOk.nil)) (by kernel_rfl) (by kernel_rfl) (QjN _ m ?_)
 have hl_m_0:(m).length≤9223372036854775807:=hb.1.1.1
 refine ZT m (fun r k=>Zg (Zn m k) r=Zg none m→J8 (fun r'=>r'=Z9 (QE m)) m k) ?_ ?_ rfl
 ·intro he
  refine QeT (fun r'=>r'=Z9 (QE m)) m _ ⟨fun h=>by simp at h,fun _=>?_⟩
  grind [Zg,QE]
 ·intro k x r hk hlt hg ih he
  refine QeT (fun r'=>r'=Z9 (QE m)) m _ ⟨fun _=>?_,fun h=>by simp at h;omega⟩
  rw [Int.toNat_natCast,hg,Qz (x:=(k:Int)+1) (by omega) (by omega)]
  have ep:Zn m (k+1)=some x.2.2.1:=by simp [Zn,hg]
  rw [ep] at ih
  rcases Nat.eq_zero_or_pos k with h0 | h0
  ·subst h0
   simp only [Zg,Zn,if_true] at he
   grind [QE]
  ·have e2:=JN h0 (by omega:k≤9223372036854775807)
   simp only [Zg,Zn,if_neg (Nat.ne_of_gt h0)] at he
   grind [QE]
theorem QjL:Qi Try.prog QcH:=Qn fun x _=>Qn2 x.1
def ZV (t:Bool):TRes:=zre (zcb t)
def Qa6:TRow:=Qj 133 [(.a [(.sl ctOp)])] fun x=>(none,ZV (QE x.1))
def Qci:List TRow:=[QaP]
def QdY:TCode :=
 (zsq [(.reg [zbi 19 .lss 18 17]),(.cond 19 .skip (.exit 0)),(.block 1 (zsq [(.reg [zmv 20 18,zia 21 16 18 ctOp,zLd 22 21 4,zop 4 (.new 76 (z0s ctOp)),zmv 3 20,zst 4 22 4]),(.draw [zLd 23 4 4,zca 24 134 [23],zno 25 24,zmv 26 25,.grp 26 false [zmv 27 3,zbi 28 .gtr 27 (zki 0),zmv 29 28,.grp 29 true [zfa 30 1 0,zld 31 30 1,zmv 32 3,zbi 33 .sub 32 (zki 1),zia 34 31 33 ctOp,zfa 35 34 2,zld 36 35 1,zfa 37 4 1,zld 38 37 1,zbi 39 .neq 36 38] 40 39] 41 40] []),(.cond 41 (zsq [(.reg [zmv 2 (zkb false)]),.ret]) .skip)])),(.reg [zbi 42 .add 18 (zki 1),zmv 18 42])])
def Qf5:List (Nat × Md):=[(1,.b [.d]),(16,.one .d),(17,.one .d),(18,.one .d)]
def QdA:TCode :=
 (zsq [(.reg [zmv 2 (zkb true)]),.ret])
def Qm9:TCode :=
 (zsq [(.reg [zop 1 (.box 66 0 1),zmv 2 (zkb false)]),(zsq [(.reg [zfa 5 1 0,zld 6 5 1,zle 7 6,zbi 8 .lss 7 (zki 1),zmv 9 8,.grp 9 false [zfa 10 1 0,zld 11 10 1,zle 12 11,zbi 13 .gtr 12 (zki 8)] 14 13]),(.cond 14 (zsq [(.reg [zmv 2 (zkb false)]),.ret]) .skip)]),(zsq [(.reg [zfa 15 1 0,zld 16 15 1,zle 17 16,zmv 18 (zki 0)]),(.block 0 (.loop Qf5 QdY))]),QdA])
def QfC:List (ARv × Md):=[(.t 2,.one .d)]
def Qds:Qd:=TQ 0 0 QfC K
def Qkn:Qd:=Qseq (tawp Qci 0 QdA (Qds K)) (Qds K)
def Qnl:Qd:=Qblk 0 (Qkn K)
def Qak (m:List TOp') (x:Int):Prop:=Loop Qci 0 Qf5 QdY (Qnl K) ⟨[(1,(.p 0 0 0)),(16,(zcs ctOp m)),(17,(zci (m.length:Int))),(18,(zci x))],[(0,(.box [(zcs ctOp m)]))],1⟩
theorem Qe5 (m:List TOp') (x:Int) (h :
 (zif (decide (x<(m.length:Int))) (((0:Int)≤x∧Int.toNat x<m.length)∧(((!(!(QP (gtd dOp m (Int.toNat x)))))=true→((decide (x>(0:Int)))=true→((0:Int)≤w64 (x-(1:Int))∧Int.toNat (w64 (x-(1:Int)))<m.length)))∧(zif ((!(QP (gtd dOp m (Int.toNat x))))||((decide (x>(0:Int)))&&(((gtd dOp m (Int.toNat (w64 (x-(1:Int))))).2.2.1) != ((gtd dOp m (Int.toNat x)).2.1)))) (K (ZV false)) (Qak K m (w64 (x+(1:Int))))))) (K (ZV true)))):Qak K m x :=
 Loop.of (by kernel_rfl) h
theorem QhZ (m:List TOp') (h :
 (zif ((decide ((m.length:Int)<(1:Int)))||(decide ((m.length:Int)>(8:Int)))) (K (ZV false)) (Qak K m 0))):Hold (tawp Qci (0+0) Qm9 (TQ 0 0 QfC K) (Qh [(.a [(.c (.sl ctOp) m)])])) :=
 Hold.of (by kernel_rfl) h
theorem Qk4 (m:List TOp'):TCon Try.prog 133 [(.a [(.c (.sl ctOp) m)])] (ZV (QE m)):=by
 refine Ql rfl fun hb=>tcg (n:=43) (sg:=Qa6.sg) Qm (TOk.cons Qlr TOk.nil) (by kernel_rfl) (by kernel_rfl) (QhZ _ m ?_)
 have hl_m_0:(m).length≤9223372036854775807:=hb.1.1.1
 refine ⟨fun h=>R_eq (by grind [QE,m_in]),fun h=>?_⟩
 have hin:m_in m.length 1 8=true:=by grind [m_in]
 refine ZT m (fun r k=>Zg (Zn m k) r=Zg none m→Qak (fun r'=>r'=ZV (QE m)) m k) ?_ ?_ rfl
 ·intro he
  refine Qe5 (fun r'=>r'=ZV (QE m)) m _ ⟨fun h=>by simp at h,fun _=>?_⟩
  grind [Zg,QE]
 ·intro k x r hk hlt hg ih he
  refine Qe5 (fun r'=>r'=ZV (QE m)) m _ ⟨fun _=>?_,fun h=>by simp at h;omega⟩
  rw [Int.toNat_natCast,hg,Qz (x:=(k:Int)+1) (by omega) (by omega)]
  have ep:Zn m (k+1)=some x.2.2.1:=by simp [Zn,hg]
  rw [ep] at ih
  rcases Nat.eq_zero_or_pos k with h0 | h0
  ·subst h0
   simp only [Zg,Zn,if_true] at he
   grind [QE]
  ·have e2:=JN h0 (by omega:k≤9223372036854775807)
   simp only [Zg,Zn,if_neg (Nat.ne_of_gt h0)] at he
   grind [QE]
theorem QjC:Qi Try.prog Qa6:=Qn fun x _=>Qk4 x.1
end
end Go.Proofs.Ytephkbajoofeoaa.Am

