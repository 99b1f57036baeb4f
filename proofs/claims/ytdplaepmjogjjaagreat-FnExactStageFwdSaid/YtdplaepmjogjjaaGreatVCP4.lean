/- -/
import Derived.Test.YtdplaepmjogjjaaGreatVCP1
namespace Go.Proofs.YtdplaepmjogjjaaGreat.Am
open Go Go.RowKit Go.Proofs.YtdplaepmjogjjaaGreat
set_option linter.all false
noncomputable section
variable (K:TRes→Prop)
def Ja (t:Int):TRes:=zre (zci t)
def Qjg:TRow:=Qg 253 [(.a ctOp)] fun x=>(none,Ja (ZK x.1))
def Qel:TTab:=⟨[Jk],false⟩
def QqP:TCode :=
 (.cond 15 (zsq [(.reg [zfa 18 1 1,zld 19 18 1,zfa 20 1 2,zld 21 20 1,zbi 22 .mul 19 21,zmv 2 22]),.ret]) (zsq [(.reg [zbi 24 .eql 14 (zki 2),zmv 23 24]),(.cond 23 (zsq [(.reg [zfa 25 1 1,zld 26 25 1,zmv 2 26]),.ret]) (zsq [(.reg [zbi 28 .eql 14 (zki 4),zmv 27 28]),(.cond 27 (zsq [(.reg [zmv 2 (zki 1)]),.ret]) .skip)]))]))
def QGw:List (Nat × Md):=[(1,.b (zds 4)),(14,.one .d),(15,.one .d)]
def QF5:TCode:=.wk QGw QqP
def QrQ:TCode :=
 (zsq [(.reg [zmv 2 (zki 0)]),.ret])
def Qvj:TCode :=
 (zsq [(.reg [zop 1 (.box 134 0 4),zmv 2 (zki 0)]),(zsq [(.reg [zfa 3 1 1,zld 4 3 1,zca 5 158 [4,(zki 1),(zki 6)],zno 6 5,zmv 7 6,.grp 7 false [zfa 8 1 2,zld 9 8 1,zca 10 158 [9,(zki 1),(zki 6)],zno 11 10] 12 11]),(.cond 12 (zsq [(.reg [zmv 2 (zki 0)]),.ret]) .skip)]),(zsq [(.reg [zfa 13 1 0,zld 14 13 1]),(.block 0 (zsq [(zsq [(.reg [zbi 16 .eql 14 (zki 1),zmv 15 16]),(.cond 15 .skip (.reg [zbi 17 .eql 14 (zki 5),zmv 15 17]))]),QF5]))]),QrQ])
def Qpc:List (ARv × Md):=[(.t 2,.one .d)]
def QoL:Qb:=TQ 0 0 Qpc K
def QyC:Qb:=Qseq (tawp Qel 0 QrQ (QoL K)) (QoL K)
def QwM:Qb:=Qblk 0 (QyC K)
@[irreducible] def Qii (o:TOp') (x:Bool):Prop:=tawp Qel 0 QqP (QwM K) ⟨[(1,(.p 0 0 0)),(14,(zci o.1)),(15,(zcb x))],[(0,(.box (Tup.cells ctOp o)))],1⟩
theorem QrU (o:TOp') (x:Bool) (h :
 (zif x (K (Ja (w64 (o.2.1*o.2.2.1)))) (zif (o.1==(2:Int)) (K (Ja o.2.1)) (zif (o.1==(4:Int)) (K (Ja (1:Int))) (K (Ja (0:Int))))))):Hold (Qii K o x) :=
 Hold.of (by kernel_rfl) h
theorem QuY (o:TOp') (h :
 (zif ((!(m_in o.2.1 (1:Int) (6:Int)))||(!(m_in o.2.2.1 (1:Int) (6:Int)))) (K (Ja (0:Int))) (zif (o.1==(1:Int)) (Qii K o (o.1==(1:Int))) (Qii K o (o.1==(5:Int)))))):Hold (tawp Qel (0+0) Qvj (TQ 0 0 Qpc K) (Qd [(.a (Tup.cells ctOp o))])) :=
 Hold.of (by kernel_rfl) h
theorem QwW (o:TOp'):TCon Tryz.prog 253 [(.a (Tup.cells ctOp o))] (Ja (ZK o)):=by
 refine Qi rfl fun hb=>tcg (Γ:=Qel) (n:=29) (sg:=Qjg.sg) Qj (TOkL.cons Qak TOkL.nil) (by kernel_rfl) (by kernel_rfl) (QuY _ o ?_)
 have hl_o_3:(o.2.2.2).length≤9223372036854775807:=hb.1.2.2.2.1.1
 refine ⟨fun h=>R_eq (by grind [ZK]),fun h=>?_⟩
 have hi:m_in o.2.1 1 6=true∧m_in o.2.2.1 1 6=true:=by simpa using h
 have hm:=Qbf (Zk.1 hi.1).1 (Zk.1 hi.1).2 (Zk.1 hi.2).1 (Zk.1 hi.2).2
 have hw:=Qv (x:=o.2.1*o.2.2.1) (by omega) (by omega)
 refine ⟨fun h1=>(QrU (fun r'=>r'=Ja (ZK o)) o _ ?_).h,fun h1=>(QrU (fun r'=>r'=Ja (ZK o)) o _ ?_).h⟩ <;> grind [ZK]
theorem Qwx:Qe Tryz.prog Qjg:=Qk fun x _=>QwW x.1
def Jo (t:Int):TRes:=zre (zci t)
def QiJ:TRow:=Qg 257 [(.a ctOp)] fun x=>(none,Jo (ZK x.1))
def Qdm:TTab:=⟨[],false⟩
def Qsx:TCode :=
 (.cond 23 (zsq [(.reg [zfa 26 1 1,zld 27 26 1,zfa 28 1 2,zld 29 28 1,zbi 30 .mul 27 29,zmv 2 30]),.ret]) (zsq [(.reg [zbi 32 .eql 22 (zki 2),zmv 31 32]),(.cond 31 (zsq [(.reg [zfa 33 1 1,zld 34 33 1,zmv 2 34]),.ret]) (zsq [(.reg [zbi 36 .eql 22 (zki 4),zmv 35 36]),(.cond 35 (zsq [(.reg [zmv 2 (zki 1)]),.ret]) .skip)]))]))
def QuM:List (Nat × Md):=[(1,.b (zds 4)),(22,.one .d),(23,.one .d)]
def QuC:TCode:=.wk QuM Qsx
def Qpk:TCode :=
 (zsq [(.reg [zmv 2 (zki 0)]),.ret])
def QIq:TCode :=
 (zsq [(.reg [zop 1 (.box 134 0 4),zmv 2 (zki 0)]),(zsq [(.reg [zfa 3 1 1,zld 4 3 1,zbi 5 .lss 4 (zki 1),zmv 6 5,.grp 6 false [zfa 7 1 1,zld 8 7 1,zbi 9 .gtr 8 (zki 6)] 10 9,zmv 11 10,.grp 11 false [zfa 12 1 2,zld 13 12 1,zbi 14 .lss 13 (zki 1)] 15 14,zmv 16 15,.grp 16 false [zfa 17 1 2,zld 18 17 1,zbi 19 .gtr 18 (zki 6)] 20 19]),(.cond 20 (zsq [(.reg [zmv 2 (zki 0)]),.ret]) .skip)]),(zsq [(.reg [zfa 21 1 0,zld 22 21 1]),(.block 0 (zsq [(zsq [(.reg [zbi 24 .eql 22 (zki 1),zmv 23 24]),(.cond 23 .skip (.reg [zbi 25 .eql 22 (zki 5),zmv 23 25]))]),QuC]))]),Qpk])
def Qr0:List (ARv × Md):=[(.t 2,.one .d)]
def QsD:Qb:=TQ 0 0 Qr0 K
def Qzn:Qb:=Qseq (tawp Qdm 0 Qpk (QsD K)) (QsD K)
def Qu3:Qb:=Qblk 0 (Qzn K)
@[irreducible] def Qgn (o:TOp') (x:Bool):Prop:=tawp Qdm 0 Qsx (Qu3 K) ⟨[(1,(.p 0 0 0)),(22,(zci o.1)),(23,(zcb x))],[(0,(.box (Tup.cells ctOp o)))],1⟩
theorem Qp2 (o:TOp') (x:Bool) (h :
 (zif x (K (Jo (w64 (o.2.1*o.2.2.1)))) (zif (o.1==(2:Int)) (K (Jo o.2.1)) (zif (o.1==(4:Int)) (K (Jo (1:Int))) (K (Jo (0:Int))))))):Hold (Qgn K o x) :=
 Hold.of (by kernel_rfl) h
theorem Qvy (o:TOp') (h :
 (zif ((((decide (o.2.1<(1:Int)))||(decide (o.2.1>(6:Int))))||(decide (o.2.2.1<(1:Int))))||(decide (o.2.2.1>(6:Int)))) (K (Jo (0:Int))) (zif (o.1==(1:Int)) (Qgn K o (o.1==(1:Int))) (Qgn K o (o.1==(5:Int)))))):Hold (tawp Qdm (0+0) QIq (TQ 0 0 Qr0 K) (Qd [(.a (Tup.cells ctOp o))])) :=
 Hold.of (by kernel_rfl) h
theorem Qvb (o:TOp'):TCon Tryz.prog 257 [(.a (Tup.cells ctOp o))] (Jo (ZK o)):=by
 refine Qi rfl fun hb=>tcg (Γ:=Qdm) (n:=37) (sg:=QiJ.sg) Qj TOkL.nil (by kernel_rfl) (by kernel_rfl) (Qvy _ o ?_)
 have hl_o_3:(o.2.2.2).length≤9223372036854775807:=hb.1.2.2.2.1.1
 refine ⟨fun h=>R_eq (by grind [ZK,m_in]),fun h=>?_⟩
 have hi:m_in o.2.1 1 6=true∧m_in o.2.2.1 1 6=true:=by grind [m_in]
 have hm:=Qbf (Zk.1 hi.1).1 (Zk.1 hi.1).2 (Zk.1 hi.2).1 (Zk.1 hi.2).2
 have hw:=Qv (x:=o.2.1*o.2.2.1) (by omega) (by omega)
 refine ⟨fun h1=>(Qp2 (fun r'=>r'=Jo (ZK o)) o _ ?_).h,fun h1=>(Qp2 (fun r'=>r'=Jo (ZK o)) o _ ?_).h⟩ <;> grind [ZK]
theorem Qvv:Qe Tryz.prog QiJ:=Qk fun x _=>Qvb x.1
def JY (t:Bool):TRes:=zre (zcb t)
def Qes:TRow:=Qg 222 [(.a ctOp)] fun x=>(none,JY (Q7 x.1))
def Qfa:TTab:=⟨[Jk,Qjg,Qbu],false⟩
def Qrx:TCode :=
 (zsq [(zsq [(.reg [zmv 40 3,zfa 41 1 3,zld 42 41 1,zle 43 42,zbi 44 .lss 40 43]),(.cond 44 .skip (.exit 0))]),(.block 1 (zsq [(.reg [zfa 47 1 3,zld 48 47 1,zmv 49 3,zia 50 48 49 [TI],zld 51 50 1,zca 52 183 [51],zno 53 52]),(.cond 53 (zsq [(.reg [zmv 2 (zkb false)]),.ret]) .skip)])),(.reg [zmv 45 3,zbi 46 .add 45 (zki 1),zmv 3 46])])
def Qnk:List (Nat × Md):=[(1,.b (zds 4)),(3,.one .d)]
def Qnj:TCode :=
 (zsq [(.reg [zmv 2 (zkb true)]),.ret])
def QwH:TCode :=
 (zsq [(.reg [zop 1 (.box 134 0 4),zmv 2 (zkb false)]),(zsq [(.draw [zfa 4 1 0,zld 5 4 1,zca 6 158 [5,(zki 1),(zki 5)],zno 7 6,zmv 8 7,.grp 8 false [zfa 9 1 1,zld 10 9 1,zca 11 158 [10,(zki 1),(zki 6)],zno 12 11] 13 12,zmv 14 13,.grp 14 false [zfa 15 1 2,zld 16 15 1,zca 17 158 [16,(zki 1),(zki 6)],zno 18 17] 19 18,zmv 20 19,.grp 20 false [zfa 21 1 0,zld 22 21 1,zbi 23 .neq 22 (zki 1),zmv 24 23,.grp 24 true [zfa 25 1 1,zld 26 25 1,zfa 27 1 2,zld 28 27 1,zbi 29 .neq 26 28] 30 29] 31 30,zmv 32 31,.grp 32 false [zfa 33 1 3,zld 34 33 1,zle 35 34,zLd 36 1 4,zca 37 253 [36],zbi 38 .neq 35 37] 39 38] [(29,33),(30,33),(31,33)]),(.cond 39 (zsq [(.reg [zmv 2 (zkb false)]),.ret]) .skip)]),(zsq [(.reg [zmv 3 (zki 0)]),(.block 0 (.loop Qnk Qrx))]),Qnj])
def Qrb:List (ARv × Md):=[(.t 2,.one .d)]
def Qky:Qb:=TQ 0 0 Qrb K
def QD6:Qb:=Qseq (tawp Qfa 0 Qnj (Qky K)) (Qky K)
def QDD:Qb:=Qblk 0 (QD6 K)
def Qha (o:TOp') (i:Int):Prop:=Loop Qfa 0 Qnk Qrx (QDD K) ⟨[(1,(.p 0 0 0)),(3,(zci i))],[(0,(.box (Tup.cells ctOp o)))],1⟩
theorem Qx9 (o:TOp') (i:Int) (h :
 (zif (decide (i<((o.2.2.2).length:Int))) (((0:Int)≤i∧Int.toNat i<(o.2.2.2).length)∧(zif (!(Q2 (gtd (0:Int) o.2.2.2 (Int.toNat i)))) (K (JY false)) (Qha K o (w64 (i+(1:Int)))))) (K (JY true)))):Qha K o i :=
 Loop.of (by kernel_rfl) h
theorem QEJ (o:TOp') (h :
 (zif (((((!(m_in o.1 (1:Int) (5:Int)))||(!(m_in o.2.1 (1:Int) (6:Int))))||(!(m_in o.2.2.1 (1:Int) (6:Int))))||((o.1 != (1:Int))&&(o.2.1 != o.2.2.1)))||(((o.2.2.2).length:Int) != (ZK o))) (K (JY false)) (Qha K o 0))):Hold (tawp Qfa (0+0) QwH (TQ 0 0 Qrb K) (Qd [(.a (Tup.cells ctOp o))])) :=
 Hold.of (by kernel_rfl) h
theorem QHj (o:TOp'):TCon Tryz.prog 222 [(.a (Tup.cells ctOp o))] (JY (Q7 o)):=by
 refine Qi rfl fun hb=>tcg (Γ:=Qfa) (n:=54) (sg:=Qes.sg) Qj (TOkL.cons Qak (TOkL.cons Qwx (TOkL.cons QfQ TOkL.nil))) (by kernel_rfl) (by kernel_rfl) (QEJ _ o ?_)
 have hl_o_3:(o.2.2.2).length≤9223372036854775807:=hb.1.2.2.2.1.1
 refine ⟨fun h=>R_eq (by grind [Q7]),fun h=>?_⟩
 exact Qfo (Q:=fun x=>JY x=JY (Q7 o)) (p:=Q2) (c:=fun x=>!(Q2 x)) 0 hl_o_3 (fun _=>rfl) (fun i h=>Qx9 (fun r'=>r'=JY (Q7 o)) o i h) (R_eq (by grind [Q7,ZS]))
theorem Qo2:Qe Tryz.prog Qes:=Qk fun x _=>QHj x.1
def QbG (t:Bool):TRes:=zre (zcb t)
def Qef:TRow:=Qg 228 [(.a ctOp)] fun x=>(none,QbG (Q7 x.1))
def Qno:TTab:=⟨[QiJ,Qcd],false⟩
def QxT:TCode :=
 (zsq [(.reg [zop 1 (.box 134 0 4),zmv 2 (zkb false)]),(zsq [(.reg [zfa 3 1 0,zld 4 3 1,zbi 5 .lss 4 (zki 1),zmv 6 5,.grp 6 false [zfa 7 1 0,zld 8 7 1,zbi 9 .gtr 8 (zki 5)] 10 9,zmv 11 10,.grp 11 false [zfa 12 1 1,zld 13 12 1,zbi 14 .lss 13 (zki 1)] 15 14,zmv 16 15,.grp 16 false [zfa 17 1 1,zld 18 17 1,zbi 19 .gtr 18 (zki 6)] 20 19,zmv 21 20,.grp 21 false [zfa 22 1 2,zld 23 22 1,zbi 24 .lss 23 (zki 1)] 25 24,zmv 26 25,.grp 26 false [zfa 27 1 2,zld 28 27 1,zbi 29 .gtr 28 (zki 6)] 30 29]),(.cond 30 (zsq [(.reg [zmv 2 (zkb false)]),.ret]) .skip)]),(zsq [(.reg [zfa 31 1 0,zld 32 31 1,zbi 33 .neq 32 (zki 1),zmv 34 33,.grp 34 true [zfa 35 1 1,zld 36 35 1,zfa 37 1 2,zld 38 37 1,zbi 39 .neq 36 38] 40 39]),(.cond 40 (zsq [(.reg [zmv 2 (zkb false)]),.ret]) .skip)]),(.draw [zfa 41 1 3,zld 42 41 1,zle 43 42,zLd 44 1 4,zca 45 257 [44],zbi 46 .eql 43 45,zmv 47 46,.grp 47 true [zfa 48 1 3,zld 49 48 1,zca 50 238 [49]] 51 50,zmv 2 51] [(0,4),(1,4),(2,4)]),.ret])
def QCw:List (ARv × Md):=[(.t 2,.one .d)]
theorem Qww (o:TOp') (h :
 (zif ((((((decide (o.1<(1:Int)))||(decide (o.1>(5:Int))))||(decide (o.2.1<(1:Int))))||(decide (o.2.1>(6:Int))))||(decide (o.2.2.1<(1:Int))))||(decide (o.2.2.1>(6:Int)))) (K (QbG false)) (zif ((o.1 != (1:Int))&&(o.2.1 != o.2.2.1)) (K (QbG false)) (K (QbG ((((o.2.2.2).length:Int)==(ZK o))&&(ZS o.2.2.2))))))):Hold (tawp Qno (0+0) QxT (TQ 0 0 QCw K) (Qd [(.a (Tup.cells ctOp o))])) :=
 Hold.of (by kernel_rfl) h
theorem QFB (o:TOp'):TCon Tryz.prog 228 [(.a (Tup.cells ctOp o))] (QbG (Q7 o)):=by
 refine Qi rfl fun hb=>tcg (Γ:=Qno) (n:=52) (sg:=Qef.sg) Qj (TOkL.cons Qvv (TOkL.cons Qjz TOkL.nil)) (by kernel_rfl) (by kernel_rfl) (Qww _ o ?_)
 have hl_o_3:(o.2.2.2).length≤9223372036854775807:=hb.1.2.2.2.1.1
 grind [Q7,m_in]
theorem QtW:Qe Tryz.prog Qef:=Qk fun x _=>QFB x.1
def QaM (t:Bool):TRes:=zre (zcb t)
def QiV:TRow:=Qg 157 [(.a [(.sl ctOp)])] fun x=>(none,QaM (QR x.1))
def Qd6:TTab:=⟨[Qes,Jk],false⟩
def Qtf:TCode :=
 (zsq [(zsq [(.reg [zmv 4 3,zfa 5 1 0,zld 6 5 1,zle 7 6,zbi 8 .lss 4 7]),(.cond 8 .skip (.exit 0))]),(.block 1 (zsq [(.draw [zfa 11 1 0,zld 12 11 1,zmv 13 3,zia 14 12 13 ctOp,zLd 15 14 4,zca 16 222 [15],zno 17 16,zmv 18 17,.grp 18 false [zmv 19 3,zbi 20 .gtr 19 (zki 0),zmv 21 20,.grp 21 true [zfa 22 1 0,zld 23 22 1,zmv 24 3,zia 25 23 24 ctOp,zfa 26 25 1,zld 27 26 1,zfa 28 1 0,zld 29 28 1,zmv 30 3,zbi 31 .sub 30 (zki 1),zia 32 29 31 ctOp,zfa 33 32 2,zld 34 33 1,zbi 35 .neq 27 34] 36 35] 37 36] []),(.cond 37 (zsq [(.reg [zmv 2 (zkb false)]),.ret]) .skip)])),(.reg [zmv 9 3,zbi 10 .add 9 (zki 1),zmv 3 10])])
def QsC:List (Nat × Md):=[(1,.b [.d]),(3,.one .d)]
def Ql1:TCode :=
 (zsq [(.reg [zfa 38 1 0,zld 39 38 1,zle 40 39,zca 41 158 [40,(zki 1),(zki 8)],zmv 2 41]),.ret])
def QE8:TCode :=
 (zsq [(.reg [zop 1 (.box 77 0 1),zmv 2 (zkb false)]),(zsq [(.reg [zmv 3 (zki 0)]),(.block 0 (.loop QsC Qtf))]),Ql1])
def QrZ:List (ARv × Md):=[(.t 2,.one .d)]
def Ql3:Qb:=TQ 0 0 QrZ K
def QAI:Qb:=Qseq (tawp Qd6 0 Ql1 (Ql3 K)) (Ql3 K)
def QCv:Qb:=Qblk 0 (QAI K)
def Qfu (m:List TOp') (i:Int):Prop:=Loop Qd6 0 QsC Qtf (QCv K) ⟨[(1,(.p 0 0 0)),(3,(zci i))],[(0,(.box [(zcs ctOp m)]))],1⟩
theorem Qt5 (m:List TOp') (i:Int) (h :
 (zif (decide (i<(m.length:Int))) ((((0:Int)≤i∧Int.toNat i<m.length)∧((!(!(Q7 (gtd dOp m (Int.toNat i)))))=true→((decide (i>(0:Int)))=true→(((0:Int)≤i∧Int.toNat i<m.length)∧((0:Int)≤w64 (i-(1:Int))∧Int.toNat (w64 (i-(1:Int)))<m.length)))))∧(zif ((!(Q7 (gtd dOp m (Int.toNat i))))||((decide (i>(0:Int)))&&(((gtd dOp m (Int.toNat i)).2.1) != ((gtd dOp m (Int.toNat (w64 (i-(1:Int))))).2.2.1)))) (K (QaM false)) (Qfu K m (w64 (i+(1:Int)))))) (K (QaM (m_in (m.length:Int) (1:Int) (8:Int)))))):Qfu K m i :=
 Loop.of (by kernel_rfl) h
theorem QCK (m:List TOp') (h :
 (Qfu K m 0)):Hold (tawp Qd6 (0+0) QE8 (TQ 0 0 QrZ K) (Qd [(.a [(.c (.sl ctOp) m)])])) :=
 Hold.of (by kernel_rfl) h
theorem QwL (m:List TOp'):TCon Tryz.prog 157 [(.a [(.c (.sl ctOp) m)])] (QaM (QR m)):=by
 refine Qi rfl fun hb=>tcg (Γ:=Qd6) (n:=42) (sg:=QiV.sg) Qj (TOkL.cons Qo2 (TOkL.cons Qak TOkL.nil)) (by kernel_rfl) (by kernel_rfl) (QCK _ m ?_)
 have hl_m_0:(m).length≤9223372036854775807:=hb.1.1.1
 refine Zh m (fun r k=>ZQ (YE m k) r=ZQ none m→Qfu (fun r'=>r'=QaM (QR m)) m k) ?_ ?_ rfl
 ·intro he
  refine Qt5 (fun r'=>r'=QaM (QR m)) m _ ⟨fun h=>by simp at h,fun _=>?_⟩
  grind [ZQ,QR]
 ·intro k x r hk hlt hg ih he
  refine Qt5 (fun r'=>r'=QaM (QR m)) m _ ⟨fun _=>?_,fun h=>by simp at h;omega⟩
  rw [Int.toNat_natCast,hg,Qv (x:=(k:Int)+1) (by omega) (by omega)]
  have ep:YE m (k+1)=some x.2.2.1:=by simp [YE,hg]
  rw [ep] at ih
  rcases Nat.eq_zero_or_pos k with h0 | h0
  ·subst h0
   simp only [ZQ,YE,if_true] at he
   grind [QR]
  ·have e2:=QbB h0 (by omega:k≤9223372036854775807)
   simp only [ZQ,YE,if_neg (Nat.ne_of_gt h0)] at he
   grind [QR]
theorem Qxm:Qe Tryz.prog QiV:=Qk fun x _=>QwL x.1
def JS (t:Bool):TRes:=zre (zcb t)
def Qa8:TRow:=Qg 167 [(.a [(.sl ctOp)])] fun x=>(none,JS (QR x.1))
def Qet:TTab:=⟨[Qef],false⟩
def QlZ:TCode :=
 (zsq [(.reg [zbi 19 .lss 18 17]),(.cond 19 .skip (.exit 0)),(.block 1 (zsq [(.reg [zmv 20 18,zia 21 16 18 ctOp,zLd 22 21 4,zop 4 (.new 134 (z0s ctOp)),zmv 3 20,zst 4 22 4]),(.draw [zLd 23 4 4,zca 24 228 [23],zno 25 24,zmv 26 25,.grp 26 false [zmv 27 3,zbi 28 .gtr 27 (zki 0),zmv 29 28,.grp 29 true [zfa 30 1 0,zld 31 30 1,zmv 32 3,zbi 33 .sub 32 (zki 1),zia 34 31 33 ctOp,zfa 35 34 2,zld 36 35 1,zfa 37 4 1,zld 38 37 1,zbi 39 .neq 36 38] 40 39] 41 40] []),(.cond 41 (zsq [(.reg [zmv 2 (zkb false)]),.ret]) .skip)])),(.reg [zbi 42 .add 18 (zki 1),zmv 18 42])])
def Qo6:List (Nat × Md):=[(1,.b [.d]),(16,.one .d),(17,.one .d),(18,.one .d)]
def QnH:TCode :=
 (zsq [(.reg [zmv 2 (zkb true)]),.ret])
def QwO:TCode :=
 (zsq [(.reg [zop 1 (.box 77 0 1),zmv 2 (zkb false)]),(zsq [(.reg [zfa 5 1 0,zld 6 5 1,zle 7 6,zbi 8 .lss 7 (zki 1),zmv 9 8,.grp 9 false [zfa 10 1 0,zld 11 10 1,zle 12 11,zbi 13 .gtr 12 (zki 8)] 14 13]),(.cond 14 (zsq [(.reg [zmv 2 (zkb false)]),.ret]) .skip)]),(zsq [(.reg [zfa 15 1 0,zld 16 15 1,zle 17 16,zmv 18 (zki 0)]),(.block 0 (.loop Qo6 QlZ))]),QnH])
def QmT:List (ARv × Md):=[(.t 2,.one .d)]
def QsM:Qb:=TQ 0 0 QmT K
def QHO:Qb:=Qseq (tawp Qet 0 QnH (QsM K)) (QsM K)
def QAz:Qb:=Qblk 0 (QHO K)
def Qei (m:List TOp') (x:Int):Prop:=Loop Qet 0 Qo6 QlZ (QAz K) ⟨[(1,(.p 0 0 0)),(16,(zcs ctOp m)),(17,(zci (m.length:Int))),(18,(zci x))],[(0,(.box [(zcs ctOp m)]))],1⟩
theorem Qnx (m:List TOp') (x:Int) (h :
 (zif (decide (x<(m.length:Int))) (((0:Int)≤x∧Int.toNat x<m.length)∧(((!(!(Q7 (gtd dOp m (Int.toNat x)))))=true→((decide (x>(0:Int)))=true→((0:Int)≤w64 (x-(1:Int))∧Int.toNat (w64 (x-(1:Int)))<m.length)))∧(zif ((!(Q7 (gtd dOp m (Int.toNat x))))||((decide (x>(0:Int)))&&(((gtd dOp m (Int.toNat (w64 (x-(1:Int))))).2.2.1) != ((gtd dOp m (Int.toNat x)).2.1)))) (K (JS false)) (Qei K m (w64 (x+(1:Int))))))) (K (JS true)))):Qei K m x :=
 Loop.of (by kernel_rfl) h
theorem QDP (m:List TOp') (h :
 (zif ((decide ((m.length:Int)<(1:Int)))||(decide ((m.length:Int)>(8:Int)))) (K (JS false)) (Qei K m 0))):Hold (tawp Qet (0+0) QwO (TQ 0 0 QmT K) (Qd [(.a [(.c (.sl ctOp) m)])])) :=
 Hold.of (by kernel_rfl) h
theorem QFF (m:List TOp'):TCon Tryz.prog 167 [(.a [(.c (.sl ctOp) m)])] (JS (QR m)):=by
 refine Qi rfl fun hb=>tcg (Γ:=Qet) (n:=43) (sg:=Qa8.sg) Qj (TOkL.cons QtW TOkL.nil) (by kernel_rfl) (by kernel_rfl) (QDP _ m ?_)
 have hl_m_0:(m).length≤9223372036854775807:=hb.1.1.1
 refine ⟨fun h=>R_eq (by grind [QR,m_in]),fun h=>?_⟩
 have hin:m_in m.length 1 8=true:=by grind [m_in]
 refine Zh m (fun r k=>ZQ (YE m k) r=ZQ none m→Qei (fun r'=>r'=JS (QR m)) m k) ?_ ?_ rfl
 ·intro he
  refine Qnx (fun r'=>r'=JS (QR m)) m _ ⟨fun h=>by simp at h,fun _=>?_⟩
  grind [ZQ,QR]
 ·intro k x r hk hlt hg ih he
  refine Qnx (fun r'=>r'=JS (QR m)) m _ ⟨fun _=>?_,fun h=>by simp at h;omega⟩
  rw [Int.toNat_natCast,hg,Qv (x:=(k:Int)+1) (by omega) (by omega)]
  have ep:YE m (k+1)=some x.2.2.1:=by simp [YE,hg]
  rw [ep] at ih
  rcases Nat.eq_zero_or_pos k with h0 | h0
  ·subst h0
   simp only [ZQ,YE,if_true] at he
   grind [QR]
  ·have e2:=QbB h0 (by omega:k≤9223372036854775807)
   simp only [ZQ,YE,if_neg (Nat.ne_of_gt h0)] at he
   grind [QR]
theorem Qd8:Qe Tryz.prog Qa8:=Qk fun x _=>QFF x.1
def QdN (t:Int):TRes:=zre (zci t)
def Qcc:TRow:=Qg 101 [(.a [(.sl ctOp)])] fun x=>(none,QdN (Zn x.1))
def QnC:TTab:=⟨[Qa8],false⟩
def Qvm:TCode :=
 (zsq [(.reg [zop 1 (.box 77 0 1),zmv 2 (zki 0)]),(zsq [(.reg [zLd 3 1 1,zca 4 167 [3],zno 5 4]),(.cond 5 (zsq [(.reg [zmv 2 (zki 0)]),.ret]) .skip)]),(.reg [zfa 6 1 0,zld 7 6 1,zia 8 7 (zki 0) ctOp,zfa 9 8 1,zld 10 9 1,zmv 2 10]),.ret])
def QzH:List (ARv × Md):=[(.t 2,.one .d)]
theorem QBO (m:List TOp') (h :
 (zif (!(QR m)) (K (QdN (0:Int))) (((0:Int)≤(0:Int)∧Int.toNat (0:Int)<m.length)∧K (QdN ((gtd dOp m (Int.toNat (0:Int))).2.1))))):Hold (tawp QnC (0+0) Qvm (TQ 0 0 QzH K) (Qd [(.a [(.c (.sl ctOp) m)])])) :=
 Hold.of (by kernel_rfl) h
theorem QC8 (m:List TOp'):TCon Tryz.prog 101 [(.a [(.c (.sl ctOp) m)])] (QdN (Zn m)):=by
 refine Qi rfl fun hb=>tcg (Γ:=QnC) (n:=11) (sg:=Qcc.sg) Qj (TOkL.cons Qd8 TOkL.nil) (by kernel_rfl) (by kernel_rfl) (QBO _ m ?_)
 have hl_m_0:(m).length≤9223372036854775807:=hb.1.1.1
 refine ⟨fun h=>R_eq (by grind [Zn]),fun h=>?_⟩
 have:=YG (m:=m) (by simpa using h)
 exact ⟨⟨by omega,by simp;omega⟩,R_eq (by simp at h;simp [Zn,h])⟩
theorem QgZ:Qe Tryz.prog Qcc:=Qk fun x _=>QC8 x.1
def QdD (t:Int):TRes:=zre (zci t)
def QfO:TRow:=Qg 102 [(.a [(.sl ctOp)])] fun x=>(none,QdD (ZE x.1))
def Qng:TTab:=⟨[Qa8],false⟩
def QHS:TCode :=
 (zsq [(.reg [zop 1 (.box 77 0 1),zmv 2 (zki 0)]),(zsq [(.reg [zLd 3 1 1,zca 4 167 [3],zno 5 4]),(.cond 5 (zsq [(.reg [zmv 2 (zki 0)]),.ret]) .skip)]),(.reg [zfa 6 1 0,zld 7 6 1,zfa 8 1 0,zld 9 8 1,zle 10 9,zbi 11 .sub 10 (zki 1),zia 12 7 11 ctOp,zfa 13 12 2,zld 14 13 1,zmv 2 14]),.ret])
def QFg:List (ARv × Md):=[(.t 2,.one .d)]
theorem QId (m:List TOp') (h :
 (zif (!(QR m)) (K (QdD (0:Int))) (((0:Int)≤w64 ((m.length:Int)-(1:Int))∧Int.toNat (w64 ((m.length:Int)-(1:Int)))<m.length)∧K (QdD ((gtd dOp m (Int.toNat (w64 ((m.length:Int)-(1:Int))))).2.2.1))))):Hold (tawp Qng (0+0) QHS (TQ 0 0 QFg K) (Qd [(.a [(.c (.sl ctOp) m)])])) :=
 Hold.of (by kernel_rfl) h
theorem Qvx (m:List TOp'):TCon Tryz.prog 102 [(.a [(.c (.sl ctOp) m)])] (QdD (ZE m)):=by
 refine Qi rfl fun hb=>tcg (Γ:=Qng) (n:=15) (sg:=QfO.sg) Qj (TOkL.cons Qd8 TOkL.nil) (by kernel_rfl) (by kernel_rfl) (QId _ m ?_)
 have hl_m_0:(m).length≤9223372036854775807:=hb.1.1.1
 refine ⟨fun h=>R_eq (by grind [ZE]),fun h=>?_⟩
 have:=YG (m:=m) (by simpa using h)
 have e:=QbB this.1 (by omega:m.length≤9223372036854775807)
 rw [e.1]
 exact ⟨⟨e.2,by omega⟩,R_eq (by simp at h;simp [ZE,h])⟩
theorem Qkt:Qe Tryz.prog QfO:=Qk fun x _=>Qvx x.1
end
end Go.Proofs.YtdplaepmjogjjaaGreat.Am

