/- -/
import Derived.Test.YtjbdljkhbglnhaaGreatZDP1
namespace Go.Proofs.YtjbdljkhbglnhaaGreat.Am
open Go Go.RowKit Go.Proofs.YtjbdljkhbglnhaaGreat
set_option linter.all false
noncomputable section
variable (K:TRes→Prop)
def Qbi (t:Int):TRes:=zre (zci t)
def Qkf:TRow:=Qj 202 [(.a ctOp)] fun x=>(none,Qbi (Ya x.1))
def Qnw:List TRow:=[YL]
def QrF:TCode :=
 (.cond 15 (zsq [(.reg [zfa 18 1 1,zld 19 18 1,zfa 20 1 2,zld 21 20 1,zbi 22 .mul 19 21,zmv 2 22]),.ret]) (zsq [(.reg [zbi 24 .eql 14 (zki 2),zmv 23 24]),(.cond 23 (zsq [(.reg [zfa 25 1 1,zld 26 25 1,zmv 2 26]),.ret]) (zsq [(.reg [zbi 28 .eql 14 (zki 4),zmv 27 28]),(.cond 27 (zsq [(.reg [zmv 2 (zki 1)]),.ret]) .skip)]))]))
def QPm:List (Nat × Md):=[(1,.b (zds 4)),(14,.one .d),(15,.one .d)]
def QI5:TCode:=.wk QPm QrF
def QBP:TCode :=
 (zsq [(.reg [zmv 2 (zki 0)]),.ret])
def QFs:TCode :=
 (zsq [(.reg [zop 1 (.box 69 0 4),zmv 2 (zki 0)]),(zsq [(.reg [zfa 3 1 1,zld 4 3 1,zca 5 77 [4,(zki 1),(zki 6)],zno 6 5,zmv 7 6,.grp 7 false [zfa 8 1 2,zld 9 8 1,zca 10 77 [9,(zki 1),(zki 6)],zno 11 10] 12 11]),(.cond 12 (zsq [(.reg [zmv 2 (zki 0)]),.ret]) .skip)]),(zsq [(.reg [zfa 13 1 0,zld 14 13 1]),(.block 0 (zsq [(zsq [(.reg [zbi 16 .eql 14 (zki 1),zmv 15 16]),(.cond 15 .skip (.reg [zbi 17 .eql 14 (zki 5),zmv 15 17]))]),QI5]))]),QBP])
def Qzm:List (ARv × Md):=[(.t 2,.one .d)]
def QAJ:Qb:=TQ 0 0 Qzm K
def QNS:Qb:=Qseq (tawp Qnw 0 QBP (QAJ K)) (QAJ K)
def QXr:Qb:=Qblk 0 (QNS K)
def Qm9 (o:TOp') (x:Bool):Prop:=tawp Qnw 0 QrF (QXr K) ⟨[(1,(.p 0 0 0)),(14,(zci o.1)),(15,(zcb x))],[(0,(.box (Tup.cells ctOp o)))],1⟩
theorem QD1 (o:TOp') (x:Bool) (h :
 (zif x (K (Qbi (w64 (o.2.1*o.2.2.1)))) (zif (o.1==(2:Int)) (K (Qbi o.2.1)) (zif (o.1==(4:Int)) (K (Qbi (1:Int))) (K (Qbi (0:Int))))))):Hold (Qm9 K o x) :=
 Hold.of (by kernel_rfl) h
theorem QR1 (o:TOp') (h :
 (zif ((!(m_in o.2.1 (1:Int) (6:Int)))||(!(m_in o.2.2.1 (1:Int) (6:Int)))) (K (Qbi (0:Int))) (zif (o.1==(1:Int)) (Qm9 K o (o.1==(1:Int))) (Qm9 K o (o.1==(5:Int)))))):Hold (tawp Qnw (0+0) QFs (TQ 0 0 Qzm K) (Qh [(.a (Tup.cells ctOp o))])) :=
 Hold.of (by kernel_rfl) h
theorem QUP (o:TOp'):TCon Tryz.prog 202 [(.a (Tup.cells ctOp o))] (Qbi (Ya o)):=by
 refine Qo rfl fun hb=>tcg (n:=29) (sg:=Qkf.sg) Ql (TOk.cons Y2 TOk.nil) (by kernel_rfl) (by kernel_rfl) (QR1 _ o ?_)
 have hl_o_3:(o.2.2.2).length≤9223372036854775807:=hb.1.2.2.2.1.1
 refine ⟨fun h=>R_eq (by grind [Ya]),fun h=>?_⟩
 have hi:m_in o.2.1 1 6=true∧m_in o.2.2.1 1 6=true:=by simpa using h
 have hm:=Qc5 (QS.1 hi.1).1 (QS.1 hi.1).2 (QS.1 hi.2).1 (QS.1 hi.2).2
 have hw:=Qt (x:=o.2.1*o.2.2.1) (by omega) (by omega)
 refine ⟨fun h1=>(QD1 (fun r'=>r'=Qbi (Ya o)) o _ ?_).h,fun h1=>(QD1 (fun r'=>r'=Qbi (Ya o)) o _ ?_).h⟩ <;> grind [Ya]
theorem Qri:Qi Tryz.prog Qkf:=Qm fun x _=>QUP x.1
def Qa0 (t:Int):TRes:=zre (zci t)
def Qo7:TRow:=Qj 221 [(.a ctOp)] fun x=>(none,Qa0 (Ya x.1))
def Qpz:List TRow:=[]
def QyX:TCode :=
 (.cond 23 (zsq [(.reg [zfa 26 1 1,zld 27 26 1,zfa 28 1 2,zld 29 28 1,zbi 30 .mul 27 29,zmv 2 30]),.ret]) (zsq [(.reg [zbi 32 .eql 22 (zki 2),zmv 31 32]),(.cond 31 (zsq [(.reg [zfa 33 1 1,zld 34 33 1,zmv 2 34]),.ret]) (zsq [(.reg [zbi 36 .eql 22 (zki 4),zmv 35 36]),(.cond 35 (zsq [(.reg [zmv 2 (zki 1)]),.ret]) .skip)]))]))
def QJu:List (Nat × Md):=[(1,.b (zds 4)),(22,.one .d),(23,.one .d)]
def QMO:TCode:=.wk QJu QyX
def Qtw:TCode :=
 (zsq [(.reg [zmv 2 (zki 0)]),.ret])
def QLh:TCode :=
 (zsq [(.reg [zop 1 (.box 69 0 4),zmv 2 (zki 0)]),(zsq [(.reg [zfa 3 1 1,zld 4 3 1,zbi 5 .lss 4 (zki 1),zmv 6 5,.grp 6 false [zfa 7 1 1,zld 8 7 1,zbi 9 .gtr 8 (zki 6)] 10 9,zmv 11 10,.grp 11 false [zfa 12 1 2,zld 13 12 1,zbi 14 .lss 13 (zki 1)] 15 14,zmv 16 15,.grp 16 false [zfa 17 1 2,zld 18 17 1,zbi 19 .gtr 18 (zki 6)] 20 19]),(.cond 20 (zsq [(.reg [zmv 2 (zki 0)]),.ret]) .skip)]),(zsq [(.reg [zfa 21 1 0,zld 22 21 1]),(.block 0 (zsq [(zsq [(.reg [zbi 24 .eql 22 (zki 1),zmv 23 24]),(.cond 23 .skip (.reg [zbi 25 .eql 22 (zki 5),zmv 23 25]))]),QMO]))]),Qtw])
def QBn:List (ARv × Md):=[(.t 2,.one .d)]
def Qw2:Qb:=TQ 0 0 QBn K
def QW0:Qb:=Qseq (tawp Qpz 0 Qtw (Qw2 K)) (Qw2 K)
def QIR:Qb:=Qblk 0 (QW0 K)
def QoU (o:TOp') (x:Bool):Prop:=tawp Qpz 0 QyX (QIR K) ⟨[(1,(.p 0 0 0)),(22,(zci o.1)),(23,(zcb x))],[(0,(.box (Tup.cells ctOp o)))],1⟩
theorem QzZ (o:TOp') (x:Bool) (h :
 (zif x (K (Qa0 (w64 (o.2.1*o.2.2.1)))) (zif (o.1==(2:Int)) (K (Qa0 o.2.1)) (zif (o.1==(4:Int)) (K (Qa0 (1:Int))) (K (Qa0 (0:Int))))))):Hold (QoU K o x) :=
 Hold.of (by kernel_rfl) h
theorem QGN (o:TOp') (h :
 (zif ((((decide (o.2.1<(1:Int)))||(decide (o.2.1>(6:Int))))||(decide (o.2.2.1<(1:Int))))||(decide (o.2.2.1>(6:Int)))) (K (Qa0 (0:Int))) (zif (o.1==(1:Int)) (QoU K o (o.1==(1:Int))) (QoU K o (o.1==(5:Int)))))):Hold (tawp Qpz (0+0) QLh (TQ 0 0 QBn K) (Qh [(.a (Tup.cells ctOp o))])) :=
 Hold.of (by kernel_rfl) h
theorem QQ4 (o:TOp'):TCon Tryz.prog 221 [(.a (Tup.cells ctOp o))] (Qa0 (Ya o)):=by
 refine Qo rfl fun hb=>tcg (n:=37) (sg:=Qo7.sg) Ql TOk.nil (by kernel_rfl) (by kernel_rfl) (QGN _ o ?_)
 have hl_o_3:(o.2.2.2).length≤9223372036854775807:=hb.1.2.2.2.1.1
 refine ⟨fun h=>R_eq (by grind [Ya,m_in]),fun h=>?_⟩
 have hi:m_in o.2.1 1 6=true∧m_in o.2.2.1 1 6=true:=by grind [m_in]
 have hm:=Qc5 (QS.1 hi.1).1 (QS.1 hi.1).2 (QS.1 hi.2).1 (QS.1 hi.2).2
 have hw:=Qt (x:=o.2.1*o.2.2.1) (by omega) (by omega)
 refine ⟨fun h1=>(QzZ (fun r'=>r'=Qa0 (Ya o)) o _ ?_).h,fun h1=>(QzZ (fun r'=>r'=Qa0 (Ya o)) o _ ?_).h⟩ <;> grind [Ya]
theorem QJN:Qi Tryz.prog Qo7:=Qm fun x _=>QQ4 x.1
def Qcd (t:Bool):TRes:=zre (zcb t)
def Qgy:TRow:=Qj 152 [(.a ctOp)] fun x=>(none,Qcd (Zd x.1))
def QkN:List TRow:=[YL,Qkf,Qen]
def QCk:TCode :=
 (zsq [(zsq [(.reg [zmv 40 3,zfa 41 1 3,zld 42 41 1,zle 43 42,zbi 44 .lss 40 43]),(.cond 44 .skip (.exit 0))]),(.block 1 (zsq [(.reg [zfa 47 1 3,zld 48 47 1,zmv 49 3,zia 50 48 49 [TI],zld 51 50 1,zca 52 110 [51],zno 53 52]),(.cond 53 (zsq [(.reg [zmv 2 (zkb false)]),.ret]) .skip)])),(.reg [zmv 45 3,zbi 46 .add 45 (zki 1),zmv 3 46])])
def QDg:List (Nat × Md):=[(1,.b (zds 4)),(3,.one .d)]
def QEb:TCode :=
 (zsq [(.reg [zmv 2 (zkb true)]),.ret])
def QVw:TCode :=
 (zsq [(.reg [zop 1 (.box 69 0 4),zmv 2 (zkb false)]),(zsq [(.draw [zfa 4 1 0,zld 5 4 1,zca 6 77 [5,(zki 1),(zki 5)],zno 7 6,zmv 8 7,.grp 8 false [zfa 9 1 1,zld 10 9 1,zca 11 77 [10,(zki 1),(zki 6)],zno 12 11] 13 12,zmv 14 13,.grp 14 false [zfa 15 1 2,zld 16 15 1,zca 17 77 [16,(zki 1),(zki 6)],zno 18 17] 19 18,zmv 20 19,.grp 20 false [zfa 21 1 0,zld 22 21 1,zbi 23 .neq 22 (zki 1),zmv 24 23,.grp 24 true [zfa 25 1 1,zld 26 25 1,zfa 27 1 2,zld 28 27 1,zbi 29 .neq 26 28] 30 29] 31 30,zmv 32 31,.grp 32 false [zfa 33 1 3,zld 34 33 1,zle 35 34,zLd 36 1 4,zca 37 202 [36],zbi 38 .neq 35 37] 39 38] [(29,33),(30,33),(31,33)]),(.cond 39 (zsq [(.reg [zmv 2 (zkb false)]),.ret]) .skip)]),(zsq [(.reg [zmv 3 (zki 0)]),(.block 0 (.loop QDg QCk))]),QEb])
def Qs3:List (ARv × Md):=[(.t 2,.one .d)]
def QDT:Qb:=TQ 0 0 Qs3 K
def QKS:Qb:=Qseq (tawp QkN 0 QEb (QDT K)) (QDT K)
def QMv:Qb:=Qblk 0 (QKS K)
def Qqv (o:TOp') (i:Int):Prop:=Loop QkN 0 QDg QCk (QMv K) ⟨[(1,(.p 0 0 0)),(3,(zci i))],[(0,(.box (Tup.cells ctOp o)))],1⟩
theorem QWL (o:TOp') (i:Int) (h :
 (zif (decide (i<((o.2.2.2).length:Int))) (((0:Int)≤i∧Int.toNat i<(o.2.2.2).length)∧(zif (!(Zb (gtd (0:Int) o.2.2.2 (Int.toNat i)))) (K (Qcd false)) (Qqv K o (w64 (i+(1:Int)))))) (K (Qcd true)))):Qqv K o i :=
 Loop.of (by kernel_rfl) h
theorem QYu (o:TOp') (h :
 (zif (((((!(m_in o.1 (1:Int) (5:Int)))||(!(m_in o.2.1 (1:Int) (6:Int))))||(!(m_in o.2.2.1 (1:Int) (6:Int))))||((o.1 != (1:Int))&&(o.2.1 != o.2.2.1)))||(((o.2.2.2).length:Int) != (Ya o))) (K (Qcd false)) (Qqv K o 0))):Hold (tawp QkN (0+0) QVw (TQ 0 0 Qs3 K) (Qh [(.a (Tup.cells ctOp o))])) :=
 Hold.of (by kernel_rfl) h
theorem QIf (o:TOp'):TCon Tryz.prog 152 [(.a (Tup.cells ctOp o))] (Qcd (Zd o)):=by
 refine Qo rfl fun hb=>tcg (n:=54) (sg:=Qgy.sg) Ql (TOk.cons Y2 (TOk.cons Qri (TOk.cons Qhr TOk.nil))) (by kernel_rfl) (by kernel_rfl) (QYu _ o ?_)
 have hl_o_3:(o.2.2.2).length≤9223372036854775807:=hb.1.2.2.2.1.1
 refine ⟨fun h=>R_eq (by grind [Zd]),fun h=>?_⟩
 exact Qb4 (Q:=fun x=>Qcd x=Qcd (Zd o)) (p:=Zb) (c:=fun x=>!(Zb x)) 0 hl_o_3 (fun _=>rfl) (fun i h=>QWL (fun r'=>r'=Qcd (Zd o)) o i h) (R_eq (by grind [Zd,ZD]))
theorem QkZ:Qi Tryz.prog Qgy:=Qm fun x _=>QIf x.1
def Qfp (t:Bool):TRes:=zre (zcb t)
def QeY:TRow:=Qj 194 [(.a ctOp)] fun x=>(none,Qfp (Zd x.1))
def QWm:List TRow:=[Qo7,QfQ]
def QRI:TCode :=
 (zsq [(.reg [zop 1 (.box 69 0 4),zmv 2 (zkb false)]),(zsq [(.reg [zfa 3 1 0,zld 4 3 1,zbi 5 .lss 4 (zki 1),zmv 6 5,.grp 6 false [zfa 7 1 0,zld 8 7 1,zbi 9 .gtr 8 (zki 5)] 10 9,zmv 11 10,.grp 11 false [zfa 12 1 1,zld 13 12 1,zbi 14 .lss 13 (zki 1)] 15 14,zmv 16 15,.grp 16 false [zfa 17 1 1,zld 18 17 1,zbi 19 .gtr 18 (zki 6)] 20 19,zmv 21 20,.grp 21 false [zfa 22 1 2,zld 23 22 1,zbi 24 .lss 23 (zki 1)] 25 24,zmv 26 25,.grp 26 false [zfa 27 1 2,zld 28 27 1,zbi 29 .gtr 28 (zki 6)] 30 29]),(.cond 30 (zsq [(.reg [zmv 2 (zkb false)]),.ret]) .skip)]),(zsq [(.reg [zfa 31 1 0,zld 32 31 1,zbi 33 .neq 32 (zki 1),zmv 34 33,.grp 34 true [zfa 35 1 1,zld 36 35 1,zfa 37 1 2,zld 38 37 1,zbi 39 .neq 36 38] 40 39]),(.cond 40 (zsq [(.reg [zmv 2 (zkb false)]),.ret]) .skip)]),(.draw [zfa 41 1 3,zld 42 41 1,zle 43 42,zLd 44 1 4,zca 45 221 [44],zbi 46 .eql 43 45,zmv 47 46,.grp 47 true [zfa 48 1 3,zld 49 48 1,zca 50 195 [49]] 51 50,zmv 2 51] [(0,4),(1,4),(2,4)]),.ret])
def QI0:List (ARv × Md):=[(.t 2,.one .d)]
theorem QTJ (o:TOp') (h :
 (zif ((((((decide (o.1<(1:Int)))||(decide (o.1>(5:Int))))||(decide (o.2.1<(1:Int))))||(decide (o.2.1>(6:Int))))||(decide (o.2.2.1<(1:Int))))||(decide (o.2.2.1>(6:Int)))) (K (Qfp false)) (zif ((o.1 != (1:Int))&&(o.2.1 != o.2.2.1)) (K (Qfp false)) (K (Qfp ((((o.2.2.2).length:Int)==(Ya o))&&(ZD o.2.2.2))))))):Hold (tawp QWm (0+0) QRI (TQ 0 0 QI0 K) (Qh [(.a (Tup.cells ctOp o))])) :=
 Hold.of (by kernel_rfl) h
theorem QRE (o:TOp'):TCon Tryz.prog 194 [(.a (Tup.cells ctOp o))] (Qfp (Zd o)):=by
 refine Qo rfl fun hb=>tcg (n:=52) (sg:=QeY.sg) Ql (TOk.cons QJN (TOk.cons Qpt TOk.nil)) (by kernel_rfl) (by kernel_rfl) (QTJ _ o ?_)
 have hl_o_3:(o.2.2.2).length≤9223372036854775807:=hb.1.2.2.2.1.1
 grind [Zd,m_in]
theorem Qk6:Qi Tryz.prog QeY:=Qm fun x _=>QRE x.1
def Qcz (t:Bool):TRes:=zre (zcb t)
def QaD:TRow:=Qj 74 [(.a [(.sl ctOp)])] fun x=>(none,Qcz (QU x.1))
def Qo6:List TRow:=[Qgy,YL]
def QC7:TCode :=
 (zsq [(zsq [(.reg [zmv 4 3,zfa 5 1 0,zld 6 5 1,zle 7 6,zbi 8 .lss 4 7]),(.cond 8 .skip (.exit 0))]),(.block 1 (zsq [(.draw [zfa 11 1 0,zld 12 11 1,zmv 13 3,zia 14 12 13 ctOp,zLd 15 14 4,zca 16 152 [15],zno 17 16,zmv 18 17,.grp 18 false [zmv 19 3,zbi 20 .gtr 19 (zki 0),zmv 21 20,.grp 21 true [zfa 22 1 0,zld 23 22 1,zmv 24 3,zia 25 23 24 ctOp,zfa 26 25 1,zld 27 26 1,zfa 28 1 0,zld 29 28 1,zmv 30 3,zbi 31 .sub 30 (zki 1),zia 32 29 31 ctOp,zfa 33 32 2,zld 34 33 1,zbi 35 .neq 27 34] 36 35] 37 36] []),(.cond 37 (zsq [(.reg [zmv 2 (zkb false)]),.ret]) .skip)])),(.reg [zmv 9 3,zbi 10 .add 9 (zki 1),zmv 3 10])])
def QEW:List (Nat × Md):=[(1,.b [.d]),(3,.one .d)]
def QyS:TCode :=
 (zsq [(.reg [zfa 38 1 0,zld 39 38 1,zle 40 39,zca 41 77 [40,(zki 1),(zki 8)],zmv 2 41]),.ret])
def QFR:TCode :=
 (zsq [(.reg [zop 1 (.box 26 0 1),zmv 2 (zkb false)]),(zsq [(.reg [zmv 3 (zki 0)]),(.block 0 (.loop QEW QC7))]),QyS])
def QtG:List (ARv × Md):=[(.t 2,.one .d)]
def QD8:Qb:=TQ 0 0 QtG K
def QG3:Qb:=Qseq (tawp Qo6 0 QyS (QD8 K)) (QD8 K)
def QMw:Qb:=Qblk 0 (QG3 K)
def QgC (m:List TOp') (i:Int):Prop:=Loop Qo6 0 QEW QC7 (QMw K) ⟨[(1,(.p 0 0 0)),(3,(zci i))],[(0,(.box [(zcs ctOp m)]))],1⟩
theorem Qxb (m:List TOp') (i:Int) (h :
 (zif (decide (i<(m.length:Int))) ((((0:Int)≤i∧Int.toNat i<m.length)∧((!(!(Zd (gtd dOp m (Int.toNat i)))))=true→((decide (i>(0:Int)))=true→(((0:Int)≤i∧Int.toNat i<m.length)∧((0:Int)≤w64 (i-(1:Int))∧Int.toNat (w64 (i-(1:Int)))<m.length)))))∧(zif ((!(Zd (gtd dOp m (Int.toNat i))))||((decide (i>(0:Int)))&&(((gtd dOp m (Int.toNat i)).2.1) != ((gtd dOp m (Int.toNat (w64 (i-(1:Int))))).2.2.1)))) (K (Qcz false)) (QgC K m (w64 (i+(1:Int)))))) (K (Qcz (m_in (m.length:Int) (1:Int) (8:Int)))))):QgC K m i :=
 Loop.of (by kernel_rfl) h
theorem QKU (m:List TOp') (h :
 (QgC K m 0)):Hold (tawp Qo6 (0+0) QFR (TQ 0 0 QtG K) (Qh [(.a [(.c (.sl ctOp) m)])])) :=
 Hold.of (by kernel_rfl) h
theorem QJ7 (m:List TOp'):TCon Tryz.prog 74 [(.a [(.c (.sl ctOp) m)])] (Qcz (QU m)):=by
 refine Qo rfl fun hb=>tcg (n:=42) (sg:=QaD.sg) Ql (TOk.cons QkZ (TOk.cons Y2 TOk.nil)) (by kernel_rfl) (by kernel_rfl) (QKU _ m ?_)
 have hl_m_0:(m).length≤9223372036854775807:=hb.1.1.1
 refine Zj m (fun r k=>Yx (QaR m k) r=Yx none m→QgC (fun r'=>r'=Qcz (QU m)) m k) ?_ ?_ rfl
 ·intro he
  refine Qxb (fun r'=>r'=Qcz (QU m)) m _ ⟨fun h=>by simp at h,fun _=>?_⟩
  grind [Yx,QU]
 ·intro k x r hk hlt hg ih he
  refine Qxb (fun r'=>r'=Qcz (QU m)) m _ ⟨fun _=>?_,fun h=>by simp at h;omega⟩
  rw [Int.toNat_natCast,hg,Qt (x:=(k:Int)+1) (by omega) (by omega)]
  have ep:QaR m (k+1)=some x.2.2.1:=by simp [QaR,hg]
  rw [ep] at ih
  rcases Nat.eq_zero_or_pos k with h0 | h0
  ·subst h0
   simp only [Yx,QaR,if_true] at he
   grind [QU]
  ·have e2:=Qbn h0 (by omega:k≤9223372036854775807)
   simp only [Yx,QaR,if_neg (Nat.ne_of_gt h0)] at he
   grind [QU]
theorem QbU:Qi Tryz.prog QaD:=Qm fun x _=>QJ7 x.1
def QbS (t:Bool):TRes:=zre (zcb t)
def Qez:TRow:=Qj 131 [(.a [(.sl ctOp)])] fun x=>(none,QbS (QU x.1))
def QmF:List TRow:=[QeY]
def Qwr:TCode :=
 (zsq [(.reg [zbi 19 .lss 18 17]),(.cond 19 .skip (.exit 0)),(.block 1 (zsq [(.reg [zmv 20 18,zia 21 16 18 ctOp,zLd 22 21 4,zop 4 (.new 69 (z0s ctOp)),zmv 3 20,zst 4 22 4]),(.draw [zLd 23 4 4,zca 24 194 [23],zno 25 24,zmv 26 25,.grp 26 false [zmv 27 3,zbi 28 .gtr 27 (zki 0),zmv 29 28,.grp 29 true [zfa 30 1 0,zld 31 30 1,zmv 32 3,zbi 33 .sub 32 (zki 1),zia 34 31 33 ctOp,zfa 35 34 2,zld 36 35 1,zfa 37 4 1,zld 38 37 1,zbi 39 .neq 36 38] 40 39] 41 40] []),(.cond 41 (zsq [(.reg [zmv 2 (zkb false)]),.ret]) .skip)])),(.reg [zbi 42 .add 18 (zki 1),zmv 18 42])])
def QAg:List (Nat × Md):=[(1,.b [.d]),(16,.one .d),(17,.one .d),(18,.one .d)]
def Qya:TCode :=
 (zsq [(.reg [zmv 2 (zkb true)]),.ret])
def QYB:TCode :=
 (zsq [(.reg [zop 1 (.box 26 0 1),zmv 2 (zkb false)]),(zsq [(.reg [zfa 5 1 0,zld 6 5 1,zle 7 6,zbi 8 .lss 7 (zki 1),zmv 9 8,.grp 9 false [zfa 10 1 0,zld 11 10 1,zle 12 11,zbi 13 .gtr 12 (zki 8)] 14 13]),(.cond 14 (zsq [(.reg [zmv 2 (zkb false)]),.ret]) .skip)]),(zsq [(.reg [zfa 15 1 0,zld 16 15 1,zle 17 16,zmv 18 (zki 0)]),(.block 0 (.loop QAg Qwr))]),Qya])
def QrL:List (ARv × Md):=[(.t 2,.one .d)]
def Qy3:Qb:=TQ 0 0 QrL K
def QK0:Qb:=Qseq (tawp QmF 0 Qya (Qy3 K)) (Qy3 K)
def QFt:Qb:=Qblk 0 (QK0 K)
def Qkm (m:List TOp') (x:Int):Prop:=Loop QmF 0 QAg Qwr (QFt K) ⟨[(1,(.p 0 0 0)),(16,(zcs ctOp m)),(17,(zci (m.length:Int))),(18,(zci x))],[(0,(.box [(zcs ctOp m)]))],1⟩
theorem QwD (m:List TOp') (x:Int) (h :
 (zif (decide (x<(m.length:Int))) (((0:Int)≤x∧Int.toNat x<m.length)∧(((!(!(Zd (gtd dOp m (Int.toNat x)))))=true→((decide (x>(0:Int)))=true→((0:Int)≤w64 (x-(1:Int))∧Int.toNat (w64 (x-(1:Int)))<m.length)))∧(zif ((!(Zd (gtd dOp m (Int.toNat x))))||((decide (x>(0:Int)))&&(((gtd dOp m (Int.toNat (w64 (x-(1:Int))))).2.2.1) != ((gtd dOp m (Int.toNat x)).2.1)))) (K (QbS false)) (Qkm K m (w64 (x+(1:Int))))))) (K (QbS true)))):Qkm K m x :=
 Loop.of (by kernel_rfl) h
theorem QQo (m:List TOp') (h :
 (zif ((decide ((m.length:Int)<(1:Int)))||(decide ((m.length:Int)>(8:Int)))) (K (QbS false)) (Qkm K m 0))):Hold (tawp QmF (0+0) QYB (TQ 0 0 QrL K) (Qh [(.a [(.c (.sl ctOp) m)])])) :=
 Hold.of (by kernel_rfl) h
theorem QSy (m:List TOp'):TCon Tryz.prog 131 [(.a [(.c (.sl ctOp) m)])] (QbS (QU m)):=by
 refine Qo rfl fun hb=>tcg (n:=43) (sg:=Qez.sg) Ql (TOk.cons Qk6 TOk.nil) (by kernel_rfl) (by kernel_rfl) (QQo _ m ?_)
 have hl_m_0:(m).length≤9223372036854775807:=hb.1.1.1
 refine ⟨fun h=>R_eq (by grind [QU,m_in]),fun h=>?_⟩
 have hin:m_in m.length 1 8=true:=by grind [m_in]
 refine Zj m (fun r k=>Yx (QaR m k) r=Yx none m→Qkm (fun r'=>r'=QbS (QU m)) m k) ?_ ?_ rfl
 ·intro he
  refine QwD (fun r'=>r'=QbS (QU m)) m _ ⟨fun h=>by simp at h,fun _=>?_⟩
  grind [Yx,QU]
 ·intro k x r hk hlt hg ih he
  refine QwD (fun r'=>r'=QbS (QU m)) m _ ⟨fun _=>?_,fun h=>by simp at h;omega⟩
  rw [Int.toNat_natCast,hg,Qt (x:=(k:Int)+1) (by omega) (by omega)]
  have ep:QaR m (k+1)=some x.2.2.1:=by simp [QaR,hg]
  rw [ep] at ih
  rcases Nat.eq_zero_or_pos k with h0 | h0
  ·subst h0
   simp only [Yx,QaR,if_true] at he
   grind [QU]
  ·have e2:=Qbn h0 (by omega:k≤9223372036854775807)
   simp only [Yx,QaR,if_neg (Nat.ne_of_gt h0)] at he
   grind [QU]
theorem QhF:Qi Tryz.prog Qez:=Qm fun x _=>QSy x.1
def Qit (t:Int):TRes:=zre (zci t)
def Qfo:TRow:=Qj 115 [(.a [(.sl ctOp)])] fun x=>(none,Qit (Q6 x.1))
def QO2:List TRow:=[Qez]
def QSq:TCode :=
 (zsq [(.reg [zop 1 (.box 26 0 1),zmv 2 (zki 0)]),(zsq [(.reg [zLd 3 1 1,zca 4 131 [3],zno 5 4]),(.cond 5 (zsq [(.reg [zmv 2 (zki 0)]),.ret]) .skip)]),(.reg [zfa 6 1 0,zld 7 6 1,zia 8 7 (zki 0) ctOp,zfa 9 8 1,zld 10 9 1,zmv 2 10]),.ret])
def QPb:List (ARv × Md):=[(.t 2,.one .d)]
theorem QSr (m:List TOp') (h :
 (zif (!(QU m)) (K (Qit (0:Int))) (((0:Int)≤(0:Int)∧Int.toNat (0:Int)<m.length)∧K (Qit ((gtd dOp m (Int.toNat (0:Int))).2.1))))):Hold (tawp QO2 (0+0) QSq (TQ 0 0 QPb K) (Qh [(.a [(.c (.sl ctOp) m)])])) :=
 Hold.of (by kernel_rfl) h
theorem QFG (m:List TOp'):TCon Tryz.prog 115 [(.a [(.c (.sl ctOp) m)])] (Qit (Q6 m)):=by
 refine Qo rfl fun hb=>tcg (n:=11) (sg:=Qfo.sg) Ql (TOk.cons QhF TOk.nil) (by kernel_rfl) (by kernel_rfl) (QSr _ m ?_)
 have hl_m_0:(m).length≤9223372036854775807:=hb.1.1.1
 refine ⟨fun h=>R_eq (by grind [Q6]),fun h=>?_⟩
 have:=Yn (m:=m) (by simpa using h)
 exact ⟨⟨by omega,by simp;omega⟩,R_eq (by simp at h;simp [Q6,h])⟩
theorem QpJ:Qi Tryz.prog Qfo:=Qm fun x _=>QFG x.1
def QhX (t:Int):TRes:=zre (zci t)
def Qhc:TRow:=Qj 153 [(.a [(.sl ctOp)])] fun x=>(none,QhX (Q6 x.1))
def QIP:List TRow:=[QaD]
def QRz:TCode :=
 (zsq [(.reg [zop 1 (.box 26 0 1),zmv 2 (zki 0)]),(zsq [(.reg [zLd 3 1 1,zca 4 74 [3],zno 5 4]),(.cond 5 (zsq [(.reg [zmv 2 (zki 0)]),.ret]) .skip)]),(.reg [zfa 6 1 0,zld 7 6 1,zia 8 7 (zki 0) ctOp,zfa 9 8 1,zld 10 9 1,zmv 2 10]),.ret])
def QTb:List (ARv × Md):=[(.t 2,.one .d)]
theorem QUe (m:List TOp') (h :
 (zif (!(QU m)) (K (QhX (0:Int))) (((0:Int)≤(0:Int)∧Int.toNat (0:Int)<m.length)∧K (QhX ((gtd dOp m (Int.toNat (0:Int))).2.1))))):Hold (tawp QIP (0+0) QRz (TQ 0 0 QTb K) (Qh [(.a [(.c (.sl ctOp) m)])])) :=
 Hold.of (by kernel_rfl) h
theorem QWp (m:List TOp'):TCon Tryz.prog 153 [(.a [(.c (.sl ctOp) m)])] (QhX (Q6 m)):=by
 refine Qo rfl fun hb=>tcg (n:=11) (sg:=Qhc.sg) Ql (TOk.cons QbU TOk.nil) (by kernel_rfl) (by kernel_rfl) (QUe _ m ?_)
 have hl_m_0:(m).length≤9223372036854775807:=hb.1.1.1
 refine ⟨fun h=>R_eq (by grind [Q6]),fun h=>?_⟩
 have:=Yn (m:=m) (by simpa using h)
 exact ⟨⟨by omega,by simp;omega⟩,R_eq (by simp at h;simp [Q6,h])⟩
theorem QBf:Qi Tryz.prog Qhc:=Qm fun x _=>QWp x.1
def QjL (t:Int):TRes:=zre (zci t)
def QfP:TRow:=Qj 117 [(.a [(.sl ctOp)])] fun x=>(none,QjL (Q5 x.1))
def QXP:List TRow:=[Qez]
def QQm:TCode :=
 (zsq [(.reg [zop 1 (.box 26 0 1),zmv 2 (zki 0)]),(zsq [(.reg [zLd 3 1 1,zca 4 131 [3],zno 5 4]),(.cond 5 (zsq [(.reg [zmv 2 (zki 0)]),.ret]) .skip)]),(.reg [zfa 6 1 0,zld 7 6 1,zfa 8 1 0,zld 9 8 1,zle 10 9,zbi 11 .sub 10 (zki 1),zia 12 7 11 ctOp,zfa 13 12 2,zld 14 13 1,zmv 2 14]),.ret])
def QUs:List (ARv × Md):=[(.t 2,.one .d)]
theorem QJx (m:List TOp') (h :
 (zif (!(QU m)) (K (QjL (0:Int))) (((0:Int)≤w64 ((m.length:Int)-(1:Int))∧Int.toNat (w64 ((m.length:Int)-(1:Int)))<m.length)∧K (QjL ((gtd dOp m (Int.toNat (w64 ((m.length:Int)-(1:Int))))).2.2.1))))):Hold (tawp QXP (0+0) QQm (TQ 0 0 QUs K) (Qh [(.a [(.c (.sl ctOp) m)])])) :=
 Hold.of (by kernel_rfl) h
theorem QKy (m:List TOp'):TCon Tryz.prog 117 [(.a [(.c (.sl ctOp) m)])] (QjL (Q5 m)):=by
 refine Qo rfl fun hb=>tcg (n:=15) (sg:=QfP.sg) Ql (TOk.cons QhF TOk.nil) (by kernel_rfl) (by kernel_rfl) (QJx _ m ?_)
 have hl_m_0:(m).length≤9223372036854775807:=hb.1.1.1
 refine ⟨fun h=>R_eq (by grind [Q5]),fun h=>?_⟩
 have:=Yn (m:=m) (by simpa using h)
 have e:=Qbn this.1 (by omega:m.length≤9223372036854775807)
 rw [e.1]
 exact ⟨⟨e.2,by omega⟩,R_eq (by simp at h;simp [Q5,h])⟩
theorem Qqf:Qi Tryz.prog QfP:=Qm fun x _=>QKy x.1
def Qix (t:Int):TRes:=zre (zci t)
def Qi2:TRow:=Qj 154 [(.a [(.sl ctOp)])] fun x=>(none,Qix (Q5 x.1))
def QTY:List TRow:=[QaD]
def QKk:TCode :=
 (zsq [(.reg [zop 1 (.box 26 0 1),zmv 2 (zki 0)]),(zsq [(.reg [zLd 3 1 1,zca 4 74 [3],zno 5 4]),(.cond 5 (zsq [(.reg [zmv 2 (zki 0)]),.ret]) .skip)]),(.reg [zfa 6 1 0,zld 7 6 1,zfa 8 1 0,zld 9 8 1,zle 10 9,zbi 11 .sub 10 (zki 1),zia 12 7 11 ctOp,zfa 13 12 2,zld 14 13 1,zmv 2 14]),.ret])
def QTy:List (ARv × Md):=[(.t 2,.one .d)]
theorem QHW (m:List TOp') (h :
 (zif (!(QU m)) (K (Qix (0:Int))) (((0:Int)≤w64 ((m.length:Int)-(1:Int))∧Int.toNat (w64 ((m.length:Int)-(1:Int)))<m.length)∧K (Qix ((gtd dOp m (Int.toNat (w64 ((m.length:Int)-(1:Int))))).2.2.1))))):Hold (tawp QTY (0+0) QKk (TQ 0 0 QTy K) (Qh [(.a [(.c (.sl ctOp) m)])])) :=
 Hold.of (by kernel_rfl) h
theorem QYg (m:List TOp'):TCon Tryz.prog 154 [(.a [(.c (.sl ctOp) m)])] (Qix (Q5 m)):=by
 refine Qo rfl fun hb=>tcg (n:=15) (sg:=Qi2.sg) Ql (TOk.cons QbU TOk.nil) (by kernel_rfl) (by kernel_rfl) (QHW _ m ?_)
 have hl_m_0:(m).length≤9223372036854775807:=hb.1.1.1
 refine ⟨fun h=>R_eq (by grind [Q5]),fun h=>?_⟩
 have:=Yn (m:=m) (by simpa using h)
 have e:=Qbn this.1 (by omega:m.length≤9223372036854775807)
 rw [e.1]
 exact ⟨⟨e.2,by omega⟩,R_eq (by simp at h;simp [Q5,h])⟩
theorem QAW:Qi Tryz.prog Qi2:=Qm fun x _=>QYg x.1
end
end Go.Proofs.YtjbdljkhbglnhaaGreat.Am

