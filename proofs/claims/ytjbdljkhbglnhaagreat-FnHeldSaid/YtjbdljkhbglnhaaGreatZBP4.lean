/- -/
import Derived.Test.YtjbdljkhbglnhaaGreatZBP1
namespace Go.Proofs.YtjbdljkhbglnhaaGreat.Am
open Go Go.RowKit Go.Proofs.YtjbdljkhbglnhaaGreat
set_option linter.all false
noncomputable section
variable (K:TRes→Prop)
def Qa2 (t:Int):TRes:=zre (zci t)
def QhP:TRow:=Qi 202 [(.a ctOp)] fun x=>(none,Qa2 (Z1 x.1))
def Ql3:List TRow:=[J2]
def Qrv:TCode :=
 (.cond 15 (zsq [(.reg [zfa 18 1 1,zld 19 18 1,zfa 20 1 2,zld 21 20 1,zbi 22 .mul 19 21,zmv 2 22]),.ret]) (zsq [(.reg [zbi 24 .eql 14 (zki 2),zmv 23 24]),(.cond 23 (zsq [(.reg [zfa 25 1 1,zld 26 25 1,zmv 2 26]),.ret]) (zsq [(.reg [zbi 28 .eql 14 (zki 4),zmv 27 28]),(.cond 27 (zsq [(.reg [zmv 2 (zki 1)]),.ret]) .skip)]))]))
def QAV:List (Nat × Md):=[(1,.b (zds 4)),(14,.one .d),(15,.one .d)]
def QIZ:TCode:=.wk QAV Qrv
def Qw7:TCode :=
 (zsq [(.reg [zmv 2 (zki 0)]),.ret])
def QIx:TCode :=
 (zsq [(.reg [zop 1 (.box 69 0 4),zmv 2 (zki 0)]),(zsq [(.reg [zfa 3 1 1,zld 4 3 1,zca 5 77 [4,(zki 1),(zki 6)],zno 6 5,zmv 7 6,.grp 7 false [zfa 8 1 2,zld 9 8 1,zca 10 77 [9,(zki 1),(zki 6)],zno 11 10] 12 11]),(.cond 12 (zsq [(.reg [zmv 2 (zki 0)]),.ret]) .skip)]),(zsq [(.reg [zfa 13 1 0,zld 14 13 1]),(.block 0 (zsq [(zsq [(.reg [zbi 16 .eql 14 (zki 1),zmv 15 16]),(.cond 15 .skip (.reg [zbi 17 .eql 14 (zki 5),zmv 15 17]))]),QIZ]))]),Qw7])
def Qwa:List (ARv × Md):=[(.t 2,.one .d)]
def Qu4:Qb:=TQ 0 0 Qwa K
def QDP:Qb:=Qseq (tawp Ql3 0 Qw7 (Qu4 K)) (Qu4 K)
def QNq:Qb:=Qblk 0 (QDP K)
def Qj5 (o:TOp') (x:Bool):Prop:=tawp Ql3 0 Qrv (QNq K) ⟨[(1,(.p 0 0 0)),(14,(zci o.1)),(15,(zcb x))],[(0,(.box (Tup.cells ctOp o)))],1⟩
theorem Qu1 (o:TOp') (x:Bool) (h :
 (zif x (K (Qa2 (w64 (o.2.1*o.2.2.1)))) (zif (o.1==(2:Int)) (K (Qa2 o.2.1)) (zif (o.1==(4:Int)) (K (Qa2 (1:Int))) (K (Qa2 (0:Int))))))):Hold (Qj5 K o x) :=
 Hold.of (by kernel_rfl) h
theorem QFq (o:TOp') (h :
 (zif ((!(m_in o.2.1 (1:Int) (6:Int)))||(!(m_in o.2.2.1 (1:Int) (6:Int)))) (K (Qa2 (0:Int))) (zif (o.1==(1:Int)) (Qj5 K o (o.1==(1:Int))) (Qj5 K o (o.1==(5:Int)))))):Hold (tawp Ql3 (0+0) QIx (TQ 0 0 Qwa K) (Qf [(.a (Tup.cells ctOp o))])) :=
 Hold.of (by kernel_rfl) h
theorem QEH (o:TOp'):TCon Tryz.prog 202 [(.a (Tup.cells ctOp o))] (Qa2 (Z1 o)):=by
 refine Qr rfl fun hb=>tcg (n:=29) (sg:=QhP.sg) Qk (TOk.cons QaM TOk.nil) (by kernel_rfl) (by kernel_rfl) (QFq _ o ?_)
 have hl_o_3:(o.2.2.2).length≤9223372036854775807:=hb.1.2.2.2.1.1
 refine ⟨fun h=>R_eq (by grind [Z1]),fun h=>?_⟩
 have hi:m_in o.2.1 1 6=true∧m_in o.2.2.1 1 6=true:=by simpa using h
 have hm:=Qea (QS.1 hi.1).1 (QS.1 hi.1).2 (QS.1 hi.2).1 (QS.1 hi.2).2
 have hw:=Qp (x:=o.2.1*o.2.2.1) (by omega) (by omega)
 refine ⟨fun h1=>(Qu1 (fun r'=>r'=Qa2 (Z1 o)) o _ ?_).h,fun h1=>(Qu1 (fun r'=>r'=Qa2 (Z1 o)) o _ ?_).h⟩ <;> grind [Z1]
theorem Qu2:Qj Tryz.prog QhP:=Qm fun x _=>QEH x.1
def Qbb (t:Int):TRes:=zre (zci t)
def QkS:TRow:=Qi 221 [(.a ctOp)] fun x=>(none,Qbb (Z1 x.1))
def Qnk:List TRow:=[]
def Qtz:TCode :=
 (.cond 23 (zsq [(.reg [zfa 26 1 1,zld 27 26 1,zfa 28 1 2,zld 29 28 1,zbi 30 .mul 27 29,zmv 2 30]),.ret]) (zsq [(.reg [zbi 32 .eql 22 (zki 2),zmv 31 32]),(.cond 31 (zsq [(.reg [zfa 33 1 1,zld 34 33 1,zmv 2 34]),.ret]) (zsq [(.reg [zbi 36 .eql 22 (zki 4),zmv 35 36]),(.cond 35 (zsq [(.reg [zmv 2 (zki 1)]),.ret]) .skip)]))]))
def QEf:List (Nat × Md):=[(1,.b (zds 4)),(22,.one .d),(23,.one .d)]
def QBS:TCode:=.wk QEf Qtz
def QsJ:TCode :=
 (zsq [(.reg [zmv 2 (zki 0)]),.ret])
def QKe:TCode :=
 (zsq [(.reg [zop 1 (.box 69 0 4),zmv 2 (zki 0)]),(zsq [(.reg [zfa 3 1 1,zld 4 3 1,zbi 5 .lss 4 (zki 1),zmv 6 5,.grp 6 false [zfa 7 1 1,zld 8 7 1,zbi 9 .gtr 8 (zki 6)] 10 9,zmv 11 10,.grp 11 false [zfa 12 1 2,zld 13 12 1,zbi 14 .lss 13 (zki 1)] 15 14,zmv 16 15,.grp 16 false [zfa 17 1 2,zld 18 17 1,zbi 19 .gtr 18 (zki 6)] 20 19]),(.cond 20 (zsq [(.reg [zmv 2 (zki 0)]),.ret]) .skip)]),(zsq [(.reg [zfa 21 1 0,zld 22 21 1]),(.block 0 (zsq [(zsq [(.reg [zbi 24 .eql 22 (zki 1),zmv 23 24]),(.cond 23 .skip (.reg [zbi 25 .eql 22 (zki 5),zmv 23 25]))]),QBS]))]),QsJ])
def QqI:List (ARv × Md):=[(.t 2,.one .d)]
def Qon:Qb:=TQ 0 0 QqI K
def QPz:Qb:=Qseq (tawp Qnk 0 QsJ (Qon K)) (Qon K)
def QEQ:Qb:=Qblk 0 (QPz K)
def QkH (o:TOp') (x:Bool):Prop:=tawp Qnk 0 Qtz (QEQ K) ⟨[(1,(.p 0 0 0)),(22,(zci o.1)),(23,(zcb x))],[(0,(.box (Tup.cells ctOp o)))],1⟩
theorem Qn6 (o:TOp') (x:Bool) (h :
 (zif x (K (Qbb (w64 (o.2.1*o.2.2.1)))) (zif (o.1==(2:Int)) (K (Qbb o.2.1)) (zif (o.1==(4:Int)) (K (Qbb (1:Int))) (K (Qbb (0:Int))))))):Hold (QkH K o x) :=
 Hold.of (by kernel_rfl) h
theorem QAc (o:TOp') (h :
 (zif ((((decide (o.2.1<(1:Int)))||(decide (o.2.1>(6:Int))))||(decide (o.2.2.1<(1:Int))))||(decide (o.2.2.1>(6:Int)))) (K (Qbb (0:Int))) (zif (o.1==(1:Int)) (QkH K o (o.1==(1:Int))) (QkH K o (o.1==(5:Int)))))):Hold (tawp Qnk (0+0) QKe (TQ 0 0 QqI K) (Qf [(.a (Tup.cells ctOp o))])) :=
 Hold.of (by kernel_rfl) h
theorem QCt (o:TOp'):TCon Tryz.prog 221 [(.a (Tup.cells ctOp o))] (Qbb (Z1 o)):=by
 refine Qr rfl fun hb=>tcg (n:=37) (sg:=QkS.sg) Qk TOk.nil (by kernel_rfl) (by kernel_rfl) (QAc _ o ?_)
 have hl_o_3:(o.2.2.2).length≤9223372036854775807:=hb.1.2.2.2.1.1
 refine ⟨fun h=>R_eq (by grind [Z1,m_in]),fun h=>?_⟩
 have hi:m_in o.2.1 1 6=true∧m_in o.2.2.1 1 6=true:=by grind [m_in]
 have hm:=Qea (QS.1 hi.1).1 (QS.1 hi.1).2 (QS.1 hi.2).1 (QS.1 hi.2).2
 have hw:=Qp (x:=o.2.1*o.2.2.1) (by omega) (by omega)
 refine ⟨fun h1=>(Qn6 (fun r'=>r'=Qbb (Z1 o)) o _ ?_).h,fun h1=>(Qn6 (fun r'=>r'=Qbb (Z1 o)) o _ ?_).h⟩ <;> grind [Z1]
theorem QCU:Qj Tryz.prog QkS:=Qm fun x _=>QCt x.1
def Qbx (t:Bool):TRes:=zre (zcb t)
def QmZ:TRow:=Qi 152 [(.a ctOp)] fun x=>(none,Qbx (Q8 x.1))
def Ql4:List TRow:=[J2,QhP,QhG]
def QxO:TCode :=
 (zsq [(zsq [(.reg [zmv 40 3,zfa 41 1 3,zld 42 41 1,zle 43 42,zbi 44 .lss 40 43]),(.cond 44 .skip (.exit 0))]),(.block 1 (zsq [(.reg [zfa 47 1 3,zld 48 47 1,zmv 49 3,zia 50 48 49 [TI],zld 51 50 1,zca 52 110 [51],zno 53 52]),(.cond 53 (zsq [(.reg [zmv 2 (zkb false)]),.ret]) .skip)])),(.reg [zmv 45 3,zbi 46 .add 45 (zki 1),zmv 3 46])])
def QuZ:List (Nat × Md):=[(1,.b (zds 4)),(3,.one .d)]
def QuF:TCode :=
 (zsq [(.reg [zmv 2 (zkb true)]),.ret])
def QDx:TCode :=
 (zsq [(.reg [zop 1 (.box 69 0 4),zmv 2 (zkb false)]),(zsq [(.draw [zfa 4 1 0,zld 5 4 1,zca 6 77 [5,(zki 1),(zki 5)],zno 7 6,zmv 8 7,.grp 8 false [zfa 9 1 1,zld 10 9 1,zca 11 77 [10,(zki 1),(zki 6)],zno 12 11] 13 12,zmv 14 13,.grp 14 false [zfa 15 1 2,zld 16 15 1,zca 17 77 [16,(zki 1),(zki 6)],zno 18 17] 19 18,zmv 20 19,.grp 20 false [zfa 21 1 0,zld 22 21 1,zbi 23 .neq 22 (zki 1),zmv 24 23,.grp 24 true [zfa 25 1 1,zld 26 25 1,zfa 27 1 2,zld 28 27 1,zbi 29 .neq 26 28] 30 29] 31 30,zmv 32 31,.grp 32 false [zfa 33 1 3,zld 34 33 1,zle 35 34,zLd 36 1 4,zca 37 202 [36],zbi 38 .neq 35 37] 39 38] [(29,33),(30,33),(31,33)]),(.cond 39 (zsq [(.reg [zmv 2 (zkb false)]),.ret]) .skip)]),(zsq [(.reg [zmv 3 (zki 0)]),(.block 0 (.loop QuZ QxO))]),QuF])
def QvX:List (ARv × Md):=[(.t 2,.one .d)]
def Qqi:Qb:=TQ 0 0 QvX K
def QJD:Qb:=Qseq (tawp Ql4 0 QuF (Qqi K)) (Qqi K)
def QCK:Qb:=Qblk 0 (QJD K)
def QjN (o:TOp') (i:Int):Prop:=Loop Ql4 0 QuZ QxO (QCK K) ⟨[(1,(.p 0 0 0)),(3,(zci i))],[(0,(.box (Tup.cells ctOp o)))],1⟩
theorem QFl (o:TOp') (i:Int) (h :
 (zif (decide (i<((o.2.2.2).length:Int))) (((0:Int)≤i∧Int.toNat i<(o.2.2.2).length)∧(zif (!(Q5 (gtd (0:Int) o.2.2.2 (Int.toNat i)))) (K (Qbx false)) (QjN K o (w64 (i+(1:Int)))))) (K (Qbx true)))):QjN K o i :=
 Loop.of (by kernel_rfl) h
theorem QDs (o:TOp') (h :
 (zif (((((!(m_in o.1 (1:Int) (5:Int)))||(!(m_in o.2.1 (1:Int) (6:Int))))||(!(m_in o.2.2.1 (1:Int) (6:Int))))||((o.1 != (1:Int))&&(o.2.1 != o.2.2.1)))||(((o.2.2.2).length:Int) != (Z1 o))) (K (Qbx false)) (QjN K o 0))):Hold (tawp Ql4 (0+0) QDx (TQ 0 0 QvX K) (Qf [(.a (Tup.cells ctOp o))])) :=
 Hold.of (by kernel_rfl) h
theorem QN5 (o:TOp'):TCon Tryz.prog 152 [(.a (Tup.cells ctOp o))] (Qbx (Q8 o)):=by
 refine Qr rfl fun hb=>tcg (n:=54) (sg:=QmZ.sg) Qk (TOk.cons QaM (TOk.cons Qu2 (TOk.cons Qs2 TOk.nil))) (by kernel_rfl) (by kernel_rfl) (QDs _ o ?_)
 have hl_o_3:(o.2.2.2).length≤9223372036854775807:=hb.1.2.2.2.1.1
 refine ⟨fun h=>R_eq (by grind [Q8]),fun h=>?_⟩
 exact Qae (Q:=fun x=>Qbx x=Qbx (Q8 o)) (p:=Q5) (c:=fun x=>!(Q5 x)) 0 hl_o_3 (fun _=>rfl) (fun i h=>QFl (fun r'=>r'=Qbx (Q8 o)) o i h) (R_eq (by grind [Q8,Zo]))
theorem QBX:Qj Tryz.prog QmZ:=Qm fun x _=>QN5 x.1
def Qeu (t:Bool):TRes:=zre (zcb t)
def Qe7:TRow:=Qi 194 [(.a ctOp)] fun x=>(none,Qeu (Q8 x.1))
def QGv:List TRow:=[QkS,Qe3]
def QM7:TCode :=
 (zsq [(.reg [zop 1 (.box 69 0 4),zmv 2 (zkb false)]),(zsq [(.reg [zfa 3 1 0,zld 4 3 1,zbi 5 .lss 4 (zki 1),zmv 6 5,.grp 6 false [zfa 7 1 0,zld 8 7 1,zbi 9 .gtr 8 (zki 5)] 10 9,zmv 11 10,.grp 11 false [zfa 12 1 1,zld 13 12 1,zbi 14 .lss 13 (zki 1)] 15 14,zmv 16 15,.grp 16 false [zfa 17 1 1,zld 18 17 1,zbi 19 .gtr 18 (zki 6)] 20 19,zmv 21 20,.grp 21 false [zfa 22 1 2,zld 23 22 1,zbi 24 .lss 23 (zki 1)] 25 24,zmv 26 25,.grp 26 false [zfa 27 1 2,zld 28 27 1,zbi 29 .gtr 28 (zki 6)] 30 29]),(.cond 30 (zsq [(.reg [zmv 2 (zkb false)]),.ret]) .skip)]),(zsq [(.reg [zfa 31 1 0,zld 32 31 1,zbi 33 .neq 32 (zki 1),zmv 34 33,.grp 34 true [zfa 35 1 1,zld 36 35 1,zfa 37 1 2,zld 38 37 1,zbi 39 .neq 36 38] 40 39]),(.cond 40 (zsq [(.reg [zmv 2 (zkb false)]),.ret]) .skip)]),(.draw [zfa 41 1 3,zld 42 41 1,zle 43 42,zLd 44 1 4,zca 45 221 [44],zbi 46 .eql 43 45,zmv 47 46,.grp 47 true [zfa 48 1 3,zld 49 48 1,zca 50 195 [49]] 51 50,zmv 2 51] [(0,4),(1,4),(2,4)]),.ret])
def QAQ:List (ARv × Md):=[(.t 2,.one .d)]
theorem QLi (o:TOp') (h :
 (zif ((((((decide (o.1<(1:Int)))||(decide (o.1>(5:Int))))||(decide (o.2.1<(1:Int))))||(decide (o.2.1>(6:Int))))||(decide (o.2.2.1<(1:Int))))||(decide (o.2.2.1>(6:Int)))) (K (Qeu false)) (zif ((o.1 != (1:Int))&&(o.2.1 != o.2.2.1)) (K (Qeu false)) (K (Qeu ((((o.2.2.2).length:Int)==(Z1 o))&&(Zo o.2.2.2))))))):Hold (tawp QGv (0+0) QM7 (TQ 0 0 QAQ K) (Qf [(.a (Tup.cells ctOp o))])) :=
 Hold.of (by kernel_rfl) h
theorem QAu (o:TOp'):TCon Tryz.prog 194 [(.a (Tup.cells ctOp o))] (Qeu (Q8 o)):=by
 refine Qr rfl fun hb=>tcg (n:=52) (sg:=Qe7.sg) Qk (TOk.cons QCU (TOk.cons Qms TOk.nil)) (by kernel_rfl) (by kernel_rfl) (QLi _ o ?_)
 have hl_o_3:(o.2.2.2).length≤9223372036854775807:=hb.1.2.2.2.1.1
 grind [Q8,m_in]
theorem QjL:Qj Tryz.prog Qe7:=Qm fun x _=>QAu x.1
def QcA (t:Bool):TRes:=zre (zcb t)
def Qcq:TRow:=Qi 74 [(.a [(.sl ctOp)])] fun x=>(none,QcA (QN x.1))
def Qjf:List TRow:=[QmZ,J2]
def QqL:TCode :=
 (zsq [(zsq [(.reg [zmv 4 3,zfa 5 1 0,zld 6 5 1,zle 7 6,zbi 8 .lss 4 7]),(.cond 8 .skip (.exit 0))]),(.block 1 (zsq [(.draw [zfa 11 1 0,zld 12 11 1,zmv 13 3,zia 14 12 13 ctOp,zLd 15 14 4,zca 16 152 [15],zno 17 16,zmv 18 17,.grp 18 false [zmv 19 3,zbi 20 .gtr 19 (zki 0),zmv 21 20,.grp 21 true [zfa 22 1 0,zld 23 22 1,zmv 24 3,zia 25 23 24 ctOp,zfa 26 25 1,zld 27 26 1,zfa 28 1 0,zld 29 28 1,zmv 30 3,zbi 31 .sub 30 (zki 1),zia 32 29 31 ctOp,zfa 33 32 2,zld 34 33 1,zbi 35 .neq 27 34] 36 35] 37 36] []),(.cond 37 (zsq [(.reg [zmv 2 (zkb false)]),.ret]) .skip)])),(.reg [zmv 9 3,zbi 10 .add 9 (zki 1),zmv 3 10])])
def Qy1:List (Nat × Md):=[(1,.b [.d]),(3,.one .d)]
def QwA:TCode :=
 (zsq [(.reg [zfa 38 1 0,zld 39 38 1,zle 40 39,zca 41 77 [40,(zki 1),(zki 8)],zmv 2 41]),.ret])
def QLT:TCode :=
 (zsq [(.reg [zop 1 (.box 26 0 1),zmv 2 (zkb false)]),(zsq [(.reg [zmv 3 (zki 0)]),(.block 0 (.loop Qy1 QqL))]),QwA])
def QtL:List (ARv × Md):=[(.t 2,.one .d)]
def Qq3:Qb:=TQ 0 0 QtL K
def QHu:Qb:=Qseq (tawp Qjf 0 QwA (Qq3 K)) (Qq3 K)
def QM4:Qb:=Qblk 0 (QHu K)
def Qhw (m:List TOp') (i:Int):Prop:=Loop Qjf 0 Qy1 QqL (QM4 K) ⟨[(1,(.p 0 0 0)),(3,(zci i))],[(0,(.box [(zcs ctOp m)]))],1⟩
theorem QvD (m:List TOp') (i:Int) (h :
 (zif (decide (i<(m.length:Int))) ((((0:Int)≤i∧Int.toNat i<m.length)∧((!(!(Q8 (gtd dOp m (Int.toNat i)))))=true→((decide (i>(0:Int)))=true→(((0:Int)≤i∧Int.toNat i<m.length)∧((0:Int)≤w64 (i-(1:Int))∧Int.toNat (w64 (i-(1:Int)))<m.length)))))∧(zif ((!(Q8 (gtd dOp m (Int.toNat i))))||((decide (i>(0:Int)))&&(((gtd dOp m (Int.toNat i)).2.1) != ((gtd dOp m (Int.toNat (w64 (i-(1:Int))))).2.2.1)))) (K (QcA false)) (Qhw K m (w64 (i+(1:Int)))))) (K (QcA (m_in (m.length:Int) (1:Int) (8:Int)))))):Qhw K m i :=
 Loop.of (by kernel_rfl) h
theorem QHU (m:List TOp') (h :
 (Qhw K m 0)):Hold (tawp Qjf (0+0) QLT (TQ 0 0 QtL K) (Qf [(.a [(.c (.sl ctOp) m)])])) :=
 Hold.of (by kernel_rfl) h
theorem QGL (m:List TOp'):TCon Tryz.prog 74 [(.a [(.c (.sl ctOp) m)])] (QcA (QN m)):=by
 refine Qr rfl fun hb=>tcg (n:=42) (sg:=Qcq.sg) Qk (TOk.cons QBX (TOk.cons QaM TOk.nil)) (by kernel_rfl) (by kernel_rfl) (QHU _ m ?_)
 have hl_m_0:(m).length≤9223372036854775807:=hb.1.1.1
 refine Zt m (fun r k=>Yk (QaF m k) r=Yk none m→Qhw (fun r'=>r'=QcA (QN m)) m k) ?_ ?_ rfl
 ·intro he
  refine QvD (fun r'=>r'=QcA (QN m)) m _ ⟨fun h=>by simp at h,fun _=>?_⟩
  grind [Yk,QN]
 ·intro k x r hk hlt hg ih he
  refine QvD (fun r'=>r'=QcA (QN m)) m _ ⟨fun _=>?_,fun h=>by simp at h;omega⟩
  rw [Int.toNat_natCast,hg,Qp (x:=(k:Int)+1) (by omega) (by omega)]
  have ep:QaF m (k+1)=some x.2.2.1:=by simp [QaF,hg]
  rw [ep] at ih
  rcases Nat.eq_zero_or_pos k with h0 | h0
  ·subst h0
   simp only [Yk,QaF,if_true] at he
   grind [QN]
  ·have e2:=Qcd h0 (by omega:k≤9223372036854775807)
   simp only [Yk,QaF,if_neg (Nat.ne_of_gt h0)] at he
   grind [QN]
theorem Qfh:Qj Tryz.prog Qcq:=Qm fun x _=>QGL x.1
def QbH (t:Bool):TRes:=zre (zcb t)
def JV:TRow:=Qi 131 [(.a [(.sl ctOp)])] fun x=>(none,QbH (QN x.1))
def QnY:List TRow:=[Qe7]
def Qow:TCode :=
 (zsq [(.reg [zbi 19 .lss 18 17]),(.cond 19 .skip (.exit 0)),(.block 1 (zsq [(.reg [zmv 20 18,zia 21 16 18 ctOp,zLd 22 21 4,zop 4 (.new 69 (z0s ctOp)),zmv 3 20,zst 4 22 4]),(.draw [zLd 23 4 4,zca 24 194 [23],zno 25 24,zmv 26 25,.grp 26 false [zmv 27 3,zbi 28 .gtr 27 (zki 0),zmv 29 28,.grp 29 true [zfa 30 1 0,zld 31 30 1,zmv 32 3,zbi 33 .sub 32 (zki 1),zia 34 31 33 ctOp,zfa 35 34 2,zld 36 35 1,zfa 37 4 1,zld 38 37 1,zbi 39 .neq 36 38] 40 39] 41 40] []),(.cond 41 (zsq [(.reg [zmv 2 (zkb false)]),.ret]) .skip)])),(.reg [zbi 42 .add 18 (zki 1),zmv 18 42])])
def QoX:List (Nat × Md):=[(1,.b [.d]),(16,.one .d),(17,.one .d),(18,.one .d)]
def QvI:TCode :=
 (zsq [(.reg [zmv 2 (zkb true)]),.ret])
def QON:TCode :=
 (zsq [(.reg [zop 1 (.box 26 0 1),zmv 2 (zkb false)]),(zsq [(.reg [zfa 5 1 0,zld 6 5 1,zle 7 6,zbi 8 .lss 7 (zki 1),zmv 9 8,.grp 9 false [zfa 10 1 0,zld 11 10 1,zle 12 11,zbi 13 .gtr 12 (zki 8)] 14 13]),(.cond 14 (zsq [(.reg [zmv 2 (zkb false)]),.ret]) .skip)]),(zsq [(.reg [zfa 15 1 0,zld 16 15 1,zle 17 16,zmv 18 (zki 0)]),(.block 0 (.loop QoX Qow))]),QvI])
def Qvf:List (ARv × Md):=[(.t 2,.one .d)]
def Qx9:Qb:=TQ 0 0 Qvf K
def QAG:Qb:=Qseq (tawp QnY 0 QvI (Qx9 K)) (Qx9 K)
def QPY:Qb:=Qblk 0 (QAG K)
def Qf4 (m:List TOp') (x:Int):Prop:=Loop QnY 0 QoX Qow (QPY K) ⟨[(1,(.p 0 0 0)),(16,(zcs ctOp m)),(17,(zci (m.length:Int))),(18,(zci x))],[(0,(.box [(zcs ctOp m)]))],1⟩
theorem Qqm (m:List TOp') (x:Int) (h :
 (zif (decide (x<(m.length:Int))) (((0:Int)≤x∧Int.toNat x<m.length)∧(((!(!(Q8 (gtd dOp m (Int.toNat x)))))=true→((decide (x>(0:Int)))=true→((0:Int)≤w64 (x-(1:Int))∧Int.toNat (w64 (x-(1:Int)))<m.length)))∧(zif ((!(Q8 (gtd dOp m (Int.toNat x))))||((decide (x>(0:Int)))&&(((gtd dOp m (Int.toNat (w64 (x-(1:Int))))).2.2.1) != ((gtd dOp m (Int.toNat x)).2.1)))) (K (QbH false)) (Qf4 K m (w64 (x+(1:Int))))))) (K (QbH true)))):Qf4 K m x :=
 Loop.of (by kernel_rfl) h
theorem QKq (m:List TOp') (h :
 (zif ((decide ((m.length:Int)<(1:Int)))||(decide ((m.length:Int)>(8:Int)))) (K (QbH false)) (Qf4 K m 0))):Hold (tawp QnY (0+0) QON (TQ 0 0 Qvf K) (Qf [(.a [(.c (.sl ctOp) m)])])) :=
 Hold.of (by kernel_rfl) h
theorem QQn (m:List TOp'):TCon Tryz.prog 131 [(.a [(.c (.sl ctOp) m)])] (QbH (QN m)):=by
 refine Qr rfl fun hb=>tcg (n:=43) (sg:=JV.sg) Qk (TOk.cons QjL TOk.nil) (by kernel_rfl) (by kernel_rfl) (QKq _ m ?_)
 have hl_m_0:(m).length≤9223372036854775807:=hb.1.1.1
 refine ⟨fun h=>R_eq (by grind [QN,m_in]),fun h=>?_⟩
 have hin:m_in m.length 1 8=true:=by grind [m_in]
 refine Zt m (fun r k=>Yk (QaF m k) r=Yk none m→Qf4 (fun r'=>r'=QbH (QN m)) m k) ?_ ?_ rfl
 ·intro he
  refine Qqm (fun r'=>r'=QbH (QN m)) m _ ⟨fun h=>by simp at h,fun _=>?_⟩
  grind [Yk,QN]
 ·intro k x r hk hlt hg ih he
  refine Qqm (fun r'=>r'=QbH (QN m)) m _ ⟨fun _=>?_,fun h=>by simp at h;omega⟩
  rw [Int.toNat_natCast,hg,Qp (x:=(k:Int)+1) (by omega) (by omega)]
  have ep:QaF m (k+1)=some x.2.2.1:=by simp [QaF,hg]
  rw [ep] at ih
  rcases Nat.eq_zero_or_pos k with h0 | h0
  ·subst h0
   simp only [Yk,QaF,if_true] at he
   grind [QN]
  ·have e2:=Qcd h0 (by omega:k≤9223372036854775807)
   simp only [Yk,QaF,if_neg (Nat.ne_of_gt h0)] at he
   grind [QN]
theorem QaP:Qj Tryz.prog JV:=Qm fun x _=>QQn x.1
def QiU (t:Int):TRes:=zre (zci t)
def QdK:TRow:=Qi 115 [(.a [(.sl ctOp)])] fun x=>(none,QiU (QZ x.1))
def QDI:List TRow:=[JV]
def QMX:TCode :=
 (zsq [(.reg [zop 1 (.box 26 0 1),zmv 2 (zki 0)]),(zsq [(.reg [zLd 3 1 1,zca 4 131 [3],zno 5 4]),(.cond 5 (zsq [(.reg [zmv 2 (zki 0)]),.ret]) .skip)]),(.reg [zfa 6 1 0,zld 7 6 1,zia 8 7 (zki 0) ctOp,zfa 9 8 1,zld 10 9 1,zmv 2 10]),.ret])
def QEm:List (ARv × Md):=[(.t 2,.one .d)]
theorem QPW (m:List TOp') (h :
 (zif (!(QN m)) (K (QiU (0:Int))) (((0:Int)≤(0:Int)∧Int.toNat (0:Int)<m.length)∧K (QiU ((gtd dOp m (Int.toNat (0:Int))).2.1))))):Hold (tawp QDI (0+0) QMX (TQ 0 0 QEm K) (Qf [(.a [(.c (.sl ctOp) m)])])) :=
 Hold.of (by kernel_rfl) h
theorem QKR (m:List TOp'):TCon Tryz.prog 115 [(.a [(.c (.sl ctOp) m)])] (QiU (QZ m)):=by
 refine Qr rfl fun hb=>tcg (n:=11) (sg:=QdK.sg) Qk (TOk.cons QaP TOk.nil) (by kernel_rfl) (by kernel_rfl) (QPW _ m ?_)
 have hl_m_0:(m).length≤9223372036854775807:=hb.1.1.1
 refine ⟨fun h=>R_eq (by grind [QZ]),fun h=>?_⟩
 have:=YY (m:=m) (by simpa using h)
 exact ⟨⟨by omega,by simp;omega⟩,R_eq (by simp at h;simp [QZ,h])⟩
theorem Qg6:Qj Tryz.prog QdK:=Qm fun x _=>QKR x.1
def QhT (t:Int):TRes:=zre (zci t)
def Qg9:TRow:=Qi 153 [(.a [(.sl ctOp)])] fun x=>(none,QhT (QZ x.1))
def QDv:List TRow:=[Qcq]
def QA0:TCode :=
 (zsq [(.reg [zop 1 (.box 26 0 1),zmv 2 (zki 0)]),(zsq [(.reg [zLd 3 1 1,zca 4 74 [3],zno 5 4]),(.cond 5 (zsq [(.reg [zmv 2 (zki 0)]),.ret]) .skip)]),(.reg [zfa 6 1 0,zld 7 6 1,zia 8 7 (zki 0) ctOp,zfa 9 8 1,zld 10 9 1,zmv 2 10]),.ret])
def QJZ:List (ARv × Md):=[(.t 2,.one .d)]
theorem QDD (m:List TOp') (h :
 (zif (!(QN m)) (K (QhT (0:Int))) (((0:Int)≤(0:Int)∧Int.toNat (0:Int)<m.length)∧K (QhT ((gtd dOp m (Int.toNat (0:Int))).2.1))))):Hold (tawp QDv (0+0) QA0 (TQ 0 0 QJZ K) (Qf [(.a [(.c (.sl ctOp) m)])])) :=
 Hold.of (by kernel_rfl) h
theorem QK5 (m:List TOp'):TCon Tryz.prog 153 [(.a [(.c (.sl ctOp) m)])] (QhT (QZ m)):=by
 refine Qr rfl fun hb=>tcg (n:=11) (sg:=Qg9.sg) Qk (TOk.cons Qfh TOk.nil) (by kernel_rfl) (by kernel_rfl) (QDD _ m ?_)
 have hl_m_0:(m).length≤9223372036854775807:=hb.1.1.1
 refine ⟨fun h=>R_eq (by grind [QZ]),fun h=>?_⟩
 have:=YY (m:=m) (by simpa using h)
 exact ⟨⟨by omega,by simp;omega⟩,R_eq (by simp at h;simp [QZ,h])⟩
theorem Qx1:Qj Tryz.prog Qg9:=Qm fun x _=>QK5 x.1
def QfT (t:Int):TRes:=zre (zci t)
def QdI:TRow:=Qi 117 [(.a [(.sl ctOp)])] fun x=>(none,QfT (Q1 x.1))
def QMH:List TRow:=[JV]
def QIh:TCode :=
 (zsq [(.reg [zop 1 (.box 26 0 1),zmv 2 (zki 0)]),(zsq [(.reg [zLd 3 1 1,zca 4 131 [3],zno 5 4]),(.cond 5 (zsq [(.reg [zmv 2 (zki 0)]),.ret]) .skip)]),(.reg [zfa 6 1 0,zld 7 6 1,zfa 8 1 0,zld 9 8 1,zle 10 9,zbi 11 .sub 10 (zki 1),zia 12 7 11 ctOp,zfa 13 12 2,zld 14 13 1,zmv 2 14]),.ret])
def QLm:List (ARv × Md):=[(.t 2,.one .d)]
theorem QJs (m:List TOp') (h :
 (zif (!(QN m)) (K (QfT (0:Int))) (((0:Int)≤w64 ((m.length:Int)-(1:Int))∧Int.toNat (w64 ((m.length:Int)-(1:Int)))<m.length)∧K (QfT ((gtd dOp m (Int.toNat (w64 ((m.length:Int)-(1:Int))))).2.2.1))))):Hold (tawp QMH (0+0) QIh (TQ 0 0 QLm K) (Qf [(.a [(.c (.sl ctOp) m)])])) :=
 Hold.of (by kernel_rfl) h
theorem QzR (m:List TOp'):TCon Tryz.prog 117 [(.a [(.c (.sl ctOp) m)])] (QfT (Q1 m)):=by
 refine Qr rfl fun hb=>tcg (n:=15) (sg:=QdI.sg) Qk (TOk.cons QaP TOk.nil) (by kernel_rfl) (by kernel_rfl) (QJs _ m ?_)
 have hl_m_0:(m).length≤9223372036854775807:=hb.1.1.1
 refine ⟨fun h=>R_eq (by grind [Q1]),fun h=>?_⟩
 have:=YY (m:=m) (by simpa using h)
 have e:=Qcd this.1 (by omega:m.length≤9223372036854775807)
 rw [e.1]
 exact ⟨⟨e.2,by omega⟩,R_eq (by simp at h;simp [Q1,h])⟩
theorem QiW:Qj Tryz.prog QdI:=Qm fun x _=>QzR x.1
def Qg4 (t:Int):TRes:=zre (zci t)
def Qga:TRow:=Qi 154 [(.a [(.sl ctOp)])] fun x=>(none,Qg4 (Q1 x.1))
def QGZ:List TRow:=[Qcq]
def QCD:TCode :=
 (zsq [(.reg [zop 1 (.box 26 0 1),zmv 2 (zki 0)]),(zsq [(.reg [zLd 3 1 1,zca 4 74 [3],zno 5 4]),(.cond 5 (zsq [(.reg [zmv 2 (zki 0)]),.ret]) .skip)]),(.reg [zfa 6 1 0,zld 7 6 1,zfa 8 1 0,zld 9 8 1,zle 10 9,zbi 11 .sub 10 (zki 1),zia 12 7 11 ctOp,zfa 13 12 2,zld 14 13 1,zmv 2 14]),.ret])
def QAq:List (ARv × Md):=[(.t 2,.one .d)]
theorem QLf (m:List TOp') (h :
 (zif (!(QN m)) (K (Qg4 (0:Int))) (((0:Int)≤w64 ((m.length:Int)-(1:Int))∧Int.toNat (w64 ((m.length:Int)-(1:Int)))<m.length)∧K (Qg4 ((gtd dOp m (Int.toNat (w64 ((m.length:Int)-(1:Int))))).2.2.1))))):Hold (tawp QGZ (0+0) QCD (TQ 0 0 QAq K) (Qf [(.a [(.c (.sl ctOp) m)])])) :=
 Hold.of (by kernel_rfl) h
theorem QCF (m:List TOp'):TCon Tryz.prog 154 [(.a [(.c (.sl ctOp) m)])] (Qg4 (Q1 m)):=by
 refine Qr rfl fun hb=>tcg (n:=15) (sg:=Qga.sg) Qk (TOk.cons Qfh TOk.nil) (by kernel_rfl) (by kernel_rfl) (QLf _ m ?_)
 have hl_m_0:(m).length≤9223372036854775807:=hb.1.1.1
 refine ⟨fun h=>R_eq (by grind [Q1]),fun h=>?_⟩
 have:=YY (m:=m) (by simpa using h)
 have e:=Qcd this.1 (by omega:m.length≤9223372036854775807)
 rw [e.1]
 exact ⟨⟨e.2,by omega⟩,R_eq (by simp at h;simp [Q1,h])⟩
theorem Qud:Qj Tryz.prog Qga:=Qm fun x _=>QCF x.1
end
end Go.Proofs.YtjbdljkhbglnhaaGreat.Am

