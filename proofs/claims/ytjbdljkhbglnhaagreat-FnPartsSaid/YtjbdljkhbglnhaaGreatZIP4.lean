/- -/
import Derived.Test.YtjbdljkhbglnhaaGreatZIP1
namespace Go.Proofs.YtjbdljkhbglnhaaGreat.Am
open Go Go.RowKit Go.Proofs.YtjbdljkhbglnhaaGreat
set_option linter.all false
noncomputable section
variable (K:TRes→Prop)
def Qa7 (t:Int):TRes:=zre (zci t)
def Qhf:TRow:=Qk 202 [(.a ctOp)] fun x=>(none,Qa7 (Yc x.1))
def Qnf:List TRow:=[YN]
def QrZ:TCode :=
 (.cond 15 (zsq [(.reg [zfa 18 1 1,zld 19 18 1,zfa 20 1 2,zld 21 20 1,zbi 22 .mul 19 21,zmv 2 22]),.ret]) (zsq [(.reg [zbi 24 .eql 14 (zki 2),zmv 23 24]),(.cond 23 (zsq [(.reg [zfa 25 1 1,zld 26 25 1,zmv 2 26]),.ret]) (zsq [(.reg [zbi 28 .eql 14 (zki 4),zmv 27 28]),(.cond 27 (zsq [(.reg [zmv 2 (zki 1)]),.ret]) .skip)]))]))
def QFz:List (Nat × Md):=[(1,.b (zds 4)),(14,.one .d),(15,.one .d)]
def QEb:TCode:=.wk QFz QrZ
def QyG:TCode :=
 (zsq [(.reg [zmv 2 (zki 0)]),.ret])
def QOg:TCode :=
 (zsq [(.reg [zop 1 (.box 69 0 4),zmv 2 (zki 0)]),(zsq [(.reg [zfa 3 1 1,zld 4 3 1,zca 5 77 [4,(zki 1),(zki 6)],zno 6 5,zmv 7 6,.grp 7 false [zfa 8 1 2,zld 9 8 1,zca 10 77 [9,(zki 1),(zki 6)],zno 11 10] 12 11]),(.cond 12 (zsq [(.reg [zmv 2 (zki 0)]),.ret]) .skip)]),(zsq [(.reg [zfa 13 1 0,zld 14 13 1]),(.block 0 (zsq [(zsq [(.reg [zbi 16 .eql 14 (zki 1),zmv 15 16]),(.cond 15 .skip (.reg [zbi 17 .eql 14 (zki 5),zmv 15 17]))]),QEb]))]),QyG])
def QD1:List (ARv × Md):=[(.t 2,.one .d)]
def QDG:Qb:=TQ 0 0 QD1 K
def QEx:Qb:=Qseq (tawp Qnf 0 QyG (QDG K)) (QDG K)
def QMx:Qb:=Qblk 0 (QEx K)
@[irreducible] def QlL (o:TOp') (x:Bool):Prop:=tawp Qnf 0 QrZ (QMx K) ⟨[(1,(.p 0 0 0)),(14,(zci o.1)),(15,(zcb x))],[(0,(.box (Tup.cells ctOp o)))],1⟩
theorem Qsw (o:TOp') (x:Bool) (h :
 (zif x (K (Qa7 (w64 (o.2.1*o.2.2.1)))) (zif (o.1==(2:Int)) (K (Qa7 o.2.1)) (zif (o.1==(4:Int)) (K (Qa7 (1:Int))) (K (Qa7 (0:Int))))))):Hold (QlL K o x) :=
 Hold.of (by kernel_rfl) h
theorem QE1 (o:TOp') (h :
 (zif ((!(m_in o.2.1 (1:Int) (6:Int)))||(!(m_in o.2.2.1 (1:Int) (6:Int)))) (K (Qa7 (0:Int))) (zif (o.1==(1:Int)) (QlL K o (o.1==(1:Int))) (QlL K o (o.1==(5:Int)))))):Hold (tawp Qnf (0+0) QOg (TQ 0 0 QD1 K) (Qi [(.a (Tup.cells ctOp o))])) :=
 Hold.of (by kernel_rfl) h
theorem QNr (o:TOp'):TCon Tryz.prog 202 [(.a (Tup.cells ctOp o))] (Qa7 (Yc o)):=by
 refine Qo rfl fun hb=>tcg (n:=29) (sg:=Qhf.sg) Qm (TOk.cons Y5 TOk.nil) (by kernel_rfl) (by kernel_rfl) (QE1 _ o ?_)
 have hl_o_3:(o.2.2.2).length≤9223372036854775807:=hb.1.2.2.2.1.1
 refine ⟨fun h=>R_eq (by grind [Yc]),fun h=>?_⟩
 have hi:m_in o.2.1 1 6=true∧m_in o.2.2.1 1 6=true:=by simpa using h
 have hm:=QcN (QP.1 hi.1).1 (QP.1 hi.1).2 (QP.1 hi.2).1 (QP.1 hi.2).2
 have hw:=Qp (x:=o.2.1*o.2.2.1) (by omega) (by omega)
 refine ⟨fun h1=>(Qsw (fun r'=>r'=Qa7 (Yc o)) o _ ?_).h,fun h1=>(Qsw (fun r'=>r'=Qa7 (Yc o)) o _ ?_).h⟩ <;> grind [Yc]
theorem QDq:Ql Tryz.prog Qhf:=Qn fun x _=>QNr x.1
def Qbt (t:Int):TRes:=zre (zci t)
def QoN:TRow:=Qk 221 [(.a ctOp)] fun x=>(none,Qbt (Yc x.1))
def Qm7:List TRow:=[]
def QAq:TCode :=
 (.cond 23 (zsq [(.reg [zfa 26 1 1,zld 27 26 1,zfa 28 1 2,zld 29 28 1,zbi 30 .mul 27 29,zmv 2 30]),.ret]) (zsq [(.reg [zbi 32 .eql 22 (zki 2),zmv 31 32]),(.cond 31 (zsq [(.reg [zfa 33 1 1,zld 34 33 1,zmv 2 34]),.ret]) (zsq [(.reg [zbi 36 .eql 22 (zki 4),zmv 35 36]),(.cond 35 (zsq [(.reg [zmv 2 (zki 1)]),.ret]) .skip)]))]))
def QOi:List (Nat × Md):=[(1,.b (zds 4)),(22,.one .d),(23,.one .d)]
def QQZ:TCode:=.wk QOi QAq
def Qv9:TCode :=
 (zsq [(.reg [zmv 2 (zki 0)]),.ret])
def QWJ:TCode :=
 (zsq [(.reg [zop 1 (.box 69 0 4),zmv 2 (zki 0)]),(zsq [(.reg [zfa 3 1 1,zld 4 3 1,zbi 5 .lss 4 (zki 1),zmv 6 5,.grp 6 false [zfa 7 1 1,zld 8 7 1,zbi 9 .gtr 8 (zki 6)] 10 9,zmv 11 10,.grp 11 false [zfa 12 1 2,zld 13 12 1,zbi 14 .lss 13 (zki 1)] 15 14,zmv 16 15,.grp 16 false [zfa 17 1 2,zld 18 17 1,zbi 19 .gtr 18 (zki 6)] 20 19]),(.cond 20 (zsq [(.reg [zmv 2 (zki 0)]),.ret]) .skip)]),(zsq [(.reg [zfa 21 1 0,zld 22 21 1]),(.block 0 (zsq [(zsq [(.reg [zbi 24 .eql 22 (zki 1),zmv 23 24]),(.cond 23 .skip (.reg [zbi 25 .eql 22 (zki 5),zmv 23 25]))]),QQZ]))]),Qv9])
def QvC:List (ARv × Md):=[(.t 2,.one .d)]
def QDt:Qb:=TQ 0 0 QvC K
def QUR:Qb:=Qseq (tawp Qm7 0 Qv9 (QDt K)) (QDt K)
def QWa:Qb:=Qblk 0 (QUR K)
@[irreducible] def Qpn (o:TOp') (x:Bool):Prop:=tawp Qm7 0 QAq (QWa K) ⟨[(1,(.p 0 0 0)),(22,(zci o.1)),(23,(zcb x))],[(0,(.box (Tup.cells ctOp o)))],1⟩
theorem Quc (o:TOp') (x:Bool) (h :
 (zif x (K (Qbt (w64 (o.2.1*o.2.2.1)))) (zif (o.1==(2:Int)) (K (Qbt o.2.1)) (zif (o.1==(4:Int)) (K (Qbt (1:Int))) (K (Qbt (0:Int))))))):Hold (Qpn K o x) :=
 Hold.of (by kernel_rfl) h
theorem QI0 (o:TOp') (h :
 (zif ((((decide (o.2.1<(1:Int)))||(decide (o.2.1>(6:Int))))||(decide (o.2.2.1<(1:Int))))||(decide (o.2.2.1>(6:Int)))) (K (Qbt (0:Int))) (zif (o.1==(1:Int)) (Qpn K o (o.1==(1:Int))) (Qpn K o (o.1==(5:Int)))))):Hold (tawp Qm7 (0+0) QWJ (TQ 0 0 QvC K) (Qi [(.a (Tup.cells ctOp o))])) :=
 Hold.of (by kernel_rfl) h
theorem QIc (o:TOp'):TCon Tryz.prog 221 [(.a (Tup.cells ctOp o))] (Qbt (Yc o)):=by
 refine Qo rfl fun hb=>tcg (n:=37) (sg:=QoN.sg) Qm TOk.nil (by kernel_rfl) (by kernel_rfl) (QI0 _ o ?_)
 have hl_o_3:(o.2.2.2).length≤9223372036854775807:=hb.1.2.2.2.1.1
 refine ⟨fun h=>R_eq (by grind [Yc,m_in]),fun h=>?_⟩
 have hi:m_in o.2.1 1 6=true∧m_in o.2.2.1 1 6=true:=by grind [m_in]
 have hm:=QcN (QP.1 hi.1).1 (QP.1 hi.1).2 (QP.1 hi.2).1 (QP.1 hi.2).2
 have hw:=Qp (x:=o.2.1*o.2.2.1) (by omega) (by omega)
 refine ⟨fun h1=>(Quc (fun r'=>r'=Qbt (Yc o)) o _ ?_).h,fun h1=>(Quc (fun r'=>r'=Qbt (Yc o)) o _ ?_).h⟩ <;> grind [Yc]
theorem QNJ:Ql Tryz.prog QoN:=Qn fun x _=>QIc x.1
def QbW (t:Bool):TRes:=zre (zcb t)
def Qfu:TRow:=Qk 152 [(.a ctOp)] fun x=>(none,QbW (Zd x.1))
def QnQ:List TRow:=[YN,Qhf,QdS]
def Qw8:TCode :=
 (zsq [(zsq [(.reg [zmv 40 3,zfa 41 1 3,zld 42 41 1,zle 43 42,zbi 44 .lss 40 43]),(.cond 44 .skip (.exit 0))]),(.block 1 (zsq [(.reg [zfa 47 1 3,zld 48 47 1,zmv 49 3,zia 50 48 49 [TI],zld 51 50 1,zca 52 110 [51],zno 53 52]),(.cond 53 (zsq [(.reg [zmv 2 (zkb false)]),.ret]) .skip)])),(.reg [zmv 45 3,zbi 46 .add 45 (zki 1),zmv 3 46])])
def Qyp:List (Nat × Md):=[(1,.b (zds 4)),(3,.one .d)]
def Qx1:TCode :=
 (zsq [(.reg [zmv 2 (zkb true)]),.ret])
def QUv:TCode :=
 (zsq [(.reg [zop 1 (.box 69 0 4),zmv 2 (zkb false)]),(zsq [(.draw [zfa 4 1 0,zld 5 4 1,zca 6 77 [5,(zki 1),(zki 5)],zno 7 6,zmv 8 7,.grp 8 false [zfa 9 1 1,zld 10 9 1,zca 11 77 [10,(zki 1),(zki 6)],zno 12 11] 13 12,zmv 14 13,.grp 14 false [zfa 15 1 2,zld 16 15 1,zca 17 77 [16,(zki 1),(zki 6)],zno 18 17] 19 18,zmv 20 19,.grp 20 false [zfa 21 1 0,zld 22 21 1,zbi 23 .neq 22 (zki 1),zmv 24 23,.grp 24 true [zfa 25 1 1,zld 26 25 1,zfa 27 1 2,zld 28 27 1,zbi 29 .neq 26 28] 30 29] 31 30,zmv 32 31,.grp 32 false [zfa 33 1 3,zld 34 33 1,zle 35 34,zLd 36 1 4,zca 37 202 [36],zbi 38 .neq 35 37] 39 38] [(29,33),(30,33),(31,33)]),(.cond 39 (zsq [(.reg [zmv 2 (zkb false)]),.ret]) .skip)]),(zsq [(.reg [zmv 3 (zki 0)]),(.block 0 (.loop Qyp Qw8))]),Qx1])
def Qrv:List (ARv × Md):=[(.t 2,.one .d)]
def QqB:Qb:=TQ 0 0 Qrv K
def QJI:Qb:=Qseq (tawp QnQ 0 Qx1 (QqB K)) (QqB K)
def QGO:Qb:=Qblk 0 (QJI K)
def Qnz (o:TOp') (i:Int):Prop:=Loop QnQ 0 Qyp Qw8 (QGO K) ⟨[(1,(.p 0 0 0)),(3,(zci i))],[(0,(.box (Tup.cells ctOp o)))],1⟩
theorem QHi (o:TOp') (i:Int) (h :
 (zif (decide (i<((o.2.2.2).length:Int))) (((0:Int)≤i∧Int.toNat i<(o.2.2.2).length)∧(zif (!(Zb (gtd (0:Int) o.2.2.2 (Int.toNat i)))) (K (QbW false)) (Qnz K o (w64 (i+(1:Int)))))) (K (QbW true)))):Qnz K o i :=
 Loop.of (by kernel_rfl) h
theorem QU8 (o:TOp') (h :
 (zif (((((!(m_in o.1 (1:Int) (5:Int)))||(!(m_in o.2.1 (1:Int) (6:Int))))||(!(m_in o.2.2.1 (1:Int) (6:Int))))||((o.1 != (1:Int))&&(o.2.1 != o.2.2.1)))||(((o.2.2.2).length:Int) != (Yc o))) (K (QbW false)) (Qnz K o 0))):Hold (tawp QnQ (0+0) QUv (TQ 0 0 Qrv K) (Qi [(.a (Tup.cells ctOp o))])) :=
 Hold.of (by kernel_rfl) h
theorem QPe (o:TOp'):TCon Tryz.prog 152 [(.a (Tup.cells ctOp o))] (QbW (Zd o)):=by
 refine Qo rfl fun hb=>tcg (n:=54) (sg:=Qfu.sg) Qm (TOk.cons Y5 (TOk.cons QDq (TOk.cons Qj4 TOk.nil))) (by kernel_rfl) (by kernel_rfl) (QU8 _ o ?_)
 have hl_o_3:(o.2.2.2).length≤9223372036854775807:=hb.1.2.2.2.1.1
 refine ⟨fun h=>R_eq (by grind [Zd]),fun h=>?_⟩
 exact QbR (Q:=fun x=>QbW x=QbW (Zd o)) (p:=Zb) (c:=fun x=>!(Zb x)) 0 hl_o_3 (fun _=>rfl) (fun i h=>QHi (fun r'=>r'=QbW (Zd o)) o i h) (R_eq (by grind [Zd,Zz]))
theorem Qlh:Ql Tryz.prog Qfu:=Qn fun x _=>QPe x.1
def Qfp (t:Bool):TRes:=zre (zcb t)
def QeV:TRow:=Qk 194 [(.a ctOp)] fun x=>(none,Qfp (Zd x.1))
def QXM:List TRow:=[QoN,Qgd]
def QT8:TCode :=
 (zsq [(.reg [zop 1 (.box 69 0 4),zmv 2 (zkb false)]),(zsq [(.reg [zfa 3 1 0,zld 4 3 1,zbi 5 .lss 4 (zki 1),zmv 6 5,.grp 6 false [zfa 7 1 0,zld 8 7 1,zbi 9 .gtr 8 (zki 5)] 10 9,zmv 11 10,.grp 11 false [zfa 12 1 1,zld 13 12 1,zbi 14 .lss 13 (zki 1)] 15 14,zmv 16 15,.grp 16 false [zfa 17 1 1,zld 18 17 1,zbi 19 .gtr 18 (zki 6)] 20 19,zmv 21 20,.grp 21 false [zfa 22 1 2,zld 23 22 1,zbi 24 .lss 23 (zki 1)] 25 24,zmv 26 25,.grp 26 false [zfa 27 1 2,zld 28 27 1,zbi 29 .gtr 28 (zki 6)] 30 29]),(.cond 30 (zsq [(.reg [zmv 2 (zkb false)]),.ret]) .skip)]),(zsq [(.reg [zfa 31 1 0,zld 32 31 1,zbi 33 .neq 32 (zki 1),zmv 34 33,.grp 34 true [zfa 35 1 1,zld 36 35 1,zfa 37 1 2,zld 38 37 1,zbi 39 .neq 36 38] 40 39]),(.cond 40 (zsq [(.reg [zmv 2 (zkb false)]),.ret]) .skip)]),(.draw [zfa 41 1 3,zld 42 41 1,zle 43 42,zLd 44 1 4,zca 45 221 [44],zbi 46 .eql 43 45,zmv 47 46,.grp 47 true [zfa 48 1 3,zld 49 48 1,zca 50 195 [49]] 51 50,zmv 2 51] [(0,4),(1,4),(2,4)]),.ret])
def QUQ:List (ARv × Md):=[(.t 2,.one .d)]
theorem QQv (o:TOp') (h :
 (zif ((((((decide (o.1<(1:Int)))||(decide (o.1>(5:Int))))||(decide (o.2.1<(1:Int))))||(decide (o.2.1>(6:Int))))||(decide (o.2.2.1<(1:Int))))||(decide (o.2.2.1>(6:Int)))) (K (Qfp false)) (zif ((o.1 != (1:Int))&&(o.2.1 != o.2.2.1)) (K (Qfp false)) (K (Qfp ((((o.2.2.2).length:Int)==(Yc o))&&(Zz o.2.2.2))))))):Hold (tawp QXM (0+0) QT8 (TQ 0 0 QUQ K) (Qi [(.a (Tup.cells ctOp o))])) :=
 Hold.of (by kernel_rfl) h
theorem QSq (o:TOp'):TCon Tryz.prog 194 [(.a (Tup.cells ctOp o))] (Qfp (Zd o)):=by
 refine Qo rfl fun hb=>tcg (n:=52) (sg:=QeV.sg) Qm (TOk.cons QNJ (TOk.cons Qnt TOk.nil)) (by kernel_rfl) (by kernel_rfl) (QQv _ o ?_)
 have hl_o_3:(o.2.2.2).length≤9223372036854775807:=hb.1.2.2.2.1.1
 grind [Zd,m_in]
theorem QlU:Ql Tryz.prog QeV:=Qn fun x _=>QSq x.1
def Qcx (t:Bool):TRes:=zre (zcb t)
def QaF:TRow:=Qk 74 [(.a [(.sl ctOp)])] fun x=>(none,Qcx (QT x.1))
def Qom:List TRow:=[Qfu,YN]
def QDm:TCode :=
 (zsq [(zsq [(.reg [zmv 4 3,zfa 5 1 0,zld 6 5 1,zle 7 6,zbi 8 .lss 4 7]),(.cond 8 .skip (.exit 0))]),(.block 1 (zsq [(.draw [zfa 11 1 0,zld 12 11 1,zmv 13 3,zia 14 12 13 ctOp,zLd 15 14 4,zca 16 152 [15],zno 17 16,zmv 18 17,.grp 18 false [zmv 19 3,zbi 20 .gtr 19 (zki 0),zmv 21 20,.grp 21 true [zfa 22 1 0,zld 23 22 1,zmv 24 3,zia 25 23 24 ctOp,zfa 26 25 1,zld 27 26 1,zfa 28 1 0,zld 29 28 1,zmv 30 3,zbi 31 .sub 30 (zki 1),zia 32 29 31 ctOp,zfa 33 32 2,zld 34 33 1,zbi 35 .neq 27 34] 36 35] 37 36] []),(.cond 37 (zsq [(.reg [zmv 2 (zkb false)]),.ret]) .skip)])),(.reg [zmv 9 3,zbi 10 .add 9 (zki 1),zmv 3 10])])
def QqI:List (Nat × Md):=[(1,.b [.d]),(3,.one .d)]
def QzN:TCode :=
 (zsq [(.reg [zfa 38 1 0,zld 39 38 1,zle 40 39,zca 41 77 [40,(zki 1),(zki 8)],zmv 2 41]),.ret])
def QKY:TCode :=
 (zsq [(.reg [zop 1 (.box 26 0 1),zmv 2 (zkb false)]),(zsq [(.reg [zmv 3 (zki 0)]),(.block 0 (.loop QqI QDm))]),QzN])
def Quz:List (ARv × Md):=[(.t 2,.one .d)]
def QCC:Qb:=TQ 0 0 Quz K
def QPj:Qb:=Qseq (tawp Qom 0 QzN (QCC K)) (QCC K)
def QTA:Qb:=Qblk 0 (QPj K)
def Qjm (m:List TOp') (i:Int):Prop:=Loop Qom 0 QqI QDm (QTA K) ⟨[(1,(.p 0 0 0)),(3,(zci i))],[(0,(.box [(zcs ctOp m)]))],1⟩
theorem QCL (m:List TOp') (i:Int) (h :
 (zif (decide (i<(m.length:Int))) ((((0:Int)≤i∧Int.toNat i<m.length)∧((!(!(Zd (gtd dOp m (Int.toNat i)))))=true→((decide (i>(0:Int)))=true→(((0:Int)≤i∧Int.toNat i<m.length)∧((0:Int)≤w64 (i-(1:Int))∧Int.toNat (w64 (i-(1:Int)))<m.length)))))∧(zif ((!(Zd (gtd dOp m (Int.toNat i))))||((decide (i>(0:Int)))&&(((gtd dOp m (Int.toNat i)).2.1) != ((gtd dOp m (Int.toNat (w64 (i-(1:Int))))).2.2.1)))) (K (Qcx false)) (Qjm K m (w64 (i+(1:Int)))))) (K (Qcx (m_in (m.length:Int) (1:Int) (8:Int)))))):Qjm K m i :=
 Loop.of (by kernel_rfl) h
theorem QID (m:List TOp') (h :
 (Qjm K m 0)):Hold (tawp Qom (0+0) QKY (TQ 0 0 Quz K) (Qi [(.a [(.c (.sl ctOp) m)])])) :=
 Hold.of (by kernel_rfl) h
theorem QEa (m:List TOp'):TCon Tryz.prog 74 [(.a [(.c (.sl ctOp) m)])] (Qcx (QT m)):=by
 refine Qo rfl fun hb=>tcg (n:=42) (sg:=QaF.sg) Qm (TOk.cons Qlh (TOk.cons Y5 TOk.nil)) (by kernel_rfl) (by kernel_rfl) (QID _ m ?_)
 have hl_m_0:(m).length≤9223372036854775807:=hb.1.1.1
 refine Zj m (fun r k=>Yt (QaS m k) r=Yt none m→Qjm (fun r'=>r'=Qcx (QT m)) m k) ?_ ?_ rfl
 ·intro he
  refine QCL (fun r'=>r'=Qcx (QT m)) m _ ⟨fun h=>by simp at h,fun _=>?_⟩
  grind [Yt,QT]
 ·intro k x r hk hlt hg ih he
  refine QCL (fun r'=>r'=Qcx (QT m)) m _ ⟨fun _=>?_,fun h=>by simp at h;omega⟩
  rw [Int.toNat_natCast,hg,Qp (x:=(k:Int)+1) (by omega) (by omega)]
  have ep:QaS m (k+1)=some x.2.2.1:=by simp [QaS,hg]
  rw [ep] at ih
  rcases Nat.eq_zero_or_pos k with h0 | h0
  ·subst h0
   simp only [Yt,QaS,if_true] at he
   grind [QT]
  ·have e2:=Qby h0 (by omega:k≤9223372036854775807)
   simp only [Yt,QaS,if_neg (Nat.ne_of_gt h0)] at he
   grind [QT]
theorem Qck:Ql Tryz.prog QaF:=Qn fun x _=>QEa x.1
def QbZ (t:Bool):TRes:=zre (zcb t)
def Qd1:TRow:=Qk 131 [(.a [(.sl ctOp)])] fun x=>(none,QbZ (QT x.1))
def QmF:List TRow:=[QeV]
def Qsj:TCode :=
 (zsq [(.reg [zbi 19 .lss 18 17]),(.cond 19 .skip (.exit 0)),(.block 1 (zsq [(.reg [zmv 20 18,zia 21 16 18 ctOp,zLd 22 21 4,zop 4 (.new 69 (z0s ctOp)),zmv 3 20,zst 4 22 4]),(.draw [zLd 23 4 4,zca 24 194 [23],zno 25 24,zmv 26 25,.grp 26 false [zmv 27 3,zbi 28 .gtr 27 (zki 0),zmv 29 28,.grp 29 true [zfa 30 1 0,zld 31 30 1,zmv 32 3,zbi 33 .sub 32 (zki 1),zia 34 31 33 ctOp,zfa 35 34 2,zld 36 35 1,zfa 37 4 1,zld 38 37 1,zbi 39 .neq 36 38] 40 39] 41 40] []),(.cond 41 (zsq [(.reg [zmv 2 (zkb false)]),.ret]) .skip)])),(.reg [zbi 42 .add 18 (zki 1),zmv 18 42])])
def Qx4:List (Nat × Md):=[(1,.b [.d]),(16,.one .d),(17,.one .d),(18,.one .d)]
def QuX:TCode :=
 (zsq [(.reg [zmv 2 (zkb true)]),.ret])
def QPW:TCode :=
 (zsq [(.reg [zop 1 (.box 26 0 1),zmv 2 (zkb false)]),(zsq [(.reg [zfa 5 1 0,zld 6 5 1,zle 7 6,zbi 8 .lss 7 (zki 1),zmv 9 8,.grp 9 false [zfa 10 1 0,zld 11 10 1,zle 12 11,zbi 13 .gtr 12 (zki 8)] 14 13]),(.cond 14 (zsq [(.reg [zmv 2 (zkb false)]),.ret]) .skip)]),(zsq [(.reg [zfa 15 1 0,zld 16 15 1,zle 17 16,zmv 18 (zki 0)]),(.block 0 (.loop Qx4 Qsj))]),QuX])
def Qst:List (ARv × Md):=[(.t 2,.one .d)]
def QuA:Qb:=TQ 0 0 Qst K
def QGj:Qb:=Qseq (tawp QmF 0 QuX (QuA K)) (QuA K)
def QSB:Qb:=Qblk 0 (QGj K)
def Qjl (m:List TOp') (x:Int):Prop:=Loop QmF 0 Qx4 Qsj (QSB K) ⟨[(1,(.p 0 0 0)),(16,(zcs ctOp m)),(17,(zci (m.length:Int))),(18,(zci x))],[(0,(.box [(zcs ctOp m)]))],1⟩
theorem QCD (m:List TOp') (x:Int) (h :
 (zif (decide (x<(m.length:Int))) (((0:Int)≤x∧Int.toNat x<m.length)∧(((!(!(Zd (gtd dOp m (Int.toNat x)))))=true→((decide (x>(0:Int)))=true→((0:Int)≤w64 (x-(1:Int))∧Int.toNat (w64 (x-(1:Int)))<m.length)))∧(zif ((!(Zd (gtd dOp m (Int.toNat x))))||((decide (x>(0:Int)))&&(((gtd dOp m (Int.toNat (w64 (x-(1:Int))))).2.2.1) != ((gtd dOp m (Int.toNat x)).2.1)))) (K (QbZ false)) (Qjl K m (w64 (x+(1:Int))))))) (K (QbZ true)))):Qjl K m x :=
 Loop.of (by kernel_rfl) h
theorem QRk (m:List TOp') (h :
 (zif ((decide ((m.length:Int)<(1:Int)))||(decide ((m.length:Int)>(8:Int)))) (K (QbZ false)) (Qjl K m 0))):Hold (tawp QmF (0+0) QPW (TQ 0 0 Qst K) (Qi [(.a [(.c (.sl ctOp) m)])])) :=
 Hold.of (by kernel_rfl) h
theorem QFQ (m:List TOp'):TCon Tryz.prog 131 [(.a [(.c (.sl ctOp) m)])] (QbZ (QT m)):=by
 refine Qo rfl fun hb=>tcg (n:=43) (sg:=Qd1.sg) Qm (TOk.cons QlU TOk.nil) (by kernel_rfl) (by kernel_rfl) (QRk _ m ?_)
 have hl_m_0:(m).length≤9223372036854775807:=hb.1.1.1
 refine ⟨fun h=>R_eq (by grind [QT,m_in]),fun h=>?_⟩
 have hin:m_in m.length 1 8=true:=by grind [m_in]
 refine Zj m (fun r k=>Yt (QaS m k) r=Yt none m→Qjl (fun r'=>r'=QbZ (QT m)) m k) ?_ ?_ rfl
 ·intro he
  refine QCD (fun r'=>r'=QbZ (QT m)) m _ ⟨fun h=>by simp at h,fun _=>?_⟩
  grind [Yt,QT]
 ·intro k x r hk hlt hg ih he
  refine QCD (fun r'=>r'=QbZ (QT m)) m _ ⟨fun _=>?_,fun h=>by simp at h;omega⟩
  rw [Int.toNat_natCast,hg,Qp (x:=(k:Int)+1) (by omega) (by omega)]
  have ep:QaS m (k+1)=some x.2.2.1:=by simp [QaS,hg]
  rw [ep] at ih
  rcases Nat.eq_zero_or_pos k with h0 | h0
  ·subst h0
   simp only [Yt,QaS,if_true] at he
   grind [QT]
  ·have e2:=Qby h0 (by omega:k≤9223372036854775807)
   simp only [Yt,QaS,if_neg (Nat.ne_of_gt h0)] at he
   grind [QT]
theorem QhD:Ql Tryz.prog Qd1:=Qn fun x _=>QFQ x.1
def QhT (t:Int):TRes:=zre (zci t)
def QeI:TRow:=Qk 115 [(.a [(.sl ctOp)])] fun x=>(none,QhT (Q6 x.1))
def QHN:List TRow:=[Qd1]
def QEo:TCode :=
 (zsq [(.reg [zop 1 (.box 26 0 1),zmv 2 (zki 0)]),(zsq [(.reg [zLd 3 1 1,zca 4 131 [3],zno 5 4]),(.cond 5 (zsq [(.reg [zmv 2 (zki 0)]),.ret]) .skip)]),(.reg [zfa 6 1 0,zld 7 6 1,zia 8 7 (zki 0) ctOp,zfa 9 8 1,zld 10 9 1,zmv 2 10]),.ret])
def QGg:List (ARv × Md):=[(.t 2,.one .d)]
theorem QKK (m:List TOp') (h :
 (zif (!(QT m)) (K (QhT (0:Int))) (((0:Int)≤(0:Int)∧Int.toNat (0:Int)<m.length)∧K (QhT ((gtd dOp m (Int.toNat (0:Int))).2.1))))):Hold (tawp QHN (0+0) QEo (TQ 0 0 QGg K) (Qi [(.a [(.c (.sl ctOp) m)])])) :=
 Hold.of (by kernel_rfl) h
theorem QK4 (m:List TOp'):TCon Tryz.prog 115 [(.a [(.c (.sl ctOp) m)])] (QhT (Q6 m)):=by
 refine Qo rfl fun hb=>tcg (n:=11) (sg:=QeI.sg) Qm (TOk.cons QhD TOk.nil) (by kernel_rfl) (by kernel_rfl) (QKK _ m ?_)
 have hl_m_0:(m).length≤9223372036854775807:=hb.1.1.1
 refine ⟨fun h=>R_eq (by grind [Q6]),fun h=>?_⟩
 have:=Ym (m:=m) (by simpa using h)
 exact ⟨⟨by omega,by simp;omega⟩,R_eq (by simp at h;simp [Q6,h])⟩
theorem QoJ:Ql Tryz.prog QeI:=Qn fun x _=>QK4 x.1
def Qhn (t:Int):TRes:=zre (zci t)
def QgU:TRow:=Qk 153 [(.a [(.sl ctOp)])] fun x=>(none,Qhn (Q6 x.1))
def QJz:List TRow:=[QaF]
def QF8:TCode :=
 (zsq [(.reg [zop 1 (.box 26 0 1),zmv 2 (zki 0)]),(zsq [(.reg [zLd 3 1 1,zca 4 74 [3],zno 5 4]),(.cond 5 (zsq [(.reg [zmv 2 (zki 0)]),.ret]) .skip)]),(.reg [zfa 6 1 0,zld 7 6 1,zia 8 7 (zki 0) ctOp,zfa 9 8 1,zld 10 9 1,zmv 2 10]),.ret])
def QP4:List (ARv × Md):=[(.t 2,.one .d)]
theorem QMY (m:List TOp') (h :
 (zif (!(QT m)) (K (Qhn (0:Int))) (((0:Int)≤(0:Int)∧Int.toNat (0:Int)<m.length)∧K (Qhn ((gtd dOp m (Int.toNat (0:Int))).2.1))))):Hold (tawp QJz (0+0) QF8 (TQ 0 0 QP4 K) (Qi [(.a [(.c (.sl ctOp) m)])])) :=
 Hold.of (by kernel_rfl) h
theorem QM9 (m:List TOp'):TCon Tryz.prog 153 [(.a [(.c (.sl ctOp) m)])] (Qhn (Q6 m)):=by
 refine Qo rfl fun hb=>tcg (n:=11) (sg:=QgU.sg) Qm (TOk.cons Qck TOk.nil) (by kernel_rfl) (by kernel_rfl) (QMY _ m ?_)
 have hl_m_0:(m).length≤9223372036854775807:=hb.1.1.1
 refine ⟨fun h=>R_eq (by grind [Q6]),fun h=>?_⟩
 have:=Ym (m:=m) (by simpa using h)
 exact ⟨⟨by omega,by simp;omega⟩,R_eq (by simp at h;simp [Q6,h])⟩
theorem QCO:Ql Tryz.prog QgU:=Qn fun x _=>QM9 x.1
def QjI (t:Int):TRes:=zre (zci t)
def Qf0:TRow:=Qk 117 [(.a [(.sl ctOp)])] fun x=>(none,QjI (Q5 x.1))
def QHf:List TRow:=[Qd1]
def QJf:TCode :=
 (zsq [(.reg [zop 1 (.box 26 0 1),zmv 2 (zki 0)]),(zsq [(.reg [zLd 3 1 1,zca 4 131 [3],zno 5 4]),(.cond 5 (zsq [(.reg [zmv 2 (zki 0)]),.ret]) .skip)]),(.reg [zfa 6 1 0,zld 7 6 1,zfa 8 1 0,zld 9 8 1,zle 10 9,zbi 11 .sub 10 (zki 1),zia 12 7 11 ctOp,zfa 13 12 2,zld 14 13 1,zmv 2 14]),.ret])
def QLn:List (ARv × Md):=[(.t 2,.one .d)]
theorem QG4 (m:List TOp') (h :
 (zif (!(QT m)) (K (QjI (0:Int))) (((0:Int)≤w64 ((m.length:Int)-(1:Int))∧Int.toNat (w64 ((m.length:Int)-(1:Int)))<m.length)∧K (QjI ((gtd dOp m (Int.toNat (w64 ((m.length:Int)-(1:Int))))).2.2.1))))):Hold (tawp QHf (0+0) QJf (TQ 0 0 QLn K) (Qi [(.a [(.c (.sl ctOp) m)])])) :=
 Hold.of (by kernel_rfl) h
theorem QPr (m:List TOp'):TCon Tryz.prog 117 [(.a [(.c (.sl ctOp) m)])] (QjI (Q5 m)):=by
 refine Qo rfl fun hb=>tcg (n:=15) (sg:=Qf0.sg) Qm (TOk.cons QhD TOk.nil) (by kernel_rfl) (by kernel_rfl) (QG4 _ m ?_)
 have hl_m_0:(m).length≤9223372036854775807:=hb.1.1.1
 refine ⟨fun h=>R_eq (by grind [Q5]),fun h=>?_⟩
 have:=Ym (m:=m) (by simpa using h)
 have e:=Qby this.1 (by omega:m.length≤9223372036854775807)
 rw [e.1]
 exact ⟨⟨e.2,by omega⟩,R_eq (by simp at h;simp [Q5,h])⟩
theorem Qqi:Ql Tryz.prog Qf0:=Qn fun x _=>QPr x.1
def Qhv (t:Int):TRes:=zre (zci t)
def Qi5:TRow:=Qk 154 [(.a [(.sl ctOp)])] fun x=>(none,Qhv (Q5 x.1))
def QJN:List TRow:=[QaF]
def QIR:TCode :=
 (zsq [(.reg [zop 1 (.box 26 0 1),zmv 2 (zki 0)]),(zsq [(.reg [zLd 3 1 1,zca 4 74 [3],zno 5 4]),(.cond 5 (zsq [(.reg [zmv 2 (zki 0)]),.ret]) .skip)]),(.reg [zfa 6 1 0,zld 7 6 1,zfa 8 1 0,zld 9 8 1,zle 10 9,zbi 11 .sub 10 (zki 1),zia 12 7 11 ctOp,zfa 13 12 2,zld 14 13 1,zmv 2 14]),.ret])
def QXV:List (ARv × Md):=[(.t 2,.one .d)]
theorem QO3 (m:List TOp') (h :
 (zif (!(QT m)) (K (Qhv (0:Int))) (((0:Int)≤w64 ((m.length:Int)-(1:Int))∧Int.toNat (w64 ((m.length:Int)-(1:Int)))<m.length)∧K (Qhv ((gtd dOp m (Int.toNat (w64 ((m.length:Int)-(1:Int))))).2.2.1))))):Hold (tawp QJN (0+0) QIR (TQ 0 0 QXV K) (Qi [(.a [(.c (.sl ctOp) m)])])) :=
 Hold.of (by kernel_rfl) h
theorem QHv (m:List TOp'):TCon Tryz.prog 154 [(.a [(.c (.sl ctOp) m)])] (Qhv (Q5 m)):=by
 refine Qo rfl fun hb=>tcg (n:=15) (sg:=Qi5.sg) Qm (TOk.cons Qck TOk.nil) (by kernel_rfl) (by kernel_rfl) (QO3 _ m ?_)
 have hl_m_0:(m).length≤9223372036854775807:=hb.1.1.1
 refine ⟨fun h=>R_eq (by grind [Q5]),fun h=>?_⟩
 have:=Ym (m:=m) (by simpa using h)
 have e:=Qby this.1 (by omega:m.length≤9223372036854775807)
 rw [e.1]
 exact ⟨⟨e.2,by omega⟩,R_eq (by simp at h;simp [Q5,h])⟩
theorem QuE:Ql Tryz.prog Qi5:=Qn fun x _=>QHv x.1
end
end Go.Proofs.YtjbdljkhbglnhaaGreat.Am

