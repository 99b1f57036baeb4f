/- -/
import Derived.Test.YtjbdljkhbglnhaaGreatZFP1
namespace Go.Proofs.YtjbdljkhbglnhaaGreat.Am
open Go Go.RowKit Go.Proofs.YtjbdljkhbglnhaaGreat
set_option linter.all false
noncomputable section
variable (K:TRes→Prop)
def Qbm (t:Int):TRes:=zre (zci t)
def QiM:TRow:=Qh 202 [(.a ctOp)] fun x=>(none,Qbm (Yp x.1))
def Qp2:List TRow:=[YR]
def Qtg:TCode :=
 (.cond 15 (zsq [(.reg [zfa 18 1 1,zld 19 18 1,zfa 20 1 2,zld 21 20 1,zbi 22 .mul 19 21,zmv 2 22]),.ret]) (zsq [(.reg [zbi 24 .eql 14 (zki 2),zmv 23 24]),(.cond 23 (zsq [(.reg [zfa 25 1 1,zld 26 25 1,zmv 2 26]),.ret]) (zsq [(.reg [zbi 28 .eql 14 (zki 4),zmv 27 28]),(.cond 27 (zsq [(.reg [zmv 2 (zki 1)]),.ret]) .skip)]))]))
def QUM:List (Nat × Md):=[(1,.b (zds 4)),(14,.one .d),(15,.one .d)]
def QVV:TCode:=.wk QUM Qtg
def Qsr:TCode :=
 (zsq [(.reg [zmv 2 (zki 0)]),.ret])
def QTI:TCode :=
 (zsq [(.reg [zop 1 (.box 69 0 4),zmv 2 (zki 0)]),(zsq [(.reg [zfa 3 1 1,zld 4 3 1,zca 5 77 [4,(zki 1),(zki 6)],zno 6 5,zmv 7 6,.grp 7 false [zfa 8 1 2,zld 9 8 1,zca 10 77 [9,(zki 1),(zki 6)],zno 11 10] 12 11]),(.cond 12 (zsq [(.reg [zmv 2 (zki 0)]),.ret]) .skip)]),(zsq [(.reg [zfa 13 1 0,zld 14 13 1]),(.block 0 (zsq [(zsq [(.reg [zbi 16 .eql 14 (zki 1),zmv 15 16]),(.cond 15 .skip (.reg [zbi 17 .eql 14 (zki 5),zmv 15 17]))]),QVV]))]),Qsr])
def QwK:List (ARv × Md):=[(.t 2,.one .d)]
def QxF:Qb:=TQ 0 0 QwK K
def QRs:Qb:=Qseq (tawp Qp2 0 Qsr (QxF K)) (QxF K)
def QHS:Qb:=Qblk 0 (QRs K)
def Qny (o:TOp') (x:Bool):Prop:=tawp Qp2 0 Qtg (QHS K) ⟨[(1,(.p 0 0 0)),(14,(zci o.1)),(15,(zcb x))],[(0,(.box (Tup.cells ctOp o)))],1⟩
theorem Qwq (o:TOp') (x:Bool) (h :
 (zif x (K (Qbm (w64 (o.2.1*o.2.2.1)))) (zif (o.1==(2:Int)) (K (Qbm o.2.1)) (zif (o.1==(4:Int)) (K (Qbm (1:Int))) (K (Qbm (0:Int))))))):Hold (Qny K o x) :=
 Hold.of (by kernel_rfl) h
theorem QWv (o:TOp') (h :
 (zif ((!(m_in o.2.1 (1:Int) (6:Int)))||(!(m_in o.2.2.1 (1:Int) (6:Int)))) (K (Qbm (0:Int))) (zif (o.1==(1:Int)) (Qny K o (o.1==(1:Int))) (Qny K o (o.1==(5:Int)))))):Hold (tawp Qp2 (0+0) QTI (TQ 0 0 QwK K) (Qf [(.a (Tup.cells ctOp o))])) :=
 Hold.of (by kernel_rfl) h
theorem QXO (o:TOp'):TCon Tryz.prog 202 [(.a (Tup.cells ctOp o))] (Qbm (Yp o)):=by
 refine Qo rfl fun hb=>tcg (n:=29) (sg:=QiM.sg) Qj (TOk.cons Y9 TOk.nil) (by kernel_rfl) (by kernel_rfl) (QWv _ o ?_)
 have hl_o_3:(o.2.2.2).length≤9223372036854775807:=hb.1.2.2.2.1.1
 refine ⟨fun h=>R_eq (by grind [Yp]),fun h=>?_⟩
 have hi:m_in o.2.1 1 6=true∧m_in o.2.2.1 1 6=true:=by simpa using h
 have hm:=QdJ (QV.1 hi.1).1 (QV.1 hi.1).2 (QV.1 hi.2).1 (QV.1 hi.2).2
 have hw:=Qq (x:=o.2.1*o.2.2.1) (by omega) (by omega)
 refine ⟨fun h1=>(Qwq (fun r'=>r'=Qbm (Yp o)) o _ ?_).h,fun h1=>(Qwq (fun r'=>r'=Qbm (Yp o)) o _ ?_).h⟩ <;> grind [Yp]
theorem Qwa:Qg Tryz.prog QiM:=Qk fun x _=>QXO x.1
def Qbu (t:Int):TRes:=zre (zci t)
def Qoh:TRow:=Qh 221 [(.a ctOp)] fun x=>(none,Qbu (Yp x.1))
def QrO:List TRow:=[]
def QBT:TCode :=
 (.cond 23 (zsq [(.reg [zfa 26 1 1,zld 27 26 1,zfa 28 1 2,zld 29 28 1,zbi 30 .mul 27 29,zmv 2 30]),.ret]) (zsq [(.reg [zbi 32 .eql 22 (zki 2),zmv 31 32]),(.cond 31 (zsq [(.reg [zfa 33 1 1,zld 34 33 1,zmv 2 34]),.ret]) (zsq [(.reg [zbi 36 .eql 22 (zki 4),zmv 35 36]),(.cond 35 (zsq [(.reg [zmv 2 (zki 1)]),.ret]) .skip)]))]))
def Q00:List (Nat × Md):=[(1,.b (zds 4)),(22,.one .d),(23,.one .d)]
def QVT:TCode:=.wk Q00 QBT
def QuR:TCode :=
 (zsq [(.reg [zmv 2 (zki 0)]),.ret])
def QZY:TCode :=
 (zsq [(.reg [zop 1 (.box 69 0 4),zmv 2 (zki 0)]),(zsq [(.reg [zfa 3 1 1,zld 4 3 1,zbi 5 .lss 4 (zki 1),zmv 6 5,.grp 6 false [zfa 7 1 1,zld 8 7 1,zbi 9 .gtr 8 (zki 6)] 10 9,zmv 11 10,.grp 11 false [zfa 12 1 2,zld 13 12 1,zbi 14 .lss 13 (zki 1)] 15 14,zmv 16 15,.grp 16 false [zfa 17 1 2,zld 18 17 1,zbi 19 .gtr 18 (zki 6)] 20 19]),(.cond 20 (zsq [(.reg [zmv 2 (zki 0)]),.ret]) .skip)]),(zsq [(.reg [zfa 21 1 0,zld 22 21 1]),(.block 0 (zsq [(zsq [(.reg [zbi 24 .eql 22 (zki 1),zmv 23 24]),(.cond 23 .skip (.reg [zbi 25 .eql 22 (zki 5),zmv 23 25]))]),QVT]))]),QuR])
def QFV:List (ARv × Md):=[(.t 2,.one .d)]
def QBs:Qb:=TQ 0 0 QFV K
def QOH:Qb:=Qseq (tawp QrO 0 QuR (QBs K)) (QBs K)
def QRu:Qb:=Qblk 0 (QOH K)
def QpS (o:TOp') (x:Bool):Prop:=tawp QrO 0 QBT (QRu K) ⟨[(1,(.p 0 0 0)),(22,(zci o.1)),(23,(zcb x))],[(0,(.box (Tup.cells ctOp o)))],1⟩
theorem QuE (o:TOp') (x:Bool) (h :
 (zif x (K (Qbu (w64 (o.2.1*o.2.2.1)))) (zif (o.1==(2:Int)) (K (Qbu o.2.1)) (zif (o.1==(4:Int)) (K (Qbu (1:Int))) (K (Qbu (0:Int))))))):Hold (QpS K o x) :=
 Hold.of (by kernel_rfl) h
theorem QS1 (o:TOp') (h :
 (zif ((((decide (o.2.1<(1:Int)))||(decide (o.2.1>(6:Int))))||(decide (o.2.2.1<(1:Int))))||(decide (o.2.2.1>(6:Int)))) (K (Qbu (0:Int))) (zif (o.1==(1:Int)) (QpS K o (o.1==(1:Int))) (QpS K o (o.1==(5:Int)))))):Hold (tawp QrO (0+0) QZY (TQ 0 0 QFV K) (Qf [(.a (Tup.cells ctOp o))])) :=
 Hold.of (by kernel_rfl) h
theorem QPP (o:TOp'):TCon Tryz.prog 221 [(.a (Tup.cells ctOp o))] (Qbu (Yp o)):=by
 refine Qo rfl fun hb=>tcg (n:=37) (sg:=Qoh.sg) Qj TOk.nil (by kernel_rfl) (by kernel_rfl) (QS1 _ o ?_)
 have hl_o_3:(o.2.2.2).length≤9223372036854775807:=hb.1.2.2.2.1.1
 refine ⟨fun h=>R_eq (by grind [Yp,m_in]),fun h=>?_⟩
 have hi:m_in o.2.1 1 6=true∧m_in o.2.2.1 1 6=true:=by grind [m_in]
 have hm:=QdJ (QV.1 hi.1).1 (QV.1 hi.1).2 (QV.1 hi.2).1 (QV.1 hi.2).2
 have hw:=Qq (x:=o.2.1*o.2.2.1) (by omega) (by omega)
 refine ⟨fun h1=>(QuE (fun r'=>r'=Qbu (Yp o)) o _ ?_).h,fun h1=>(QuE (fun r'=>r'=Qbu (Yp o)) o _ ?_).h⟩ <;> grind [Yp]
theorem QHR:Qg Tryz.prog Qoh:=Qk fun x _=>QPP x.1
def Qcj (t:Bool):TRes:=zre (zcb t)
def Qgr:TRow:=Qh 152 [(.a ctOp)] fun x=>(none,Qcj (Zf x.1))
def Qr6:List TRow:=[YR,QiM,QeJ]
def Qz6:TCode :=
 (zsq [(zsq [(.reg [zmv 40 3,zfa 41 1 3,zld 42 41 1,zle 43 42,zbi 44 .lss 40 43]),(.cond 44 .skip (.exit 0))]),(.block 1 (zsq [(.reg [zfa 47 1 3,zld 48 47 1,zmv 49 3,zia 50 48 49 [TI],zld 51 50 1,zca 52 110 [51],zno 53 52]),(.cond 53 (zsq [(.reg [zmv 2 (zkb false)]),.ret]) .skip)])),(.reg [zmv 45 3,zbi 46 .add 45 (zki 1),zmv 3 46])])
def QAV:List (Nat × Md):=[(1,.b (zds 4)),(3,.one .d)]
def QuH:TCode :=
 (zsq [(.reg [zmv 2 (zkb true)]),.ret])
def QP8:TCode :=
 (zsq [(.reg [zop 1 (.box 69 0 4),zmv 2 (zkb false)]),(zsq [(.draw [zfa 4 1 0,zld 5 4 1,zca 6 77 [5,(zki 1),(zki 5)],zno 7 6,zmv 8 7,.grp 8 false [zfa 9 1 1,zld 10 9 1,zca 11 77 [10,(zki 1),(zki 6)],zno 12 11] 13 12,zmv 14 13,.grp 14 false [zfa 15 1 2,zld 16 15 1,zca 17 77 [16,(zki 1),(zki 6)],zno 18 17] 19 18,zmv 20 19,.grp 20 false [zfa 21 1 0,zld 22 21 1,zbi 23 .neq 22 (zki 1),zmv 24 23,.grp 24 true [zfa 25 1 1,zld 26 25 1,zfa 27 1 2,zld 28 27 1,zbi 29 .neq 26 28] 30 29] 31 30,zmv 32 31,.grp 32 false [zfa 33 1 3,zld 34 33 1,zle 35 34,zLd 36 1 4,zca 37 202 [36],zbi 38 .neq 35 37] 39 38] [(29,33),(30,33),(31,33)]),(.cond 39 (zsq [(.reg [zmv 2 (zkb false)]),.ret]) .skip)]),(zsq [(.reg [zmv 3 (zki 0)]),(.block 0 (.loop QAV Qz6))]),QuH])
def Qy8:List (ARv × Md):=[(.t 2,.one .d)]
def Quz:Qb:=TQ 0 0 Qy8 K
def QYS:Qb:=Qseq (tawp Qr6 0 QuH (Quz K)) (Quz K)
def QMG:Qb:=Qblk 0 (QYS K)
def Ql6 (o:TOp') (i:Int):Prop:=Loop Qr6 0 QAV Qz6 (QMG K) ⟨[(1,(.p 0 0 0)),(3,(zci i))],[(0,(.box (Tup.cells ctOp o)))],1⟩
theorem QZa (o:TOp') (i:Int) (h :
 (zif (decide (i<((o.2.2.2).length:Int))) (((0:Int)≤i∧Int.toNat i<(o.2.2.2).length)∧(zif (!(Zc (gtd (0:Int) o.2.2.2 (Int.toNat i)))) (K (Qcj false)) (Ql6 K o (w64 (i+(1:Int)))))) (K (Qcj true)))):Ql6 K o i :=
 Loop.of (by kernel_rfl) h
theorem Q3g (o:TOp') (h :
 (zif (((((!(m_in o.1 (1:Int) (5:Int)))||(!(m_in o.2.1 (1:Int) (6:Int))))||(!(m_in o.2.2.1 (1:Int) (6:Int))))||((o.1 != (1:Int))&&(o.2.1 != o.2.2.1)))||(((o.2.2.2).length:Int) != (Yp o))) (K (Qcj false)) (Ql6 K o 0))):Hold (tawp Qr6 (0+0) QP8 (TQ 0 0 Qy8 K) (Qf [(.a (Tup.cells ctOp o))])) :=
 Hold.of (by kernel_rfl) h
theorem QT4 (o:TOp'):TCon Tryz.prog 152 [(.a (Tup.cells ctOp o))] (Qcj (Zf o)):=by
 refine Qo rfl fun hb=>tcg (n:=54) (sg:=Qgr.sg) Qj (TOk.cons Y9 (TOk.cons Qwa (TOk.cons Qhd TOk.nil))) (by kernel_rfl) (by kernel_rfl) (Q3g _ o ?_)
 have hl_o_3:(o.2.2.2).length≤9223372036854775807:=hb.1.2.2.2.1.1
 refine ⟨fun h=>R_eq (by grind [Zf]),fun h=>?_⟩
 exact Qba (Q:=fun x=>Qcj x=Qcj (Zf o)) (p:=Zc) (c:=fun x=>!(Zc x)) 0 hl_o_3 (fun _=>rfl) (fun i h=>QZa (fun r'=>r'=Qcj (Zf o)) o i h) (R_eq (by grind [Zf,ZE]))
theorem QlM:Qg Tryz.prog Qgr:=Qk fun x _=>QT4 x.1
def Qgf (t:Bool):TRes:=zre (zcb t)
def QgO:TRow:=Qh 194 [(.a ctOp)] fun x=>(none,Qgf (Zf x.1))
def QHs:List TRow:=[Qoh,QgU]
def QWh:TCode :=
 (zsq [(.reg [zop 1 (.box 69 0 4),zmv 2 (zkb false)]),(zsq [(.reg [zfa 3 1 0,zld 4 3 1,zbi 5 .lss 4 (zki 1),zmv 6 5,.grp 6 false [zfa 7 1 0,zld 8 7 1,zbi 9 .gtr 8 (zki 5)] 10 9,zmv 11 10,.grp 11 false [zfa 12 1 1,zld 13 12 1,zbi 14 .lss 13 (zki 1)] 15 14,zmv 16 15,.grp 16 false [zfa 17 1 1,zld 18 17 1,zbi 19 .gtr 18 (zki 6)] 20 19,zmv 21 20,.grp 21 false [zfa 22 1 2,zld 23 22 1,zbi 24 .lss 23 (zki 1)] 25 24,zmv 26 25,.grp 26 false [zfa 27 1 2,zld 28 27 1,zbi 29 .gtr 28 (zki 6)] 30 29]),(.cond 30 (zsq [(.reg [zmv 2 (zkb false)]),.ret]) .skip)]),(zsq [(.reg [zfa 31 1 0,zld 32 31 1,zbi 33 .neq 32 (zki 1),zmv 34 33,.grp 34 true [zfa 35 1 1,zld 36 35 1,zfa 37 1 2,zld 38 37 1,zbi 39 .neq 36 38] 40 39]),(.cond 40 (zsq [(.reg [zmv 2 (zkb false)]),.ret]) .skip)]),(.draw [zfa 41 1 3,zld 42 41 1,zle 43 42,zLd 44 1 4,zca 45 221 [44],zbi 46 .eql 43 45,zmv 47 46,.grp 47 true [zfa 48 1 3,zld 49 48 1,zca 50 195 [49]] 51 50,zmv 2 51] [(0,4),(1,4),(2,4)]),.ret])
def QWC:List (ARv × Md):=[(.t 2,.one .d)]
theorem QQn (o:TOp') (h :
 (zif ((((((decide (o.1<(1:Int)))||(decide (o.1>(5:Int))))||(decide (o.2.1<(1:Int))))||(decide (o.2.1>(6:Int))))||(decide (o.2.2.1<(1:Int))))||(decide (o.2.2.1>(6:Int)))) (K (Qgf false)) (zif ((o.1 != (1:Int))&&(o.2.1 != o.2.2.1)) (K (Qgf false)) (K (Qgf ((((o.2.2.2).length:Int)==(Yp o))&&(ZE o.2.2.2))))))):Hold (tawp QHs (0+0) QWh (TQ 0 0 QWC K) (Qf [(.a (Tup.cells ctOp o))])) :=
 Hold.of (by kernel_rfl) h
theorem QWG (o:TOp'):TCon Tryz.prog 194 [(.a (Tup.cells ctOp o))] (Qgf (Zf o)):=by
 refine Qo rfl fun hb=>tcg (n:=52) (sg:=QgO.sg) Qj (TOk.cons QHR (TOk.cons QnX TOk.nil)) (by kernel_rfl) (by kernel_rfl) (QQn _ o ?_)
 have hl_o_3:(o.2.2.2).length≤9223372036854775807:=hb.1.2.2.2.1.1
 grind [Zf,m_in]
theorem QqM:Qg Tryz.prog QgO:=Qk fun x _=>QWG x.1
def QcG (t:Bool):TRes:=zre (zcb t)
def Qa9:TRow:=Qh 74 [(.a [(.sl ctOp)])] fun x=>(none,QcG (QT x.1))
def Qma:List TRow:=[Qgr,YR]
def QHa:TCode :=
 (zsq [(zsq [(.reg [zmv 4 3,zfa 5 1 0,zld 6 5 1,zle 7 6,zbi 8 .lss 4 7]),(.cond 8 .skip (.exit 0))]),(.block 1 (zsq [(.draw [zfa 11 1 0,zld 12 11 1,zmv 13 3,zia 14 12 13 ctOp,zLd 15 14 4,zca 16 152 [15],zno 17 16,zmv 18 17,.grp 18 false [zmv 19 3,zbi 20 .gtr 19 (zki 0),zmv 21 20,.grp 21 true [zfa 22 1 0,zld 23 22 1,zmv 24 3,zia 25 23 24 ctOp,zfa 26 25 1,zld 27 26 1,zfa 28 1 0,zld 29 28 1,zmv 30 3,zbi 31 .sub 30 (zki 1),zia 32 29 31 ctOp,zfa 33 32 2,zld 34 33 1,zbi 35 .neq 27 34] 36 35] 37 36] []),(.cond 37 (zsq [(.reg [zmv 2 (zkb false)]),.ret]) .skip)])),(.reg [zmv 9 3,zbi 10 .add 9 (zki 1),zmv 3 10])])
def QDV:List (Nat × Md):=[(1,.b [.d]),(3,.one .d)]
def QCe:TCode :=
 (zsq [(.reg [zfa 38 1 0,zld 39 38 1,zle 40 39,zca 41 77 [40,(zki 1),(zki 8)],zmv 2 41]),.ret])
def Q2o:TCode :=
 (zsq [(.reg [zop 1 (.box 26 0 1),zmv 2 (zkb false)]),(zsq [(.reg [zmv 3 (zki 0)]),(.block 0 (.loop QDV QHa))]),QCe])
def Qsp:List (ARv × Md):=[(.t 2,.one .d)]
def QDm:Qb:=TQ 0 0 Qsp K
def QKY:Qb:=Qseq (tawp Qma 0 QCe (QDm K)) (QDm K)
def QJZ:Qb:=Qblk 0 (QKY K)
def QhG (m:List TOp') (i:Int):Prop:=Loop Qma 0 QDV QHa (QJZ K) ⟨[(1,(.p 0 0 0)),(3,(zci i))],[(0,(.box [(zcs ctOp m)]))],1⟩
theorem QF7 (m:List TOp') (i:Int) (h :
 (zif (decide (i<(m.length:Int))) ((((0:Int)≤i∧Int.toNat i<m.length)∧((!(!(Zf (gtd dOp m (Int.toNat i)))))=true→((decide (i>(0:Int)))=true→(((0:Int)≤i∧Int.toNat i<m.length)∧((0:Int)≤w64 (i-(1:Int))∧Int.toNat (w64 (i-(1:Int)))<m.length)))))∧(zif ((!(Zf (gtd dOp m (Int.toNat i))))||((decide (i>(0:Int)))&&(((gtd dOp m (Int.toNat i)).2.1) != ((gtd dOp m (Int.toNat (w64 (i-(1:Int))))).2.2.1)))) (K (QcG false)) (QhG K m (w64 (i+(1:Int)))))) (K (QcG (m_in (m.length:Int) (1:Int) (8:Int)))))):QhG K m i :=
 Loop.of (by kernel_rfl) h
theorem Q0h (m:List TOp') (h :
 (QhG K m 0)):Hold (tawp Qma (0+0) Q2o (TQ 0 0 Qsp K) (Qf [(.a [(.c (.sl ctOp) m)])])) :=
 Hold.of (by kernel_rfl) h
theorem QRz (m:List TOp'):TCon Tryz.prog 74 [(.a [(.c (.sl ctOp) m)])] (QcG (QT m)):=by
 refine Qo rfl fun hb=>tcg (n:=42) (sg:=Qa9.sg) Qj (TOk.cons QlM (TOk.cons Y9 TOk.nil)) (by kernel_rfl) (by kernel_rfl) (Q0h _ m ?_)
 have hl_m_0:(m).length≤9223372036854775807:=hb.1.1.1
 refine Zk m (fun r k=>YG (Qa5 m k) r=YG none m→QhG (fun r'=>r'=QcG (QT m)) m k) ?_ ?_ rfl
 ·intro he
  refine QF7 (fun r'=>r'=QcG (QT m)) m _ ⟨fun h=>by simp at h,fun _=>?_⟩
  grind [YG,QT]
 ·intro k x r hk hlt hg ih he
  refine QF7 (fun r'=>r'=QcG (QT m)) m _ ⟨fun _=>?_,fun h=>by simp at h;omega⟩
  rw [Int.toNat_natCast,hg,Qq (x:=(k:Int)+1) (by omega) (by omega)]
  have ep:Qa5 m (k+1)=some x.2.2.1:=by simp [Qa5,hg]
  rw [ep] at ih
  rcases Nat.eq_zero_or_pos k with h0 | h0
  ·subst h0
   simp only [YG,Qa5,if_true] at he
   grind [QT]
  ·have e2:=QaY h0 (by omega:k≤9223372036854775807)
   simp only [YG,Qa5,if_neg (Nat.ne_of_gt h0)] at he
   grind [QT]
theorem QbY:Qg Tryz.prog Qa9:=Qk fun x _=>QRz x.1
def QbO (t:Bool):TRes:=zre (zcb t)
def Qaq:TRow:=Qh 131 [(.a [(.sl ctOp)])] fun x=>(none,QbO (QT x.1))
def Qmo:List TRow:=[QgO]
def QvM:TCode :=
 (zsq [(.reg [zbi 19 .lss 18 17]),(.cond 19 .skip (.exit 0)),(.block 1 (zsq [(.reg [zmv 20 18,zia 21 16 18 ctOp,zLd 22 21 4,zop 4 (.new 69 (z0s ctOp)),zmv 3 20,zst 4 22 4]),(.draw [zLd 23 4 4,zca 24 194 [23],zno 25 24,zmv 26 25,.grp 26 false [zmv 27 3,zbi 28 .gtr 27 (zki 0),zmv 29 28,.grp 29 true [zfa 30 1 0,zld 31 30 1,zmv 32 3,zbi 33 .sub 32 (zki 1),zia 34 31 33 ctOp,zfa 35 34 2,zld 36 35 1,zfa 37 4 1,zld 38 37 1,zbi 39 .neq 36 38] 40 39] 41 40] []),(.cond 41 (zsq [(.reg [zmv 2 (zkb false)]),.ret]) .skip)])),(.reg [zbi 42 .add 18 (zki 1),zmv 18 42])])
def QAw:List (Nat × Md):=[(1,.b [.d]),(16,.one .d),(17,.one .d),(18,.one .d)]
def QFp:TCode :=
 (zsq [(.reg [zmv 2 (zkb true)]),.ret])
def QNA:TCode :=
 (zsq [(.reg [zop 1 (.box 26 0 1),zmv 2 (zkb false)]),(zsq [(.reg [zfa 5 1 0,zld 6 5 1,zle 7 6,zbi 8 .lss 7 (zki 1),zmv 9 8,.grp 9 false [zfa 10 1 0,zld 11 10 1,zle 12 11,zbi 13 .gtr 12 (zki 8)] 14 13]),(.cond 14 (zsq [(.reg [zmv 2 (zkb false)]),.ret]) .skip)]),(zsq [(.reg [zfa 15 1 0,zld 16 15 1,zle 17 16,zmv 18 (zki 0)]),(.block 0 (.loop QAw QvM))]),QFp])
def QtZ:List (ARv × Md):=[(.t 2,.one .d)]
def QGn:Qb:=TQ 0 0 QtZ K
def Q29:Qb:=Qseq (tawp Qmo 0 QFp (QGn K)) (QGn K)
def QTz:Qb:=Qblk 0 (Q29 K)
def Qj5 (m:List TOp') (x:Int):Prop:=Loop Qmo 0 QAw QvM (QTz K) ⟨[(1,(.p 0 0 0)),(16,(zcs ctOp m)),(17,(zci (m.length:Int))),(18,(zci x))],[(0,(.box [(zcs ctOp m)]))],1⟩
theorem Qy3 (m:List TOp') (x:Int) (h :
 (zif (decide (x<(m.length:Int))) (((0:Int)≤x∧Int.toNat x<m.length)∧(((!(!(Zf (gtd dOp m (Int.toNat x)))))=true→((decide (x>(0:Int)))=true→((0:Int)≤w64 (x-(1:Int))∧Int.toNat (w64 (x-(1:Int)))<m.length)))∧(zif ((!(Zf (gtd dOp m (Int.toNat x))))||((decide (x>(0:Int)))&&(((gtd dOp m (Int.toNat (w64 (x-(1:Int))))).2.2.1) != ((gtd dOp m (Int.toNat x)).2.1)))) (K (QbO false)) (Qj5 K m (w64 (x+(1:Int))))))) (K (QbO true)))):Qj5 K m x :=
 Loop.of (by kernel_rfl) h
theorem QVP (m:List TOp') (h :
 (zif ((decide ((m.length:Int)<(1:Int)))||(decide ((m.length:Int)>(8:Int)))) (K (QbO false)) (Qj5 K m 0))):Hold (tawp Qmo (0+0) QNA (TQ 0 0 QtZ K) (Qf [(.a [(.c (.sl ctOp) m)])])) :=
 Hold.of (by kernel_rfl) h
theorem QXR (m:List TOp'):TCon Tryz.prog 131 [(.a [(.c (.sl ctOp) m)])] (QbO (QT m)):=by
 refine Qo rfl fun hb=>tcg (n:=43) (sg:=Qaq.sg) Qj (TOk.cons QqM TOk.nil) (by kernel_rfl) (by kernel_rfl) (QVP _ m ?_)
 have hl_m_0:(m).length≤9223372036854775807:=hb.1.1.1
 refine ⟨fun h=>R_eq (by grind [QT,m_in]),fun h=>?_⟩
 have hin:m_in m.length 1 8=true:=by grind [m_in]
 refine Zk m (fun r k=>YG (Qa5 m k) r=YG none m→Qj5 (fun r'=>r'=QbO (QT m)) m k) ?_ ?_ rfl
 ·intro he
  refine Qy3 (fun r'=>r'=QbO (QT m)) m _ ⟨fun h=>by simp at h,fun _=>?_⟩
  grind [YG,QT]
 ·intro k x r hk hlt hg ih he
  refine Qy3 (fun r'=>r'=QbO (QT m)) m _ ⟨fun _=>?_,fun h=>by simp at h;omega⟩
  rw [Int.toNat_natCast,hg,Qq (x:=(k:Int)+1) (by omega) (by omega)]
  have ep:Qa5 m (k+1)=some x.2.2.1:=by simp [Qa5,hg]
  rw [ep] at ih
  rcases Nat.eq_zero_or_pos k with h0 | h0
  ·subst h0
   simp only [YG,Qa5,if_true] at he
   grind [QT]
  ·have e2:=QaY h0 (by omega:k≤9223372036854775807)
   simp only [YG,Qa5,if_neg (Nat.ne_of_gt h0)] at he
   grind [QT]
theorem Qbb:Qg Tryz.prog Qaq:=Qk fun x _=>QXR x.1
def Qhq (t:Int):TRes:=zre (zci t)
def Qe2:TRow:=Qh 115 [(.a [(.sl ctOp)])] fun x=>(none,Qhq (Za x.1))
def QNX:List TRow:=[Qaq]
def QH7:TCode :=
 (zsq [(.reg [zop 1 (.box 26 0 1),zmv 2 (zki 0)]),(zsq [(.reg [zLd 3 1 1,zca 4 131 [3],zno 5 4]),(.cond 5 (zsq [(.reg [zmv 2 (zki 0)]),.ret]) .skip)]),(.reg [zfa 6 1 0,zld 7 6 1,zia 8 7 (zki 0) ctOp,zfa 9 8 1,zld 10 9 1,zmv 2 10]),.ret])
def QJE:List (ARv × Md):=[(.t 2,.one .d)]
theorem QRg (m:List TOp') (h :
 (zif (!(QT m)) (K (Qhq (0:Int))) (((0:Int)≤(0:Int)∧Int.toNat (0:Int)<m.length)∧K (Qhq ((gtd dOp m (Int.toNat (0:Int))).2.1))))):Hold (tawp QNX (0+0) QH7 (TQ 0 0 QJE K) (Qf [(.a [(.c (.sl ctOp) m)])])) :=
 Hold.of (by kernel_rfl) h
theorem QSr (m:List TOp'):TCon Tryz.prog 115 [(.a [(.c (.sl ctOp) m)])] (Qhq (Za m)):=by
 refine Qo rfl fun hb=>tcg (n:=11) (sg:=Qe2.sg) Qj (TOk.cons Qbb TOk.nil) (by kernel_rfl) (by kernel_rfl) (QRg _ m ?_)
 have hl_m_0:(m).length≤9223372036854775807:=hb.1.1.1
 refine ⟨fun h=>R_eq (by grind [Za]),fun h=>?_⟩
 have:=Yh (m:=m) (by simpa using h)
 exact ⟨⟨by omega,by simp;omega⟩,R_eq (by simp at h;simp [Za,h])⟩
theorem Qi6:Qg Tryz.prog Qe2:=Qk fun x _=>QSr x.1
def Qlv (t:Int):TRes:=zre (zci t)
def Qis:TRow:=Qh 153 [(.a [(.sl ctOp)])] fun x=>(none,Qlv (Za x.1))
def QUG:List TRow:=[Qa9]
def QWd:TCode :=
 (zsq [(.reg [zop 1 (.box 26 0 1),zmv 2 (zki 0)]),(zsq [(.reg [zLd 3 1 1,zca 4 74 [3],zno 5 4]),(.cond 5 (zsq [(.reg [zmv 2 (zki 0)]),.ret]) .skip)]),(.reg [zfa 6 1 0,zld 7 6 1,zia 8 7 (zki 0) ctOp,zfa 9 8 1,zld 10 9 1,zmv 2 10]),.ret])
def QJ0:List (ARv × Md):=[(.t 2,.one .d)]
theorem QMR (m:List TOp') (h :
 (zif (!(QT m)) (K (Qlv (0:Int))) (((0:Int)≤(0:Int)∧Int.toNat (0:Int)<m.length)∧K (Qlv ((gtd dOp m (Int.toNat (0:Int))).2.1))))):Hold (tawp QUG (0+0) QWd (TQ 0 0 QJ0 K) (Qf [(.a [(.c (.sl ctOp) m)])])) :=
 Hold.of (by kernel_rfl) h
theorem Q04 (m:List TOp'):TCon Tryz.prog 153 [(.a [(.c (.sl ctOp) m)])] (Qlv (Za m)):=by
 refine Qo rfl fun hb=>tcg (n:=11) (sg:=Qis.sg) Qj (TOk.cons QbY TOk.nil) (by kernel_rfl) (by kernel_rfl) (QMR _ m ?_)
 have hl_m_0:(m).length≤9223372036854775807:=hb.1.1.1
 refine ⟨fun h=>R_eq (by grind [Za]),fun h=>?_⟩
 have:=Yh (m:=m) (by simpa using h)
 exact ⟨⟨by omega,by simp;omega⟩,R_eq (by simp at h;simp [Za,h])⟩
theorem Qwn:Qg Tryz.prog Qis:=Qk fun x _=>Q04 x.1
def QhN (t:Int):TRes:=zre (zci t)
def Qd2:TRow:=Qh 117 [(.a [(.sl ctOp)])] fun x=>(none,QhN (Q8 x.1))
def QRT:List TRow:=[Qaq]
def QPd:TCode :=
 (zsq [(.reg [zop 1 (.box 26 0 1),zmv 2 (zki 0)]),(zsq [(.reg [zLd 3 1 1,zca 4 131 [3],zno 5 4]),(.cond 5 (zsq [(.reg [zmv 2 (zki 0)]),.ret]) .skip)]),(.reg [zfa 6 1 0,zld 7 6 1,zfa 8 1 0,zld 9 8 1,zle 10 9,zbi 11 .sub 10 (zki 1),zia 12 7 11 ctOp,zfa 13 12 2,zld 14 13 1,zmv 2 14]),.ret])
def QQe:List (ARv × Md):=[(.t 2,.one .d)]
theorem QJ5 (m:List TOp') (h :
 (zif (!(QT m)) (K (QhN (0:Int))) (((0:Int)≤w64 ((m.length:Int)-(1:Int))∧Int.toNat (w64 ((m.length:Int)-(1:Int)))<m.length)∧K (QhN ((gtd dOp m (Int.toNat (w64 ((m.length:Int)-(1:Int))))).2.2.1))))):Hold (tawp QRT (0+0) QPd (TQ 0 0 QQe K) (Qf [(.a [(.c (.sl ctOp) m)])])) :=
 Hold.of (by kernel_rfl) h
theorem QXu (m:List TOp'):TCon Tryz.prog 117 [(.a [(.c (.sl ctOp) m)])] (QhN (Q8 m)):=by
 refine Qo rfl fun hb=>tcg (n:=15) (sg:=Qd2.sg) Qj (TOk.cons Qbb TOk.nil) (by kernel_rfl) (by kernel_rfl) (QJ5 _ m ?_)
 have hl_m_0:(m).length≤9223372036854775807:=hb.1.1.1
 refine ⟨fun h=>R_eq (by grind [Q8]),fun h=>?_⟩
 have:=Yh (m:=m) (by simpa using h)
 have e:=QaY this.1 (by omega:m.length≤9223372036854775807)
 rw [e.1]
 exact ⟨⟨e.2,by omega⟩,R_eq (by simp at h;simp [Q8,h])⟩
theorem Qlq:Qg Tryz.prog Qd2:=Qk fun x _=>QXu x.1
def Qht (t:Int):TRes:=zre (zci t)
def Qig:TRow:=Qh 154 [(.a [(.sl ctOp)])] fun x=>(none,Qht (Q8 x.1))
def Q0I:List TRow:=[Qa9]
def QPY:TCode :=
 (zsq [(.reg [zop 1 (.box 26 0 1),zmv 2 (zki 0)]),(zsq [(.reg [zLd 3 1 1,zca 4 74 [3],zno 5 4]),(.cond 5 (zsq [(.reg [zmv 2 (zki 0)]),.ret]) .skip)]),(.reg [zfa 6 1 0,zld 7 6 1,zfa 8 1 0,zld 9 8 1,zle 10 9,zbi 11 .sub 10 (zki 1),zia 12 7 11 ctOp,zfa 13 12 2,zld 14 13 1,zmv 2 14]),.ret])
def QXY:List (ARv × Md):=[(.t 2,.one .d)]
theorem Q1Y (m:List TOp') (h :
 (zif (!(QT m)) (K (Qht (0:Int))) (((0:Int)≤w64 ((m.length:Int)-(1:Int))∧Int.toNat (w64 ((m.length:Int)-(1:Int)))<m.length)∧K (Qht ((gtd dOp m (Int.toNat (w64 ((m.length:Int)-(1:Int))))).2.2.1))))):Hold (tawp Q0I (0+0) QPY (TQ 0 0 QXY K) (Qf [(.a [(.c (.sl ctOp) m)])])) :=
 Hold.of (by kernel_rfl) h
theorem QLq (m:List TOp'):TCon Tryz.prog 154 [(.a [(.c (.sl ctOp) m)])] (Qht (Q8 m)):=by
 refine Qo rfl fun hb=>tcg (n:=15) (sg:=Qig.sg) Qj (TOk.cons QbY TOk.nil) (by kernel_rfl) (by kernel_rfl) (Q1Y _ m ?_)
 have hl_m_0:(m).length≤9223372036854775807:=hb.1.1.1
 refine ⟨fun h=>R_eq (by grind [Q8]),fun h=>?_⟩
 have:=Yh (m:=m) (by simpa using h)
 have e:=QaY this.1 (by omega:m.length≤9223372036854775807)
 rw [e.1]
 exact ⟨⟨e.2,by omega⟩,R_eq (by simp at h;simp [Q8,h])⟩
theorem QGX:Qg Tryz.prog Qig:=Qk fun x _=>QLq x.1
end
end Go.Proofs.YtjbdljkhbglnhaaGreat.Am

