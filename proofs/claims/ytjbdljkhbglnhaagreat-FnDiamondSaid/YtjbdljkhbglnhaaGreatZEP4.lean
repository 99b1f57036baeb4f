/- -/
import Derived.Test.YtjbdljkhbglnhaaGreatZEP1
namespace Go.Proofs.YtjbdljkhbglnhaaGreat.Am
open Go Go.RowKit Go.Proofs.YtjbdljkhbglnhaaGreat
set_option linter.all false
noncomputable section
variable (K:TRes→Prop)
def Qbb (t:Int):TRes:=zre (zci t)
def Qkx:TRow:=Qk 202 [(.a ctOp)] fun x=>(none,Qbb (Yg x.1))
def Qoc:List TRow:=[YO]
def QwN:TCode :=
 (.cond 15 (zsq [(.reg [zfa 18 1 1,zld 19 18 1,zfa 20 1 2,zld 21 20 1,zbi 22 .mul 19 21,zmv 2 22]),.ret]) (zsq [(.reg [zbi 24 .eql 14 (zki 2),zmv 23 24]),(.cond 23 (zsq [(.reg [zfa 25 1 1,zld 26 25 1,zmv 2 26]),.ret]) (zsq [(.reg [zbi 28 .eql 14 (zki 4),zmv 27 28]),(.cond 27 (zsq [(.reg [zmv 2 (zki 1)]),.ret]) .skip)]))]))
def QNg:List (Nat × Md):=[(1,.b (zds 4)),(14,.one .d),(15,.one .d)]
def QXt:TCode:=.wk QNg QwN
def Qzx:TCode :=
 (zsq [(.reg [zmv 2 (zki 0)]),.ret])
def QN2:TCode :=
 (zsq [(.reg [zop 1 (.box 69 0 4),zmv 2 (zki 0)]),(zsq [(.reg [zfa 3 1 1,zld 4 3 1,zca 5 77 [4,(zki 1),(zki 6)],zno 6 5,zmv 7 6,.grp 7 false [zfa 8 1 2,zld 9 8 1,zca 10 77 [9,(zki 1),(zki 6)],zno 11 10] 12 11]),(.cond 12 (zsq [(.reg [zmv 2 (zki 0)]),.ret]) .skip)]),(zsq [(.reg [zfa 13 1 0,zld 14 13 1]),(.block 0 (zsq [(zsq [(.reg [zbi 16 .eql 14 (zki 1),zmv 15 16]),(.cond 15 .skip (.reg [zbi 17 .eql 14 (zki 5),zmv 15 17]))]),QXt]))]),Qzx])
def QtB:List (ARv × Md):=[(.t 2,.one .d)]
def Qsl:Qb:=TQ 0 0 QtB K
def QHQ:Qb:=Qseq (tawp Qoc 0 Qzx (Qsl K)) (Qsl K)
def QQc:Qb:=Qblk 0 (QHQ K)
def QoM (o:TOp') (x:Bool):Prop:=tawp Qoc 0 QwN (QQc K) ⟨[(1,(.p 0 0 0)),(14,(zci o.1)),(15,(zcb x))],[(0,(.box (Tup.cells ctOp o)))],1⟩
theorem QEa (o:TOp') (x:Bool) (h :
 (zif x (K (Qbb (w64 (o.2.1*o.2.2.1)))) (zif (o.1==(2:Int)) (K (Qbb o.2.1)) (zif (o.1==(4:Int)) (K (Qbb (1:Int))) (K (Qbb (0:Int))))))):Hold (QoM K o x) :=
 Hold.of (by kernel_rfl) h
theorem QOz (o:TOp') (h :
 (zif ((!(m_in o.2.1 (1:Int) (6:Int)))||(!(m_in o.2.2.1 (1:Int) (6:Int)))) (K (Qbb (0:Int))) (zif (o.1==(1:Int)) (QoM K o (o.1==(1:Int))) (QoM K o (o.1==(5:Int)))))):Hold (tawp Qoc (0+0) QN2 (TQ 0 0 QtB K) (Qg [(.a (Tup.cells ctOp o))])) :=
 Hold.of (by kernel_rfl) h
theorem QNl (o:TOp'):TCon Tryz.prog 202 [(.a (Tup.cells ctOp o))] (Qbb (Yg o)):=by
 refine Qo rfl fun hb=>tcg (n:=29) (sg:=Qkx.sg) Qm (TOk.cons YX TOk.nil) (by kernel_rfl) (by kernel_rfl) (QOz _ o ?_)
 have hl_o_3:(o.2.2.2).length≤9223372036854775807:=hb.1.2.2.2.1.1
 refine ⟨fun h=>R_eq (by grind [Yg]),fun h=>?_⟩
 have hi:m_in o.2.1 1 6=true∧m_in o.2.2.1 1 6=true:=by simpa using h
 have hm:=Qdk (QT.1 hi.1).1 (QT.1 hi.1).2 (QT.1 hi.2).1 (QT.1 hi.2).2
 have hw:=Qr (x:=o.2.1*o.2.2.1) (by omega) (by omega)
 refine ⟨fun h1=>(QEa (fun r'=>r'=Qbb (Yg o)) o _ ?_).h,fun h1=>(QEa (fun r'=>r'=Qbb (Yg o)) o _ ?_).h⟩ <;> grind [Yg]
theorem Qrs:Qj Tryz.prog Qkx:=Qn fun x _=>QNl x.1
def Qa2 (t:Int):TRes:=zre (zci t)
def QnU:TRow:=Qk 221 [(.a ctOp)] fun x=>(none,Qa2 (Yg x.1))
def Qqg:List TRow:=[]
def QDD:TCode :=
 (.cond 23 (zsq [(.reg [zfa 26 1 1,zld 27 26 1,zfa 28 1 2,zld 29 28 1,zbi 30 .mul 27 29,zmv 2 30]),.ret]) (zsq [(.reg [zbi 32 .eql 22 (zki 2),zmv 31 32]),(.cond 31 (zsq [(.reg [zfa 33 1 1,zld 34 33 1,zmv 2 34]),.ret]) (zsq [(.reg [zbi 36 .eql 22 (zki 4),zmv 35 36]),(.cond 35 (zsq [(.reg [zmv 2 (zki 1)]),.ret]) .skip)]))]))
def QP8:List (Nat × Md):=[(1,.b (zds 4)),(22,.one .d),(23,.one .d)]
def QQW:TCode:=.wk QP8 QDD
def QuH:TCode :=
 (zsq [(.reg [zmv 2 (zki 0)]),.ret])
def QVU:TCode :=
 (zsq [(.reg [zop 1 (.box 69 0 4),zmv 2 (zki 0)]),(zsq [(.reg [zfa 3 1 1,zld 4 3 1,zbi 5 .lss 4 (zki 1),zmv 6 5,.grp 6 false [zfa 7 1 1,zld 8 7 1,zbi 9 .gtr 8 (zki 6)] 10 9,zmv 11 10,.grp 11 false [zfa 12 1 2,zld 13 12 1,zbi 14 .lss 13 (zki 1)] 15 14,zmv 16 15,.grp 16 false [zfa 17 1 2,zld 18 17 1,zbi 19 .gtr 18 (zki 6)] 20 19]),(.cond 20 (zsq [(.reg [zmv 2 (zki 0)]),.ret]) .skip)]),(zsq [(.reg [zfa 21 1 0,zld 22 21 1]),(.block 0 (zsq [(zsq [(.reg [zbi 24 .eql 22 (zki 1),zmv 23 24]),(.cond 23 .skip (.reg [zbi 25 .eql 22 (zki 5),zmv 23 25]))]),QQW]))]),QuH])
def QCg:List (ARv × Md):=[(.t 2,.one .d)]
def QDK:Qb:=TQ 0 0 QCg K
def QLp:Qb:=Qseq (tawp Qqg 0 QuH (QDK K)) (QDK K)
def QMK:Qb:=Qblk 0 (QLp K)
def Qoh (o:TOp') (x:Bool):Prop:=tawp Qqg 0 QDD (QMK K) ⟨[(1,(.p 0 0 0)),(22,(zci o.1)),(23,(zcb x))],[(0,(.box (Tup.cells ctOp o)))],1⟩
theorem QB7 (o:TOp') (x:Bool) (h :
 (zif x (K (Qa2 (w64 (o.2.1*o.2.2.1)))) (zif (o.1==(2:Int)) (K (Qa2 o.2.1)) (zif (o.1==(4:Int)) (K (Qa2 (1:Int))) (K (Qa2 (0:Int))))))):Hold (Qoh K o x) :=
 Hold.of (by kernel_rfl) h
theorem QTG (o:TOp') (h :
 (zif ((((decide (o.2.1<(1:Int)))||(decide (o.2.1>(6:Int))))||(decide (o.2.2.1<(1:Int))))||(decide (o.2.2.1>(6:Int)))) (K (Qa2 (0:Int))) (zif (o.1==(1:Int)) (Qoh K o (o.1==(1:Int))) (Qoh K o (o.1==(5:Int)))))):Hold (tawp Qqg (0+0) QVU (TQ 0 0 QCg K) (Qg [(.a (Tup.cells ctOp o))])) :=
 Hold.of (by kernel_rfl) h
theorem QRQ (o:TOp'):TCon Tryz.prog 221 [(.a (Tup.cells ctOp o))] (Qa2 (Yg o)):=by
 refine Qo rfl fun hb=>tcg (n:=37) (sg:=QnU.sg) Qm TOk.nil (by kernel_rfl) (by kernel_rfl) (QTG _ o ?_)
 have hl_o_3:(o.2.2.2).length≤9223372036854775807:=hb.1.2.2.2.1.1
 refine ⟨fun h=>R_eq (by grind [Yg,m_in]),fun h=>?_⟩
 have hi:m_in o.2.1 1 6=true∧m_in o.2.2.1 1 6=true:=by grind [m_in]
 have hm:=Qdk (QT.1 hi.1).1 (QT.1 hi.1).2 (QT.1 hi.2).1 (QT.1 hi.2).2
 have hw:=Qr (x:=o.2.1*o.2.2.1) (by omega) (by omega)
 refine ⟨fun h1=>(QB7 (fun r'=>r'=Qa2 (Yg o)) o _ ?_).h,fun h1=>(QB7 (fun r'=>r'=Qa2 (Yg o)) o _ ?_).h⟩ <;> grind [Yg]
theorem QWh:Qj Tryz.prog QnU:=Qn fun x _=>QRQ x.1
def QbS (t:Bool):TRes:=zre (zcb t)
def QfD:TRow:=Qk 152 [(.a ctOp)] fun x=>(none,QbS (Zf x.1))
def QpM:List TRow:=[YO,Qkx,QdT]
def Qzk:TCode :=
 (zsq [(zsq [(.reg [zmv 40 3,zfa 41 1 3,zld 42 41 1,zle 43 42,zbi 44 .lss 40 43]),(.cond 44 .skip (.exit 0))]),(.block 1 (zsq [(.reg [zfa 47 1 3,zld 48 47 1,zmv 49 3,zia 50 48 49 [TI],zld 51 50 1,zca 52 110 [51],zno 53 52]),(.cond 53 (zsq [(.reg [zmv 2 (zkb false)]),.ret]) .skip)])),(.reg [zmv 45 3,zbi 46 .add 45 (zki 1),zmv 3 46])])
def Qv5:List (Nat × Md):=[(1,.b (zds 4)),(3,.one .d)]
def QwD:TCode :=
 (zsq [(.reg [zmv 2 (zkb true)]),.ret])
def QRD:TCode :=
 (zsq [(.reg [zop 1 (.box 69 0 4),zmv 2 (zkb false)]),(zsq [(.draw [zfa 4 1 0,zld 5 4 1,zca 6 77 [5,(zki 1),(zki 5)],zno 7 6,zmv 8 7,.grp 8 false [zfa 9 1 1,zld 10 9 1,zca 11 77 [10,(zki 1),(zki 6)],zno 12 11] 13 12,zmv 14 13,.grp 14 false [zfa 15 1 2,zld 16 15 1,zca 17 77 [16,(zki 1),(zki 6)],zno 18 17] 19 18,zmv 20 19,.grp 20 false [zfa 21 1 0,zld 22 21 1,zbi 23 .neq 22 (zki 1),zmv 24 23,.grp 24 true [zfa 25 1 1,zld 26 25 1,zfa 27 1 2,zld 28 27 1,zbi 29 .neq 26 28] 30 29] 31 30,zmv 32 31,.grp 32 false [zfa 33 1 3,zld 34 33 1,zle 35 34,zLd 36 1 4,zca 37 202 [36],zbi 38 .neq 35 37] 39 38] [(29,33),(30,33),(31,33)]),(.cond 39 (zsq [(.reg [zmv 2 (zkb false)]),.ret]) .skip)]),(zsq [(.reg [zmv 3 (zki 0)]),(.block 0 (.loop Qv5 Qzk))]),QwD])
def Qvh:List (ARv × Md):=[(.t 2,.one .d)]
def QED:Qb:=TQ 0 0 Qvh K
def QGp:Qb:=Qseq (tawp QpM 0 QwD (QED K)) (QED K)
def QXE:Qb:=Qblk 0 (QGp K)
def Qlf (o:TOp') (i:Int):Prop:=Loop QpM 0 Qv5 Qzk (QXE K) ⟨[(1,(.p 0 0 0)),(3,(zci i))],[(0,(.box (Tup.cells ctOp o)))],1⟩
theorem QG9 (o:TOp') (i:Int) (h :
 (zif (decide (i<((o.2.2.2).length:Int))) (((0:Int)≤i∧Int.toNat i<(o.2.2.2).length)∧(zif (!(Zc (gtd (0:Int) o.2.2.2 (Int.toNat i)))) (K (QbS false)) (Qlf K o (w64 (i+(1:Int)))))) (K (QbS true)))):Qlf K o i :=
 Loop.of (by kernel_rfl) h
theorem QHu (o:TOp') (h :
 (zif (((((!(m_in o.1 (1:Int) (5:Int)))||(!(m_in o.2.1 (1:Int) (6:Int))))||(!(m_in o.2.2.1 (1:Int) (6:Int))))||((o.1 != (1:Int))&&(o.2.1 != o.2.2.1)))||(((o.2.2.2).length:Int) != (Yg o))) (K (QbS false)) (Qlf K o 0))):Hold (tawp QpM (0+0) QRD (TQ 0 0 Qvh K) (Qg [(.a (Tup.cells ctOp o))])) :=
 Hold.of (by kernel_rfl) h
theorem QFk (o:TOp'):TCon Tryz.prog 152 [(.a (Tup.cells ctOp o))] (QbS (Zf o)):=by
 refine Qo rfl fun hb=>tcg (n:=54) (sg:=QfD.sg) Qm (TOk.cons YX (TOk.cons Qrs (TOk.cons QhM TOk.nil))) (by kernel_rfl) (by kernel_rfl) (QHu _ o ?_)
 have hl_o_3:(o.2.2.2).length≤9223372036854775807:=hb.1.2.2.2.1.1
 refine ⟨fun h=>R_eq (by grind [Zf]),fun h=>?_⟩
 exact QbA (Q:=fun x=>QbS x=QbS (Zf o)) (p:=Zc) (c:=fun x=>!(Zc x)) 0 hl_o_3 (fun _=>rfl) (fun i h=>QG9 (fun r'=>r'=QbS (Zf o)) o i h) (R_eq (by grind [Zf,ZB]))
theorem Qp3:Qj Tryz.prog QfD:=Qn fun x _=>QFk x.1
def QfM (t:Bool):TRes:=zre (zcb t)
def Qfr:TRow:=Qk 194 [(.a ctOp)] fun x=>(none,QfM (Zf x.1))
def QR4:List TRow:=[QnU,QfY]
def QVk:TCode :=
 (zsq [(.reg [zop 1 (.box 69 0 4),zmv 2 (zkb false)]),(zsq [(.reg [zfa 3 1 0,zld 4 3 1,zbi 5 .lss 4 (zki 1),zmv 6 5,.grp 6 false [zfa 7 1 0,zld 8 7 1,zbi 9 .gtr 8 (zki 5)] 10 9,zmv 11 10,.grp 11 false [zfa 12 1 1,zld 13 12 1,zbi 14 .lss 13 (zki 1)] 15 14,zmv 16 15,.grp 16 false [zfa 17 1 1,zld 18 17 1,zbi 19 .gtr 18 (zki 6)] 20 19,zmv 21 20,.grp 21 false [zfa 22 1 2,zld 23 22 1,zbi 24 .lss 23 (zki 1)] 25 24,zmv 26 25,.grp 26 false [zfa 27 1 2,zld 28 27 1,zbi 29 .gtr 28 (zki 6)] 30 29]),(.cond 30 (zsq [(.reg [zmv 2 (zkb false)]),.ret]) .skip)]),(zsq [(.reg [zfa 31 1 0,zld 32 31 1,zbi 33 .neq 32 (zki 1),zmv 34 33,.grp 34 true [zfa 35 1 1,zld 36 35 1,zfa 37 1 2,zld 38 37 1,zbi 39 .neq 36 38] 40 39]),(.cond 40 (zsq [(.reg [zmv 2 (zkb false)]),.ret]) .skip)]),(.draw [zfa 41 1 3,zld 42 41 1,zle 43 42,zLd 44 1 4,zca 45 221 [44],zbi 46 .eql 43 45,zmv 47 46,.grp 47 true [zfa 48 1 3,zld 49 48 1,zca 50 195 [49]] 51 50,zmv 2 51] [(0,4),(1,4),(2,4)]),.ret])
def QKi:List (ARv × Md):=[(.t 2,.one .d)]
theorem QSe (o:TOp') (h :
 (zif ((((((decide (o.1<(1:Int)))||(decide (o.1>(5:Int))))||(decide (o.2.1<(1:Int))))||(decide (o.2.1>(6:Int))))||(decide (o.2.2.1<(1:Int))))||(decide (o.2.2.1>(6:Int)))) (K (QfM false)) (zif ((o.1 != (1:Int))&&(o.2.1 != o.2.2.1)) (K (QfM false)) (K (QfM ((((o.2.2.2).length:Int)==(Yg o))&&(ZB o.2.2.2))))))):Hold (tawp QR4 (0+0) QVk (TQ 0 0 QKi K) (Qg [(.a (Tup.cells ctOp o))])) :=
 Hold.of (by kernel_rfl) h
theorem QId (o:TOp'):TCon Tryz.prog 194 [(.a (Tup.cells ctOp o))] (QfM (Zf o)):=by
 refine Qo rfl fun hb=>tcg (n:=52) (sg:=Qfr.sg) Qm (TOk.cons QWh (TOk.cons Qof TOk.nil)) (by kernel_rfl) (by kernel_rfl) (QSe _ o ?_)
 have hl_o_3:(o.2.2.2).length≤9223372036854775807:=hb.1.2.2.2.1.1
 grind [Zf,m_in]
theorem QqM:Qj Tryz.prog Qfr:=Qn fun x _=>QId x.1
def Qdd (t:Bool):TRes:=zre (zcb t)
def QaL:TRow:=Qk 74 [(.a [(.sl ctOp)])] fun x=>(none,Qdd (QU x.1))
def Qm8:List TRow:=[QfD,YO]
def QyI:TCode :=
 (zsq [(zsq [(.reg [zmv 4 3,zfa 5 1 0,zld 6 5 1,zle 7 6,zbi 8 .lss 4 7]),(.cond 8 .skip (.exit 0))]),(.block 1 (zsq [(.draw [zfa 11 1 0,zld 12 11 1,zmv 13 3,zia 14 12 13 ctOp,zLd 15 14 4,zca 16 152 [15],zno 17 16,zmv 18 17,.grp 18 false [zmv 19 3,zbi 20 .gtr 19 (zki 0),zmv 21 20,.grp 21 true [zfa 22 1 0,zld 23 22 1,zmv 24 3,zia 25 23 24 ctOp,zfa 26 25 1,zld 27 26 1,zfa 28 1 0,zld 29 28 1,zmv 30 3,zbi 31 .sub 30 (zki 1),zia 32 29 31 ctOp,zfa 33 32 2,zld 34 33 1,zbi 35 .neq 27 34] 36 35] 37 36] []),(.cond 37 (zsq [(.reg [zmv 2 (zkb false)]),.ret]) .skip)])),(.reg [zmv 9 3,zbi 10 .add 9 (zki 1),zmv 3 10])])
def QAf:List (Nat × Md):=[(1,.b [.d]),(3,.one .d)]
def QzU:TCode :=
 (zsq [(.reg [zfa 38 1 0,zld 39 38 1,zle 40 39,zca 41 77 [40,(zki 1),(zki 8)],zmv 2 41]),.ret])
def QFc:TCode :=
 (zsq [(.reg [zop 1 (.box 26 0 1),zmv 2 (zkb false)]),(zsq [(.reg [zmv 3 (zki 0)]),(.block 0 (.loop QAf QyI))]),QzU])
def QrS:List (ARv × Md):=[(.t 2,.one .d)]
def QBb:Qb:=TQ 0 0 QrS K
def QVm:Qb:=Qseq (tawp Qm8 0 QzU (QBb K)) (QBb K)
def QTf:Qb:=Qblk 0 (QVm K)
def Qhn (m:List TOp') (i:Int):Prop:=Loop Qm8 0 QAf QyI (QTf K) ⟨[(1,(.p 0 0 0)),(3,(zci i))],[(0,(.box [(zcs ctOp m)]))],1⟩
theorem Qy3 (m:List TOp') (i:Int) (h :
 (zif (decide (i<(m.length:Int))) ((((0:Int)≤i∧Int.toNat i<m.length)∧((!(!(Zf (gtd dOp m (Int.toNat i)))))=true→((decide (i>(0:Int)))=true→(((0:Int)≤i∧Int.toNat i<m.length)∧((0:Int)≤w64 (i-(1:Int))∧Int.toNat (w64 (i-(1:Int)))<m.length)))))∧(zif ((!(Zf (gtd dOp m (Int.toNat i))))||((decide (i>(0:Int)))&&(((gtd dOp m (Int.toNat i)).2.1) != ((gtd dOp m (Int.toNat (w64 (i-(1:Int))))).2.2.1)))) (K (Qdd false)) (Qhn K m (w64 (i+(1:Int)))))) (K (Qdd (m_in (m.length:Int) (1:Int) (8:Int)))))):Qhn K m i :=
 Loop.of (by kernel_rfl) h
theorem QTW (m:List TOp') (h :
 (Qhn K m 0)):Hold (tawp Qm8 (0+0) QFc (TQ 0 0 QrS K) (Qg [(.a [(.c (.sl ctOp) m)])])) :=
 Hold.of (by kernel_rfl) h
theorem QVY (m:List TOp'):TCon Tryz.prog 74 [(.a [(.c (.sl ctOp) m)])] (Qdd (QU m)):=by
 refine Qo rfl fun hb=>tcg (n:=42) (sg:=QaL.sg) Qm (TOk.cons Qp3 (TOk.cons YX TOk.nil)) (by kernel_rfl) (by kernel_rfl) (QTW _ m ?_)
 have hl_m_0:(m).length≤9223372036854775807:=hb.1.1.1
 refine Zp m (fun r k=>YA (QaG m k) r=YA none m→Qhn (fun r'=>r'=Qdd (QU m)) m k) ?_ ?_ rfl
 ·intro he
  refine Qy3 (fun r'=>r'=Qdd (QU m)) m _ ⟨fun h=>by simp at h,fun _=>?_⟩
  grind [YA,QU]
 ·intro k x r hk hlt hg ih he
  refine Qy3 (fun r'=>r'=Qdd (QU m)) m _ ⟨fun _=>?_,fun h=>by simp at h;omega⟩
  rw [Int.toNat_natCast,hg,Qr (x:=(k:Int)+1) (by omega) (by omega)]
  have ep:QaG m (k+1)=some x.2.2.1:=by simp [QaG,hg]
  rw [ep] at ih
  rcases Nat.eq_zero_or_pos k with h0 | h0
  ·subst h0
   simp only [YA,QaG,if_true] at he
   grind [QU]
  ·have e2:=Qbh h0 (by omega:k≤9223372036854775807)
   simp only [YA,QaG,if_neg (Nat.ne_of_gt h0)] at he
   grind [QU]
theorem Qb2:Qj Tryz.prog QaL:=Qn fun x _=>QVY x.1
def QbP (t:Bool):TRes:=zre (zcb t)
def QdV:TRow:=Qk 131 [(.a [(.sl ctOp)])] fun x=>(none,QbP (QU x.1))
def Qny:List TRow:=[Qfr]
def QDV:TCode :=
 (zsq [(.reg [zbi 19 .lss 18 17]),(.cond 19 .skip (.exit 0)),(.block 1 (zsq [(.reg [zmv 20 18,zia 21 16 18 ctOp,zLd 22 21 4,zop 4 (.new 69 (z0s ctOp)),zmv 3 20,zst 4 22 4]),(.draw [zLd 23 4 4,zca 24 194 [23],zno 25 24,zmv 26 25,.grp 26 false [zmv 27 3,zbi 28 .gtr 27 (zki 0),zmv 29 28,.grp 29 true [zfa 30 1 0,zld 31 30 1,zmv 32 3,zbi 33 .sub 32 (zki 1),zia 34 31 33 ctOp,zfa 35 34 2,zld 36 35 1,zfa 37 4 1,zld 38 37 1,zbi 39 .neq 36 38] 40 39] 41 40] []),(.cond 41 (zsq [(.reg [zmv 2 (zkb false)]),.ret]) .skip)])),(.reg [zbi 42 .add 18 (zki 1),zmv 18 42])])
def QAJ:List (Nat × Md):=[(1,.b [.d]),(16,.one .d),(17,.one .d),(18,.one .d)]
def Qrj:TCode :=
 (zsq [(.reg [zmv 2 (zkb true)]),.ret])
def QSu:TCode :=
 (zsq [(.reg [zop 1 (.box 26 0 1),zmv 2 (zkb false)]),(zsq [(.reg [zfa 5 1 0,zld 6 5 1,zle 7 6,zbi 8 .lss 7 (zki 1),zmv 9 8,.grp 9 false [zfa 10 1 0,zld 11 10 1,zle 12 11,zbi 13 .gtr 12 (zki 8)] 14 13]),(.cond 14 (zsq [(.reg [zmv 2 (zkb false)]),.ret]) .skip)]),(zsq [(.reg [zfa 15 1 0,zld 16 15 1,zle 17 16,zmv 18 (zki 0)]),(.block 0 (.loop QAJ QDV))]),Qrj])
def Qvw:List (ARv × Md):=[(.t 2,.one .d)]
def QxH:Qb:=TQ 0 0 Qvw K
def QQy:Qb:=Qseq (tawp Qny 0 Qrj (QxH K)) (QxH K)
def QH9:Qb:=Qblk 0 (QQy K)
def Qg2 (m:List TOp') (x:Int):Prop:=Loop Qny 0 QAJ QDV (QH9 K) ⟨[(1,(.p 0 0 0)),(16,(zcs ctOp m)),(17,(zci (m.length:Int))),(18,(zci x))],[(0,(.box [(zcs ctOp m)]))],1⟩
theorem QuO (m:List TOp') (x:Int) (h :
 (zif (decide (x<(m.length:Int))) (((0:Int)≤x∧Int.toNat x<m.length)∧(((!(!(Zf (gtd dOp m (Int.toNat x)))))=true→((decide (x>(0:Int)))=true→((0:Int)≤w64 (x-(1:Int))∧Int.toNat (w64 (x-(1:Int)))<m.length)))∧(zif ((!(Zf (gtd dOp m (Int.toNat x))))||((decide (x>(0:Int)))&&(((gtd dOp m (Int.toNat (w64 (x-(1:Int))))).2.2.1) != ((gtd dOp m (Int.toNat x)).2.1)))) (K (QbP false)) (Qg2 K m (w64 (x+(1:Int))))))) (K (QbP true)))):Qg2 K m x :=
 Loop.of (by kernel_rfl) h
theorem QLC (m:List TOp') (h :
 (zif ((decide ((m.length:Int)<(1:Int)))||(decide ((m.length:Int)>(8:Int)))) (K (QbP false)) (Qg2 K m 0))):Hold (tawp Qny (0+0) QSu (TQ 0 0 Qvw K) (Qg [(.a [(.c (.sl ctOp) m)])])) :=
 Hold.of (by kernel_rfl) h
theorem QU3 (m:List TOp'):TCon Tryz.prog 131 [(.a [(.c (.sl ctOp) m)])] (QbP (QU m)):=by
 refine Qo rfl fun hb=>tcg (n:=43) (sg:=QdV.sg) Qm (TOk.cons QqM TOk.nil) (by kernel_rfl) (by kernel_rfl) (QLC _ m ?_)
 have hl_m_0:(m).length≤9223372036854775807:=hb.1.1.1
 refine ⟨fun h=>R_eq (by grind [QU,m_in]),fun h=>?_⟩
 have hin:m_in m.length 1 8=true:=by grind [m_in]
 refine Zp m (fun r k=>YA (QaG m k) r=YA none m→Qg2 (fun r'=>r'=QbP (QU m)) m k) ?_ ?_ rfl
 ·intro he
  refine QuO (fun r'=>r'=QbP (QU m)) m _ ⟨fun h=>by simp at h,fun _=>?_⟩
  grind [YA,QU]
 ·intro k x r hk hlt hg ih he
  refine QuO (fun r'=>r'=QbP (QU m)) m _ ⟨fun _=>?_,fun h=>by simp at h;omega⟩
  rw [Int.toNat_natCast,hg,Qr (x:=(k:Int)+1) (by omega) (by omega)]
  have ep:QaG m (k+1)=some x.2.2.1:=by simp [QaG,hg]
  rw [ep] at ih
  rcases Nat.eq_zero_or_pos k with h0 | h0
  ·subst h0
   simp only [YA,QaG,if_true] at he
   grind [QU]
  ·have e2:=Qbh h0 (by omega:k≤9223372036854775807)
   simp only [YA,QaG,if_neg (Nat.ne_of_gt h0)] at he
   grind [QU]
theorem Qj3:Qj Tryz.prog QdV:=Qn fun x _=>QU3 x.1
def Qjk (t:Int):TRes:=zre (zci t)
def Qfx:TRow:=Qk 115 [(.a [(.sl ctOp)])] fun x=>(none,Qjk (Q6 x.1))
def QNK:List TRow:=[QdV]
def QHS:TCode :=
 (zsq [(.reg [zop 1 (.box 26 0 1),zmv 2 (zki 0)]),(zsq [(.reg [zLd 3 1 1,zca 4 131 [3],zno 5 4]),(.cond 5 (zsq [(.reg [zmv 2 (zki 0)]),.ret]) .skip)]),(.reg [zfa 6 1 0,zld 7 6 1,zia 8 7 (zki 0) ctOp,zfa 9 8 1,zld 10 9 1,zmv 2 10]),.ret])
def QKh:List (ARv × Md):=[(.t 2,.one .d)]
theorem QKa (m:List TOp') (h :
 (zif (!(QU m)) (K (Qjk (0:Int))) (((0:Int)≤(0:Int)∧Int.toNat (0:Int)<m.length)∧K (Qjk ((gtd dOp m (Int.toNat (0:Int))).2.1))))):Hold (tawp QNK (0+0) QHS (TQ 0 0 QKh K) (Qg [(.a [(.c (.sl ctOp) m)])])) :=
 Hold.of (by kernel_rfl) h
theorem QK3 (m:List TOp'):TCon Tryz.prog 115 [(.a [(.c (.sl ctOp) m)])] (Qjk (Q6 m)):=by
 refine Qo rfl fun hb=>tcg (n:=11) (sg:=Qfx.sg) Qm (TOk.cons Qj3 TOk.nil) (by kernel_rfl) (by kernel_rfl) (QKa _ m ?_)
 have hl_m_0:(m).length≤9223372036854775807:=hb.1.1.1
 refine ⟨fun h=>R_eq (by grind [Q6]),fun h=>?_⟩
 have:=Ym (m:=m) (by simpa using h)
 exact ⟨⟨by omega,by simp;omega⟩,R_eq (by simp at h;simp [Q6,h])⟩
theorem Qmo:Qj Tryz.prog Qfx:=Qn fun x _=>QK3 x.1
def QiE (t:Int):TRes:=zre (zci t)
def Qg6:TRow:=Qk 153 [(.a [(.sl ctOp)])] fun x=>(none,QiE (Q6 x.1))
def QO6:List TRow:=[QaL]
def QUR:TCode :=
 (zsq [(.reg [zop 1 (.box 26 0 1),zmv 2 (zki 0)]),(zsq [(.reg [zLd 3 1 1,zca 4 74 [3],zno 5 4]),(.cond 5 (zsq [(.reg [zmv 2 (zki 0)]),.ret]) .skip)]),(.reg [zfa 6 1 0,zld 7 6 1,zia 8 7 (zki 0) ctOp,zfa 9 8 1,zld 10 9 1,zmv 2 10]),.ret])
def QSK:List (ARv × Md):=[(.t 2,.one .d)]
theorem QOu (m:List TOp') (h :
 (zif (!(QU m)) (K (QiE (0:Int))) (((0:Int)≤(0:Int)∧Int.toNat (0:Int)<m.length)∧K (QiE ((gtd dOp m (Int.toNat (0:Int))).2.1))))):Hold (tawp QO6 (0+0) QUR (TQ 0 0 QSK K) (Qg [(.a [(.c (.sl ctOp) m)])])) :=
 Hold.of (by kernel_rfl) h
theorem QIX (m:List TOp'):TCon Tryz.prog 153 [(.a [(.c (.sl ctOp) m)])] (QiE (Q6 m)):=by
 refine Qo rfl fun hb=>tcg (n:=11) (sg:=Qg6.sg) Qm (TOk.cons Qb2 TOk.nil) (by kernel_rfl) (by kernel_rfl) (QOu _ m ?_)
 have hl_m_0:(m).length≤9223372036854775807:=hb.1.1.1
 refine ⟨fun h=>R_eq (by grind [Q6]),fun h=>?_⟩
 have:=Ym (m:=m) (by simpa using h)
 exact ⟨⟨by omega,by simp;omega⟩,R_eq (by simp at h;simp [Q6,h])⟩
theorem Qsw:Qj Tryz.prog Qg6:=Qn fun x _=>QIX x.1
def Qh0 (t:Int):TRes:=zre (zci t)
def Qfk:TRow:=Qk 117 [(.a [(.sl ctOp)])] fun x=>(none,Qh0 (Q5 x.1))
def QKr:List TRow:=[QdV]
def QUF:TCode :=
 (zsq [(.reg [zop 1 (.box 26 0 1),zmv 2 (zki 0)]),(zsq [(.reg [zLd 3 1 1,zca 4 131 [3],zno 5 4]),(.cond 5 (zsq [(.reg [zmv 2 (zki 0)]),.ret]) .skip)]),(.reg [zfa 6 1 0,zld 7 6 1,zfa 8 1 0,zld 9 8 1,zle 10 9,zbi 11 .sub 10 (zki 1),zia 12 7 11 ctOp,zfa 13 12 2,zld 14 13 1,zmv 2 14]),.ret])
def QX6:List (ARv × Md):=[(.t 2,.one .d)]
theorem QSf (m:List TOp') (h :
 (zif (!(QU m)) (K (Qh0 (0:Int))) (((0:Int)≤w64 ((m.length:Int)-(1:Int))∧Int.toNat (w64 ((m.length:Int)-(1:Int)))<m.length)∧K (Qh0 ((gtd dOp m (Int.toNat (w64 ((m.length:Int)-(1:Int))))).2.2.1))))):Hold (tawp QKr (0+0) QUF (TQ 0 0 QX6 K) (Qg [(.a [(.c (.sl ctOp) m)])])) :=
 Hold.of (by kernel_rfl) h
theorem QT6 (m:List TOp'):TCon Tryz.prog 117 [(.a [(.c (.sl ctOp) m)])] (Qh0 (Q5 m)):=by
 refine Qo rfl fun hb=>tcg (n:=15) (sg:=Qfk.sg) Qm (TOk.cons Qj3 TOk.nil) (by kernel_rfl) (by kernel_rfl) (QSf _ m ?_)
 have hl_m_0:(m).length≤9223372036854775807:=hb.1.1.1
 refine ⟨fun h=>R_eq (by grind [Q5]),fun h=>?_⟩
 have:=Ym (m:=m) (by simpa using h)
 have e:=Qbh this.1 (by omega:m.length≤9223372036854775807)
 rw [e.1]
 exact ⟨⟨e.2,by omega⟩,R_eq (by simp at h;simp [Q5,h])⟩
theorem QkV:Qj Tryz.prog Qfk:=Qn fun x _=>QT6 x.1
def QiB (t:Int):TRes:=zre (zci t)
def QgG:TRow:=Qk 154 [(.a [(.sl ctOp)])] fun x=>(none,QiB (Q5 x.1))
def QFY:List TRow:=[QaL]
def QQ9:TCode :=
 (zsq [(.reg [zop 1 (.box 26 0 1),zmv 2 (zki 0)]),(zsq [(.reg [zLd 3 1 1,zca 4 74 [3],zno 5 4]),(.cond 5 (zsq [(.reg [zmv 2 (zki 0)]),.ret]) .skip)]),(.reg [zfa 6 1 0,zld 7 6 1,zfa 8 1 0,zld 9 8 1,zle 10 9,zbi 11 .sub 10 (zki 1),zia 12 7 11 ctOp,zfa 13 12 2,zld 14 13 1,zmv 2 14]),.ret])
def QIH:List (ARv × Md):=[(.t 2,.one .d)]
theorem QRS (m:List TOp') (h :
 (zif (!(QU m)) (K (QiB (0:Int))) (((0:Int)≤w64 ((m.length:Int)-(1:Int))∧Int.toNat (w64 ((m.length:Int)-(1:Int)))<m.length)∧K (QiB ((gtd dOp m (Int.toNat (w64 ((m.length:Int)-(1:Int))))).2.2.1))))):Hold (tawp QFY (0+0) QQ9 (TQ 0 0 QIH K) (Qg [(.a [(.c (.sl ctOp) m)])])) :=
 Hold.of (by kernel_rfl) h
theorem QTT (m:List TOp'):TCon Tryz.prog 154 [(.a [(.c (.sl ctOp) m)])] (QiB (Q5 m)):=by
 refine Qo rfl fun hb=>tcg (n:=15) (sg:=QgG.sg) Qm (TOk.cons Qb2 TOk.nil) (by kernel_rfl) (by kernel_rfl) (QRS _ m ?_)
 have hl_m_0:(m).length≤9223372036854775807:=hb.1.1.1
 refine ⟨fun h=>R_eq (by grind [Q5]),fun h=>?_⟩
 have:=Ym (m:=m) (by simpa using h)
 have e:=Qbh this.1 (by omega:m.length≤9223372036854775807)
 rw [e.1]
 exact ⟨⟨e.2,by omega⟩,R_eq (by simp at h;simp [Q5,h])⟩
theorem QsH:Qj Tryz.prog QgG:=Qn fun x _=>QTT x.1
end
end Go.Proofs.YtjbdljkhbglnhaaGreat.Am

