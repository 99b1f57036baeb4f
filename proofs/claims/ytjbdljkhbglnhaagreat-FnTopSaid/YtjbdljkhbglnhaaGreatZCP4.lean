/- -/
import Derived.Test.YtjbdljkhbglnhaaGreatZCP1
namespace Go.Proofs.YtjbdljkhbglnhaaGreat.Am
open Go Go.RowKit Go.Proofs.YtjbdljkhbglnhaaGreat
set_option linter.all false
noncomputable section
variable (K:TRes→Prop)
def Qa7 (t:Int):TRes:=zre (zci t)
def Qin:TRow:=Qf 202 [(.a ctOp)] fun x=>(none,Qa7 (Ya x.1))
def Qlu:List TRow:=[Jm]
def Qzt:TCode :=
 (.cond 15 (zsq [(.reg [zfa 18 1 1,zld 19 18 1,zfa 20 1 2,zld 21 20 1,zbi 22 .mul 19 21,zmv 2 22]),.ret]) (zsq [(.reg [zbi 24 .eql 14 (zki 2),zmv 23 24]),(.cond 23 (zsq [(.reg [zfa 25 1 1,zld 26 25 1,zmv 2 26]),.ret]) (zsq [(.reg [zbi 28 .eql 14 (zki 4),zmv 27 28]),(.cond 27 (zsq [(.reg [zmv 2 (zki 1)]),.ret]) .skip)]))]))
def QGg:List (Nat × Md):=[(1,.b (zds 4)),(14,.one .d),(15,.one .d)]
def QHI:TCode:=.wk QGg Qzt
def QEb:TCode :=
 (zsq [(.reg [zmv 2 (zki 0)]),.ret])
def QHO:TCode :=
 (zsq [(.reg [zop 1 (.box 69 0 4),zmv 2 (zki 0)]),(zsq [(.reg [zfa 3 1 1,zld 4 3 1,zca 5 77 [4,(zki 1),(zki 6)],zno 6 5,zmv 7 6,.grp 7 false [zfa 8 1 2,zld 9 8 1,zca 10 77 [9,(zki 1),(zki 6)],zno 11 10] 12 11]),(.cond 12 (zsq [(.reg [zmv 2 (zki 0)]),.ret]) .skip)]),(zsq [(.reg [zfa 13 1 0,zld 14 13 1]),(.block 0 (zsq [(zsq [(.reg [zbi 16 .eql 14 (zki 1),zmv 15 16]),(.cond 15 .skip (.reg [zbi 17 .eql 14 (zki 5),zmv 15 17]))]),QHI]))]),QEb])
def Qsa:List (ARv × Md):=[(.t 2,.one .d)]
def Qvg:Qb:=TQ 0 0 Qsa K
def QSv:Qb:=Qseq (tawp Qlu 0 QEb (Qvg K)) (Qvg K)
def QGo:Qb:=Qblk 0 (QSv K)
def QkL (o:TOp') (x:Bool):Prop:=tawp Qlu 0 Qzt (QGo K) ⟨[(1,(.p 0 0 0)),(14,(zci o.1)),(15,(zcb x))],[(0,(.box (Tup.cells ctOp o)))],1⟩
theorem QqY (o:TOp') (x:Bool) (h :
 (zif x (K (Qa7 (w64 (o.2.1*o.2.2.1)))) (zif (o.1==(2:Int)) (K (Qa7 o.2.1)) (zif (o.1==(4:Int)) (K (Qa7 (1:Int))) (K (Qa7 (0:Int))))))):Hold (QkL K o x) :=
 Hold.of (by kernel_rfl) h
theorem QLe (o:TOp') (h :
 (zif ((!(m_in o.2.1 (1:Int) (6:Int)))||(!(m_in o.2.2.1 (1:Int) (6:Int)))) (K (Qa7 (0:Int))) (zif (o.1==(1:Int)) (QkL K o (o.1==(1:Int))) (QkL K o (o.1==(5:Int)))))):Hold (tawp Qlu (0+0) QHO (TQ 0 0 Qsa K) (Qd [(.a (Tup.cells ctOp o))])) :=
 Hold.of (by kernel_rfl) h
theorem QHL (o:TOp'):TCon Tryz.prog 202 [(.a (Tup.cells ctOp o))] (Qa7 (Ya o)):=by
 refine Qj rfl fun hb=>tcg (n:=29) (sg:=Qin.sg) Qg (TOk.cons JJ TOk.nil) (by kernel_rfl) (by kernel_rfl) (QLe _ o ?_)
 have hl_o_3:(o.2.2.2).length≤9223372036854775807:=hb.1.2.2.2.1.1
 refine ⟨fun h=>R_eq (by grind [Ya]),fun h=>?_⟩
 have hi:m_in o.2.1 1 6=true∧m_in o.2.2.1 1 6=true:=by simpa using h
 have hm:=QcS (QR.1 hi.1).1 (QR.1 hi.1).2 (QR.1 hi.2).1 (QR.1 hi.2).2
 have hw:=Qq (x:=o.2.1*o.2.2.1) (by omega) (by omega)
 refine ⟨fun h1=>(QqY (fun r'=>r'=Qa7 (Ya o)) o _ ?_).h,fun h1=>(QqY (fun r'=>r'=Qa7 (Ya o)) o _ ?_).h⟩ <;> grind [Ya]
theorem QBM:Qe Tryz.prog Qin:=Qh fun x _=>QHL x.1
def Qa9 (t:Int):TRes:=zre (zci t)
def QmJ:TRow:=Qf 221 [(.a ctOp)] fun x=>(none,Qa9 (Ya x.1))
def QlZ:List TRow:=[]
def Qv0:TCode :=
 (.cond 23 (zsq [(.reg [zfa 26 1 1,zld 27 26 1,zfa 28 1 2,zld 29 28 1,zbi 30 .mul 27 29,zmv 2 30]),.ret]) (zsq [(.reg [zbi 32 .eql 22 (zki 2),zmv 31 32]),(.cond 31 (zsq [(.reg [zfa 33 1 1,zld 34 33 1,zmv 2 34]),.ret]) (zsq [(.reg [zbi 36 .eql 22 (zki 4),zmv 35 36]),(.cond 35 (zsq [(.reg [zmv 2 (zki 1)]),.ret]) .skip)]))]))
def QJa:List (Nat × Md):=[(1,.b (zds 4)),(22,.one .d),(23,.one .d)]
def QWY:TCode:=.wk QJa Qv0
def QDz:TCode :=
 (zsq [(.reg [zmv 2 (zki 0)]),.ret])
def QSR:TCode :=
 (zsq [(.reg [zop 1 (.box 69 0 4),zmv 2 (zki 0)]),(zsq [(.reg [zfa 3 1 1,zld 4 3 1,zbi 5 .lss 4 (zki 1),zmv 6 5,.grp 6 false [zfa 7 1 1,zld 8 7 1,zbi 9 .gtr 8 (zki 6)] 10 9,zmv 11 10,.grp 11 false [zfa 12 1 2,zld 13 12 1,zbi 14 .lss 13 (zki 1)] 15 14,zmv 16 15,.grp 16 false [zfa 17 1 2,zld 18 17 1,zbi 19 .gtr 18 (zki 6)] 20 19]),(.cond 20 (zsq [(.reg [zmv 2 (zki 0)]),.ret]) .skip)]),(zsq [(.reg [zfa 21 1 0,zld 22 21 1]),(.block 0 (zsq [(zsq [(.reg [zbi 24 .eql 22 (zki 1),zmv 23 24]),(.cond 23 .skip (.reg [zbi 25 .eql 22 (zki 5),zmv 23 25]))]),QWY]))]),QDz])
def Qxc:List (ARv × Md):=[(.t 2,.one .d)]
def Qre:Qb:=TQ 0 0 Qxc K
def QII:Qb:=Qseq (tawp QlZ 0 QDz (Qre K)) (Qre K)
def QED:Qb:=Qblk 0 (QII K)
def QpP (o:TOp') (x:Bool):Prop:=tawp QlZ 0 Qv0 (QED K) ⟨[(1,(.p 0 0 0)),(22,(zci o.1)),(23,(zcb x))],[(0,(.box (Tup.cells ctOp o)))],1⟩
theorem QDf (o:TOp') (x:Bool) (h :
 (zif x (K (Qa9 (w64 (o.2.1*o.2.2.1)))) (zif (o.1==(2:Int)) (K (Qa9 o.2.1)) (zif (o.1==(4:Int)) (K (Qa9 (1:Int))) (K (Qa9 (0:Int))))))):Hold (QpP K o x) :=
 Hold.of (by kernel_rfl) h
theorem QPH (o:TOp') (h :
 (zif ((((decide (o.2.1<(1:Int)))||(decide (o.2.1>(6:Int))))||(decide (o.2.2.1<(1:Int))))||(decide (o.2.2.1>(6:Int)))) (K (Qa9 (0:Int))) (zif (o.1==(1:Int)) (QpP K o (o.1==(1:Int))) (QpP K o (o.1==(5:Int)))))):Hold (tawp QlZ (0+0) QSR (TQ 0 0 Qxc K) (Qd [(.a (Tup.cells ctOp o))])) :=
 Hold.of (by kernel_rfl) h
theorem QQF (o:TOp'):TCon Tryz.prog 221 [(.a (Tup.cells ctOp o))] (Qa9 (Ya o)):=by
 refine Qj rfl fun hb=>tcg (n:=37) (sg:=QmJ.sg) Qg TOk.nil (by kernel_rfl) (by kernel_rfl) (QPH _ o ?_)
 have hl_o_3:(o.2.2.2).length≤9223372036854775807:=hb.1.2.2.2.1.1
 refine ⟨fun h=>R_eq (by grind [Ya,m_in]),fun h=>?_⟩
 have hi:m_in o.2.1 1 6=true∧m_in o.2.2.1 1 6=true:=by grind [m_in]
 have hm:=QcS (QR.1 hi.1).1 (QR.1 hi.1).2 (QR.1 hi.2).1 (QR.1 hi.2).2
 have hw:=Qq (x:=o.2.1*o.2.2.1) (by omega) (by omega)
 refine ⟨fun h1=>(QDf (fun r'=>r'=Qa9 (Ya o)) o _ ?_).h,fun h1=>(QDf (fun r'=>r'=Qa9 (Ya o)) o _ ?_).h⟩ <;> grind [Ya]
theorem QSn:Qe Tryz.prog QmJ:=Qh fun x _=>QQF x.1
def Qcg (t:Bool):TRes:=zre (zcb t)
def QeT:TRow:=Qf 152 [(.a ctOp)] fun x=>(none,Qcg (Zb x.1))
def QmV:List TRow:=[Jm,Qin,QdX]
def QBa:TCode :=
 (zsq [(zsq [(.reg [zmv 40 3,zfa 41 1 3,zld 42 41 1,zle 43 42,zbi 44 .lss 40 43]),(.cond 44 .skip (.exit 0))]),(.block 1 (zsq [(.reg [zfa 47 1 3,zld 48 47 1,zmv 49 3,zia 50 48 49 [TI],zld 51 50 1,zca 52 110 [51],zno 53 52]),(.cond 53 (zsq [(.reg [zmv 2 (zkb false)]),.ret]) .skip)])),(.reg [zmv 45 3,zbi 46 .add 45 (zki 1),zmv 3 46])])
def Qrz:List (Nat × Md):=[(1,.b (zds 4)),(3,.one .d)]
def QvV:TCode :=
 (zsq [(.reg [zmv 2 (zkb true)]),.ret])
def QO7:TCode :=
 (zsq [(.reg [zop 1 (.box 69 0 4),zmv 2 (zkb false)]),(zsq [(.draw [zfa 4 1 0,zld 5 4 1,zca 6 77 [5,(zki 1),(zki 5)],zno 7 6,zmv 8 7,.grp 8 false [zfa 9 1 1,zld 10 9 1,zca 11 77 [10,(zki 1),(zki 6)],zno 12 11] 13 12,zmv 14 13,.grp 14 false [zfa 15 1 2,zld 16 15 1,zca 17 77 [16,(zki 1),(zki 6)],zno 18 17] 19 18,zmv 20 19,.grp 20 false [zfa 21 1 0,zld 22 21 1,zbi 23 .neq 22 (zki 1),zmv 24 23,.grp 24 true [zfa 25 1 1,zld 26 25 1,zfa 27 1 2,zld 28 27 1,zbi 29 .neq 26 28] 30 29] 31 30,zmv 32 31,.grp 32 false [zfa 33 1 3,zld 34 33 1,zle 35 34,zLd 36 1 4,zca 37 202 [36],zbi 38 .neq 35 37] 39 38] [(29,33),(30,33),(31,33)]),(.cond 39 (zsq [(.reg [zmv 2 (zkb false)]),.ret]) .skip)]),(zsq [(.reg [zmv 3 (zki 0)]),(.block 0 (.loop Qrz QBa))]),QvV])
def Qzs:List (ARv × Md):=[(.t 2,.one .d)]
def Qvz:Qb:=TQ 0 0 Qzs K
def QHQ:Qb:=Qseq (tawp QmV 0 QvV (Qvz K)) (Qvz K)
def QUL:Qb:=Qblk 0 (QHQ K)
def Qmt (o:TOp') (i:Int):Prop:=Loop QmV 0 Qrz QBa (QUL K) ⟨[(1,(.p 0 0 0)),(3,(zci i))],[(0,(.box (Tup.cells ctOp o)))],1⟩
theorem QKn (o:TOp') (i:Int) (h :
 (zif (decide (i<((o.2.2.2).length:Int))) (((0:Int)≤i∧Int.toNat i<(o.2.2.2).length)∧(zif (!(Q8 (gtd (0:Int) o.2.2.2 (Int.toNat i)))) (K (Qcg false)) (Qmt K o (w64 (i+(1:Int)))))) (K (Qcg true)))):Qmt K o i :=
 Loop.of (by kernel_rfl) h
theorem QO9 (o:TOp') (h :
 (zif (((((!(m_in o.1 (1:Int) (5:Int)))||(!(m_in o.2.1 (1:Int) (6:Int))))||(!(m_in o.2.2.1 (1:Int) (6:Int))))||((o.1 != (1:Int))&&(o.2.1 != o.2.2.1)))||(((o.2.2.2).length:Int) != (Ya o))) (K (Qcg false)) (Qmt K o 0))):Hold (tawp QmV (0+0) QO7 (TQ 0 0 Qzs K) (Qd [(.a (Tup.cells ctOp o))])) :=
 Hold.of (by kernel_rfl) h
theorem QRA (o:TOp'):TCon Tryz.prog 152 [(.a (Tup.cells ctOp o))] (Qcg (Zb o)):=by
 refine Qj rfl fun hb=>tcg (n:=54) (sg:=QeT.sg) Qg (TOk.cons JJ (TOk.cons QBM (TOk.cons QhQ TOk.nil))) (by kernel_rfl) (by kernel_rfl) (QO9 _ o ?_)
 have hl_o_3:(o.2.2.2).length≤9223372036854775807:=hb.1.2.2.2.1.1
 refine ⟨fun h=>R_eq (by grind [Zb]),fun h=>?_⟩
 exact Qbu (Q:=fun x=>Qcg x=Qcg (Zb o)) (p:=Q8) (c:=fun x=>!(Q8 x)) 0 hl_o_3 (fun _=>rfl) (fun i h=>QKn (fun r'=>r'=Qcg (Zb o)) o i h) (R_eq (by grind [Zb,ZD]))
theorem Ql7:Qe Tryz.prog QeT:=Qh fun x _=>QRA x.1
def Qgf (t:Bool):TRes:=zre (zcb t)
def QfH:TRow:=Qf 194 [(.a ctOp)] fun x=>(none,Qgf (Zb x.1))
def QXJ:List TRow:=[QmJ,Qfx]
def QVP:TCode :=
 (zsq [(.reg [zop 1 (.box 69 0 4),zmv 2 (zkb false)]),(zsq [(.reg [zfa 3 1 0,zld 4 3 1,zbi 5 .lss 4 (zki 1),zmv 6 5,.grp 6 false [zfa 7 1 0,zld 8 7 1,zbi 9 .gtr 8 (zki 5)] 10 9,zmv 11 10,.grp 11 false [zfa 12 1 1,zld 13 12 1,zbi 14 .lss 13 (zki 1)] 15 14,zmv 16 15,.grp 16 false [zfa 17 1 1,zld 18 17 1,zbi 19 .gtr 18 (zki 6)] 20 19,zmv 21 20,.grp 21 false [zfa 22 1 2,zld 23 22 1,zbi 24 .lss 23 (zki 1)] 25 24,zmv 26 25,.grp 26 false [zfa 27 1 2,zld 28 27 1,zbi 29 .gtr 28 (zki 6)] 30 29]),(.cond 30 (zsq [(.reg [zmv 2 (zkb false)]),.ret]) .skip)]),(zsq [(.reg [zfa 31 1 0,zld 32 31 1,zbi 33 .neq 32 (zki 1),zmv 34 33,.grp 34 true [zfa 35 1 1,zld 36 35 1,zfa 37 1 2,zld 38 37 1,zbi 39 .neq 36 38] 40 39]),(.cond 40 (zsq [(.reg [zmv 2 (zkb false)]),.ret]) .skip)]),(.draw [zfa 41 1 3,zld 42 41 1,zle 43 42,zLd 44 1 4,zca 45 221 [44],zbi 46 .eql 43 45,zmv 47 46,.grp 47 true [zfa 48 1 3,zld 49 48 1,zca 50 195 [49]] 51 50,zmv 2 51] [(0,4),(1,4),(2,4)]),.ret])
def QLk:List (ARv × Md):=[(.t 2,.one .d)]
theorem QEB (o:TOp') (h :
 (zif ((((((decide (o.1<(1:Int)))||(decide (o.1>(5:Int))))||(decide (o.2.1<(1:Int))))||(decide (o.2.1>(6:Int))))||(decide (o.2.2.1<(1:Int))))||(decide (o.2.2.1>(6:Int)))) (K (Qgf false)) (zif ((o.1 != (1:Int))&&(o.2.1 != o.2.2.1)) (K (Qgf false)) (K (Qgf ((((o.2.2.2).length:Int)==(Ya o))&&(ZD o.2.2.2))))))):Hold (tawp QXJ (0+0) QVP (TQ 0 0 QLk K) (Qd [(.a (Tup.cells ctOp o))])) :=
 Hold.of (by kernel_rfl) h
theorem QFK (o:TOp'):TCon Tryz.prog 194 [(.a (Tup.cells ctOp o))] (Qgf (Zb o)):=by
 refine Qj rfl fun hb=>tcg (n:=52) (sg:=QfH.sg) Qg (TOk.cons QSn (TOk.cons Ql3 TOk.nil)) (by kernel_rfl) (by kernel_rfl) (QEB _ o ?_)
 have hl_o_3:(o.2.2.2).length≤9223372036854775807:=hb.1.2.2.2.1.1
 grind [Zb,m_in]
theorem QqK:Qe Tryz.prog QfH:=Qh fun x _=>QFK x.1
def Qco (t:Bool):TRes:=zre (zcb t)
def Qcj:TRow:=Qf 74 [(.a [(.sl ctOp)])] fun x=>(none,Qco (QN x.1))
def QqS:List TRow:=[QeT,Jm]
def QCq:TCode :=
 (zsq [(zsq [(.reg [zmv 4 3,zfa 5 1 0,zld 6 5 1,zle 7 6,zbi 8 .lss 4 7]),(.cond 8 .skip (.exit 0))]),(.block 1 (zsq [(.draw [zfa 11 1 0,zld 12 11 1,zmv 13 3,zia 14 12 13 ctOp,zLd 15 14 4,zca 16 152 [15],zno 17 16,zmv 18 17,.grp 18 false [zmv 19 3,zbi 20 .gtr 19 (zki 0),zmv 21 20,.grp 21 true [zfa 22 1 0,zld 23 22 1,zmv 24 3,zia 25 23 24 ctOp,zfa 26 25 1,zld 27 26 1,zfa 28 1 0,zld 29 28 1,zmv 30 3,zbi 31 .sub 30 (zki 1),zia 32 29 31 ctOp,zfa 33 32 2,zld 34 33 1,zbi 35 .neq 27 34] 36 35] 37 36] []),(.cond 37 (zsq [(.reg [zmv 2 (zkb false)]),.ret]) .skip)])),(.reg [zmv 9 3,zbi 10 .add 9 (zki 1),zmv 3 10])])
def QwK:List (Nat × Md):=[(1,.b [.d]),(3,.one .d)]
def QCG:TCode :=
 (zsq [(.reg [zfa 38 1 0,zld 39 38 1,zle 40 39,zca 41 77 [40,(zki 1),(zki 8)],zmv 2 41]),.ret])
def QSh:TCode :=
 (zsq [(.reg [zop 1 (.box 26 0 1),zmv 2 (zkb false)]),(zsq [(.reg [zmv 3 (zki 0)]),(.block 0 (.loop QwK QCq))]),QCG])
def QAc:List (ARv × Md):=[(.t 2,.one .d)]
def QCs:Qb:=TQ 0 0 QAc K
def QQV:Qb:=Qseq (tawp QqS 0 QCG (QCs K)) (QCs K)
def QIF:Qb:=Qblk 0 (QQV K)
def QgC (m:List TOp') (i:Int):Prop:=Loop QqS 0 QwK QCq (QIF K) ⟨[(1,(.p 0 0 0)),(3,(zci i))],[(0,(.box [(zcs ctOp m)]))],1⟩
theorem QzW (m:List TOp') (i:Int) (h :
 (zif (decide (i<(m.length:Int))) ((((0:Int)≤i∧Int.toNat i<m.length)∧((!(!(Zb (gtd dOp m (Int.toNat i)))))=true→((decide (i>(0:Int)))=true→(((0:Int)≤i∧Int.toNat i<m.length)∧((0:Int)≤w64 (i-(1:Int))∧Int.toNat (w64 (i-(1:Int)))<m.length)))))∧(zif ((!(Zb (gtd dOp m (Int.toNat i))))||((decide (i>(0:Int)))&&(((gtd dOp m (Int.toNat i)).2.1) != ((gtd dOp m (Int.toNat (w64 (i-(1:Int))))).2.2.1)))) (K (Qco false)) (QgC K m (w64 (i+(1:Int)))))) (K (Qco (m_in (m.length:Int) (1:Int) (8:Int)))))):QgC K m i :=
 Loop.of (by kernel_rfl) h
theorem QWk (m:List TOp') (h :
 (QgC K m 0)):Hold (tawp QqS (0+0) QSh (TQ 0 0 QAc K) (Qd [(.a [(.c (.sl ctOp) m)])])) :=
 Hold.of (by kernel_rfl) h
theorem QPO (m:List TOp'):TCon Tryz.prog 74 [(.a [(.c (.sl ctOp) m)])] (Qco (QN m)):=by
 refine Qj rfl fun hb=>tcg (n:=42) (sg:=Qcj.sg) Qg (TOk.cons Ql7 (TOk.cons JJ TOk.nil)) (by kernel_rfl) (by kernel_rfl) (QWk _ m ?_)
 have hl_m_0:(m).length≤9223372036854775807:=hb.1.1.1
 refine Zp m (fun r k=>Yv (QaT m k) r=Yv none m→QgC (fun r'=>r'=Qco (QN m)) m k) ?_ ?_ rfl
 ·intro he
  refine QzW (fun r'=>r'=Qco (QN m)) m _ ⟨fun h=>by simp at h,fun _=>?_⟩
  grind [Yv,QN]
 ·intro k x r hk hlt hg ih he
  refine QzW (fun r'=>r'=Qco (QN m)) m _ ⟨fun _=>?_,fun h=>by simp at h;omega⟩
  rw [Int.toNat_natCast,hg,Qq (x:=(k:Int)+1) (by omega) (by omega)]
  have ep:QaT m (k+1)=some x.2.2.1:=by simp [QaT,hg]
  rw [ep] at ih
  rcases Nat.eq_zero_or_pos k with h0 | h0
  ·subst h0
   simp only [Yv,QaT,if_true] at he
   grind [QN]
  ·have e2:=Qdl h0 (by omega:k≤9223372036854775807)
   simp only [Yv,QaT,if_neg (Nat.ne_of_gt h0)] at he
   grind [QN]
theorem QeL:Qe Tryz.prog Qcj:=Qh fun x _=>QPO x.1
def QbT (t:Bool):TRes:=zre (zcb t)
def JU:TRow:=Qf 131 [(.a [(.sl ctOp)])] fun x=>(none,QbT (QN x.1))
def QlL:List TRow:=[QfH]
def Qu4:TCode :=
 (zsq [(.reg [zbi 19 .lss 18 17]),(.cond 19 .skip (.exit 0)),(.block 1 (zsq [(.reg [zmv 20 18,zia 21 16 18 ctOp,zLd 22 21 4,zop 4 (.new 69 (z0s ctOp)),zmv 3 20,zst 4 22 4]),(.draw [zLd 23 4 4,zca 24 194 [23],zno 25 24,zmv 26 25,.grp 26 false [zmv 27 3,zbi 28 .gtr 27 (zki 0),zmv 29 28,.grp 29 true [zfa 30 1 0,zld 31 30 1,zmv 32 3,zbi 33 .sub 32 (zki 1),zia 34 31 33 ctOp,zfa 35 34 2,zld 36 35 1,zfa 37 4 1,zld 38 37 1,zbi 39 .neq 36 38] 40 39] 41 40] []),(.cond 41 (zsq [(.reg [zmv 2 (zkb false)]),.ret]) .skip)])),(.reg [zbi 42 .add 18 (zki 1),zmv 18 42])])
def QuA:List (Nat × Md):=[(1,.b [.d]),(16,.one .d),(17,.one .d),(18,.one .d)]
def Qr5:TCode :=
 (zsq [(.reg [zmv 2 (zkb true)]),.ret])
def QJ2:TCode :=
 (zsq [(.reg [zop 1 (.box 26 0 1),zmv 2 (zkb false)]),(zsq [(.reg [zfa 5 1 0,zld 6 5 1,zle 7 6,zbi 8 .lss 7 (zki 1),zmv 9 8,.grp 9 false [zfa 10 1 0,zld 11 10 1,zle 12 11,zbi 13 .gtr 12 (zki 8)] 14 13]),(.cond 14 (zsq [(.reg [zmv 2 (zkb false)]),.ret]) .skip)]),(zsq [(.reg [zfa 15 1 0,zld 16 15 1,zle 17 16,zmv 18 (zki 0)]),(.block 0 (.loop QuA Qu4))]),Qr5])
def QBJ:List (ARv × Md):=[(.t 2,.one .d)]
def QA8:Qb:=TQ 0 0 QBJ K
def QVv:Qb:=Qseq (tawp QlL 0 Qr5 (QA8 K)) (QA8 K)
def QFr:Qb:=Qblk 0 (QVv K)
def Qh2 (m:List TOp') (x:Int):Prop:=Loop QlL 0 QuA Qu4 (QFr K) ⟨[(1,(.p 0 0 0)),(16,(zcs ctOp m)),(17,(zci (m.length:Int))),(18,(zci x))],[(0,(.box [(zcs ctOp m)]))],1⟩
theorem QuG (m:List TOp') (x:Int) (h :
 (zif (decide (x<(m.length:Int))) (((0:Int)≤x∧Int.toNat x<m.length)∧(((!(!(Zb (gtd dOp m (Int.toNat x)))))=true→((decide (x>(0:Int)))=true→((0:Int)≤w64 (x-(1:Int))∧Int.toNat (w64 (x-(1:Int)))<m.length)))∧(zif ((!(Zb (gtd dOp m (Int.toNat x))))||((decide (x>(0:Int)))&&(((gtd dOp m (Int.toNat (w64 (x-(1:Int))))).2.2.1) != ((gtd dOp m (Int.toNat x)).2.1)))) (K (QbT false)) (Qh2 K m (w64 (x+(1:Int))))))) (K (QbT true)))):Qh2 K m x :=
 Loop.of (by kernel_rfl) h
theorem QTe (m:List TOp') (h :
 (zif ((decide ((m.length:Int)<(1:Int)))||(decide ((m.length:Int)>(8:Int)))) (K (QbT false)) (Qh2 K m 0))):Hold (tawp QlL (0+0) QJ2 (TQ 0 0 QBJ K) (Qd [(.a [(.c (.sl ctOp) m)])])) :=
 Hold.of (by kernel_rfl) h
theorem QHR (m:List TOp'):TCon Tryz.prog 131 [(.a [(.c (.sl ctOp) m)])] (QbT (QN m)):=by
 refine Qj rfl fun hb=>tcg (n:=43) (sg:=JU.sg) Qg (TOk.cons QqK TOk.nil) (by kernel_rfl) (by kernel_rfl) (QTe _ m ?_)
 have hl_m_0:(m).length≤9223372036854775807:=hb.1.1.1
 refine ⟨fun h=>R_eq (by grind [QN,m_in]),fun h=>?_⟩
 have hin:m_in m.length 1 8=true:=by grind [m_in]
 refine Zp m (fun r k=>Yv (QaT m k) r=Yv none m→Qh2 (fun r'=>r'=QbT (QN m)) m k) ?_ ?_ rfl
 ·intro he
  refine QuG (fun r'=>r'=QbT (QN m)) m _ ⟨fun h=>by simp at h,fun _=>?_⟩
  grind [Yv,QN]
 ·intro k x r hk hlt hg ih he
  refine QuG (fun r'=>r'=QbT (QN m)) m _ ⟨fun _=>?_,fun h=>by simp at h;omega⟩
  rw [Int.toNat_natCast,hg,Qq (x:=(k:Int)+1) (by omega) (by omega)]
  have ep:QaT m (k+1)=some x.2.2.1:=by simp [QaT,hg]
  rw [ep] at ih
  rcases Nat.eq_zero_or_pos k with h0 | h0
  ·subst h0
   simp only [Yv,QaT,if_true] at he
   grind [QN]
  ·have e2:=Qdl h0 (by omega:k≤9223372036854775807)
   simp only [Yv,QaT,if_neg (Nat.ne_of_gt h0)] at he
   grind [QN]
theorem QaU:Qe Tryz.prog JU:=Qh fun x _=>QHR x.1
def Qij (t:Int):TRes:=zre (zci t)
def QdP:TRow:=Qf 115 [(.a [(.sl ctOp)])] fun x=>(none,Qij (Q7 x.1))
def QPa:List TRow:=[JU]
def QGa:TCode :=
 (zsq [(.reg [zop 1 (.box 26 0 1),zmv 2 (zki 0)]),(zsq [(.reg [zLd 3 1 1,zca 4 131 [3],zno 5 4]),(.cond 5 (zsq [(.reg [zmv 2 (zki 0)]),.ret]) .skip)]),(.reg [zfa 6 1 0,zld 7 6 1,zia 8 7 (zki 0) ctOp,zfa 9 8 1,zld 10 9 1,zmv 2 10]),.ret])
def QTV:List (ARv × Md):=[(.t 2,.one .d)]
theorem QHr (m:List TOp') (h :
 (zif (!(QN m)) (K (Qij (0:Int))) (((0:Int)≤(0:Int)∧Int.toNat (0:Int)<m.length)∧K (Qij ((gtd dOp m (Int.toNat (0:Int))).2.1))))):Hold (tawp QPa (0+0) QGa (TQ 0 0 QTV K) (Qd [(.a [(.c (.sl ctOp) m)])])) :=
 Hold.of (by kernel_rfl) h
theorem QN3 (m:List TOp'):TCon Tryz.prog 115 [(.a [(.c (.sl ctOp) m)])] (Qij (Q7 m)):=by
 refine Qj rfl fun hb=>tcg (n:=11) (sg:=QdP.sg) Qg (TOk.cons QaU TOk.nil) (by kernel_rfl) (by kernel_rfl) (QHr _ m ?_)
 have hl_m_0:(m).length≤9223372036854775807:=hb.1.1.1
 refine ⟨fun h=>R_eq (by grind [Q7]),fun h=>?_⟩
 have:=YM (m:=m) (by simpa using h)
 exact ⟨⟨by omega,by simp;omega⟩,R_eq (by simp at h;simp [Q7,h])⟩
theorem QjR:Qe Tryz.prog QdP:=Qh fun x _=>QN3 x.1
def QhF (t:Int):TRes:=zre (zci t)
def QiD:TRow:=Qf 153 [(.a [(.sl ctOp)])] fun x=>(none,QhF (Q7 x.1))
def QW3:List TRow:=[Qcj]
def QPk:TCode :=
 (zsq [(.reg [zop 1 (.box 26 0 1),zmv 2 (zki 0)]),(zsq [(.reg [zLd 3 1 1,zca 4 74 [3],zno 5 4]),(.cond 5 (zsq [(.reg [zmv 2 (zki 0)]),.ret]) .skip)]),(.reg [zfa 6 1 0,zld 7 6 1,zia 8 7 (zki 0) ctOp,zfa 9 8 1,zld 10 9 1,zmv 2 10]),.ret])
def QS5:List (ARv × Md):=[(.t 2,.one .d)]
theorem QVZ (m:List TOp') (h :
 (zif (!(QN m)) (K (QhF (0:Int))) (((0:Int)≤(0:Int)∧Int.toNat (0:Int)<m.length)∧K (QhF ((gtd dOp m (Int.toNat (0:Int))).2.1))))):Hold (tawp QW3 (0+0) QPk (TQ 0 0 QS5 K) (Qd [(.a [(.c (.sl ctOp) m)])])) :=
 Hold.of (by kernel_rfl) h
theorem QKD (m:List TOp'):TCon Tryz.prog 153 [(.a [(.c (.sl ctOp) m)])] (QhF (Q7 m)):=by
 refine Qj rfl fun hb=>tcg (n:=11) (sg:=QiD.sg) Qg (TOk.cons QeL TOk.nil) (by kernel_rfl) (by kernel_rfl) (QVZ _ m ?_)
 have hl_m_0:(m).length≤9223372036854775807:=hb.1.1.1
 refine ⟨fun h=>R_eq (by grind [Q7]),fun h=>?_⟩
 have:=YM (m:=m) (by simpa using h)
 exact ⟨⟨by omega,by simp;omega⟩,R_eq (by simp at h;simp [Q7,h])⟩
theorem Qwm:Qe Tryz.prog QiD:=Qh fun x _=>QKD x.1
def QgM (t:Int):TRes:=zre (zci t)
def Qef:TRow:=Qf 117 [(.a [(.sl ctOp)])] fun x=>(none,QgM (Za x.1))
def QGK:List TRow:=[JU]
def QLB:TCode :=
 (zsq [(.reg [zop 1 (.box 26 0 1),zmv 2 (zki 0)]),(zsq [(.reg [zLd 3 1 1,zca 4 131 [3],zno 5 4]),(.cond 5 (zsq [(.reg [zmv 2 (zki 0)]),.ret]) .skip)]),(.reg [zfa 6 1 0,zld 7 6 1,zfa 8 1 0,zld 9 8 1,zle 10 9,zbi 11 .sub 10 (zki 1),zia 12 7 11 ctOp,zfa 13 12 2,zld 14 13 1,zmv 2 14]),.ret])
def QST:List (ARv × Md):=[(.t 2,.one .d)]
theorem QPz (m:List TOp') (h :
 (zif (!(QN m)) (K (QgM (0:Int))) (((0:Int)≤w64 ((m.length:Int)-(1:Int))∧Int.toNat (w64 ((m.length:Int)-(1:Int)))<m.length)∧K (QgM ((gtd dOp m (Int.toNat (w64 ((m.length:Int)-(1:Int))))).2.2.1))))):Hold (tawp QGK (0+0) QLB (TQ 0 0 QST K) (Qd [(.a [(.c (.sl ctOp) m)])])) :=
 Hold.of (by kernel_rfl) h
theorem QVh (m:List TOp'):TCon Tryz.prog 117 [(.a [(.c (.sl ctOp) m)])] (QgM (Za m)):=by
 refine Qj rfl fun hb=>tcg (n:=15) (sg:=Qef.sg) Qg (TOk.cons QaU TOk.nil) (by kernel_rfl) (by kernel_rfl) (QPz _ m ?_)
 have hl_m_0:(m).length≤9223372036854775807:=hb.1.1.1
 refine ⟨fun h=>R_eq (by grind [Za]),fun h=>?_⟩
 have:=YM (m:=m) (by simpa using h)
 have e:=Qdl this.1 (by omega:m.length≤9223372036854775807)
 rw [e.1]
 exact ⟨⟨e.2,by omega⟩,R_eq (by simp at h;simp [Za,h])⟩
theorem QgJ:Qe Tryz.prog Qef:=Qh fun x _=>QVh x.1
def Qhf (t:Int):TRes:=zre (zci t)
def QiS:TRow:=Qf 154 [(.a [(.sl ctOp)])] fun x=>(none,Qhf (Za x.1))
def QPD:List TRow:=[Qcj]
def QJA:TCode :=
 (zsq [(.reg [zop 1 (.box 26 0 1),zmv 2 (zki 0)]),(zsq [(.reg [zLd 3 1 1,zca 4 74 [3],zno 5 4]),(.cond 5 (zsq [(.reg [zmv 2 (zki 0)]),.ret]) .skip)]),(.reg [zfa 6 1 0,zld 7 6 1,zfa 8 1 0,zld 9 8 1,zle 10 9,zbi 11 .sub 10 (zki 1),zia 12 7 11 ctOp,zfa 13 12 2,zld 14 13 1,zmv 2 14]),.ret])
def QEs:List (ARv × Md):=[(.t 2,.one .d)]
theorem QQD (m:List TOp') (h :
 (zif (!(QN m)) (K (Qhf (0:Int))) (((0:Int)≤w64 ((m.length:Int)-(1:Int))∧Int.toNat (w64 ((m.length:Int)-(1:Int)))<m.length)∧K (Qhf ((gtd dOp m (Int.toNat (w64 ((m.length:Int)-(1:Int))))).2.2.1))))):Hold (tawp QPD (0+0) QJA (TQ 0 0 QEs K) (Qd [(.a [(.c (.sl ctOp) m)])])) :=
 Hold.of (by kernel_rfl) h
theorem QEv (m:List TOp'):TCon Tryz.prog 154 [(.a [(.c (.sl ctOp) m)])] (Qhf (Za m)):=by
 refine Qj rfl fun hb=>tcg (n:=15) (sg:=QiS.sg) Qg (TOk.cons QeL TOk.nil) (by kernel_rfl) (by kernel_rfl) (QQD _ m ?_)
 have hl_m_0:(m).length≤9223372036854775807:=hb.1.1.1
 refine ⟨fun h=>R_eq (by grind [Za]),fun h=>?_⟩
 have:=YM (m:=m) (by simpa using h)
 have e:=Qdl this.1 (by omega:m.length≤9223372036854775807)
 rw [e.1]
 exact ⟨⟨e.2,by omega⟩,R_eq (by simp at h;simp [Za,h])⟩
theorem QAj:Qe Tryz.prog QiS:=Qh fun x _=>QEv x.1
end
end Go.Proofs.YtjbdljkhbglnhaaGreat.Am

