/- -/
import Derived.Test.YtjbdljkhbglnhaaGreatZJP1
namespace Go.Proofs.YtjbdljkhbglnhaaGreat.Am
open Go Go.RowKit Go.Proofs.YtjbdljkhbglnhaaGreat
set_option linter.all false
noncomputable section
variable (K:TRes→Prop)
def JE (t:Int):TRes:=zre (zci t)
def Qd5:TRow:=Qg 202 [(.a ctOp)] fun x=>(none,JE (ZE x.1))
def QgP:List TRow:=[Y4]
def Qtb:TCode :=
 (.cond 15 (zsq [(.reg [zfa 18 1 1,zld 19 18 1,zfa 20 1 2,zld 21 20 1,zbi 22 .mul 19 21,zmv 2 22]),.ret]) (zsq [(.reg [zbi 24 .eql 14 (zki 2),zmv 23 24]),(.cond 23 (zsq [(.reg [zfa 25 1 1,zld 26 25 1,zmv 2 26]),.ret]) (zsq [(.reg [zbi 28 .eql 14 (zki 4),zmv 27 28]),(.cond 27 (zsq [(.reg [zmv 2 (zki 1)]),.ret]) .skip)]))]))
def Qyh:List (Nat × Md):=[(1,.b (zds 4)),(14,.one .d),(15,.one .d)]
def QvA:TCode:=.wk Qyh Qtb
def QmN:TCode :=
 (zsq [(.reg [zmv 2 (zki 0)]),.ret])
def QvI:TCode :=
 (zsq [(.reg [zop 1 (.box 69 0 4),zmv 2 (zki 0)]),(zsq [(.reg [zfa 3 1 1,zld 4 3 1,zca 5 77 [4,(zki 1),(zki 6)],zno 6 5,zmv 7 6,.grp 7 false [zfa 8 1 2,zld 9 8 1,zca 10 77 [9,(zki 1),(zki 6)],zno 11 10] 12 11]),(.cond 12 (zsq [(.reg [zmv 2 (zki 0)]),.ret]) .skip)]),(zsq [(.reg [zfa 13 1 0,zld 14 13 1]),(.block 0 (zsq [(zsq [(.reg [zbi 16 .eql 14 (zki 1),zmv 15 16]),(.cond 15 .skip (.reg [zbi 17 .eql 14 (zki 5),zmv 15 17]))]),QvA]))]),QmN])
def QsD:List (ARv × Md):=[(.t 2,.one .d)]
def Qot:Qc:=TQ 0 0 QsD K
def QAY:Qc:=Qseq (tawp QgP 0 QmN (Qot K)) (Qot K)
def QE9:Qc:=Qblk 0 (QAY K)
@[irreducible] def QgV (o:TOp') (x:Bool):Prop:=tawp QgP 0 Qtb (QE9 K) ⟨[(1,(.p 0 0 0)),(14,(zci o.1)),(15,(zcb x))],[(0,(.box (Tup.cells ctOp o)))],1⟩
theorem QmR (o:TOp') (x:Bool) (h :
 (zif x (K (JE (w64 (o.2.1*o.2.2.1)))) (zif (o.1==(2:Int)) (K (JE o.2.1)) (zif (o.1==(4:Int)) (K (JE (1:Int))) (K (JE (0:Int))))))):Hold (QgV K o x) :=
 Hold.of (by kernel_rfl) h
theorem QzH (o:TOp') (h :
 (zif ((!(m_in o.2.1 (1:Int) (6:Int)))||(!(m_in o.2.2.1 (1:Int) (6:Int)))) (K (JE (0:Int))) (zif (o.1==(1:Int)) (QgV K o (o.1==(1:Int))) (QgV K o (o.1==(5:Int)))))):Hold (tawp QgP (0+0) QvI (TQ 0 0 QsD K) (Qe [(.a (Tup.cells ctOp o))])) :=
 Hold.of (by kernel_rfl) h
theorem QGP (o:TOp'):TCon Tryz.prog 202 [(.a (Tup.cells ctOp o))] (JE (ZE o)):=by
 refine Ql rfl fun hb=>tcg (n:=29) (sg:=Qd5.sg) Qi (TOk.cons JB TOk.nil) (by kernel_rfl) (by kernel_rfl) (QzH _ o ?_)
 have hl_o_3:(o.2.2.2).length≤9223372036854775807:=hb.1.2.2.2.1.1
 refine ⟨fun h=>R_eq (by grind [ZE]),fun h=>?_⟩
 have hi:m_in o.2.1 1 6=true∧m_in o.2.2.1 1 6=true:=by simpa using h
 have hm:=QaV (Zh.1 hi.1).1 (Zh.1 hi.1).2 (Zh.1 hi.2).1 (Zh.1 hi.2).2
 have hw:=Qs (x:=o.2.1*o.2.2.1) (by omega) (by omega)
 refine ⟨fun h1=>(QmR (fun r'=>r'=JE (ZE o)) o _ ?_).h,fun h1=>(QmR (fun r'=>r'=JE (ZE o)) o _ ?_).h⟩ <;> grind [ZE]
theorem QqT:Qh Tryz.prog Qd5:=Qk fun x _=>QGP x.1
def Jz (t:Int):TRes:=zre (zci t)
def Qg4:TRow:=Qg 221 [(.a ctOp)] fun x=>(none,Jz (ZE x.1))
def Qkm:List TRow:=[]
def QuO:TCode :=
 (.cond 23 (zsq [(.reg [zfa 26 1 1,zld 27 26 1,zfa 28 1 2,zld 29 28 1,zbi 30 .mul 27 29,zmv 2 30]),.ret]) (zsq [(.reg [zbi 32 .eql 22 (zki 2),zmv 31 32]),(.cond 31 (zsq [(.reg [zfa 33 1 1,zld 34 33 1,zmv 2 34]),.ret]) (zsq [(.reg [zbi 36 .eql 22 (zki 4),zmv 35 36]),(.cond 35 (zsq [(.reg [zmv 2 (zki 1)]),.ret]) .skip)]))]))
def QzU:List (Nat × Md):=[(1,.b (zds 4)),(22,.one .d),(23,.one .d)]
def QGo:TCode:=.wk QzU QuO
def QrP:TCode :=
 (zsq [(.reg [zmv 2 (zki 0)]),.ret])
def QEV:TCode :=
 (zsq [(.reg [zop 1 (.box 69 0 4),zmv 2 (zki 0)]),(zsq [(.reg [zfa 3 1 1,zld 4 3 1,zbi 5 .lss 4 (zki 1),zmv 6 5,.grp 6 false [zfa 7 1 1,zld 8 7 1,zbi 9 .gtr 8 (zki 6)] 10 9,zmv 11 10,.grp 11 false [zfa 12 1 2,zld 13 12 1,zbi 14 .lss 13 (zki 1)] 15 14,zmv 16 15,.grp 16 false [zfa 17 1 2,zld 18 17 1,zbi 19 .gtr 18 (zki 6)] 20 19]),(.cond 20 (zsq [(.reg [zmv 2 (zki 0)]),.ret]) .skip)]),(zsq [(.reg [zfa 21 1 0,zld 22 21 1]),(.block 0 (zsq [(zsq [(.reg [zbi 24 .eql 22 (zki 1),zmv 23 24]),(.cond 23 .skip (.reg [zbi 25 .eql 22 (zki 5),zmv 23 25]))]),QGo]))]),QrP])
def Qq3:List (ARv × Md):=[(.t 2,.one .d)]
def Qoj:Qc:=TQ 0 0 Qq3 K
def Qyt:Qc:=Qseq (tawp Qkm 0 QrP (Qoj K)) (Qoj K)
def QJB:Qc:=Qblk 0 (Qyt K)
@[irreducible] def QjR (o:TOp') (x:Bool):Prop:=tawp Qkm 0 QuO (QJB K) ⟨[(1,(.p 0 0 0)),(22,(zci o.1)),(23,(zcb x))],[(0,(.box (Tup.cells ctOp o)))],1⟩
theorem QtA (o:TOp') (x:Bool) (h :
 (zif x (K (Jz (w64 (o.2.1*o.2.2.1)))) (zif (o.1==(2:Int)) (K (Jz o.2.1)) (zif (o.1==(4:Int)) (K (Jz (1:Int))) (K (Jz (0:Int))))))):Hold (QjR K o x) :=
 Hold.of (by kernel_rfl) h
theorem QIO (o:TOp') (h :
 (zif ((((decide (o.2.1<(1:Int)))||(decide (o.2.1>(6:Int))))||(decide (o.2.2.1<(1:Int))))||(decide (o.2.2.1>(6:Int)))) (K (Jz (0:Int))) (zif (o.1==(1:Int)) (QjR K o (o.1==(1:Int))) (QjR K o (o.1==(5:Int)))))):Hold (tawp Qkm (0+0) QEV (TQ 0 0 Qq3 K) (Qe [(.a (Tup.cells ctOp o))])) :=
 Hold.of (by kernel_rfl) h
theorem QyH (o:TOp'):TCon Tryz.prog 221 [(.a (Tup.cells ctOp o))] (Jz (ZE o)):=by
 refine Ql rfl fun hb=>tcg (n:=37) (sg:=Qg4.sg) Qi TOk.nil (by kernel_rfl) (by kernel_rfl) (QIO _ o ?_)
 have hl_o_3:(o.2.2.2).length≤9223372036854775807:=hb.1.2.2.2.1.1
 refine ⟨fun h=>R_eq (by grind [ZE,m_in]),fun h=>?_⟩
 have hi:m_in o.2.1 1 6=true∧m_in o.2.2.1 1 6=true:=by grind [m_in]
 have hm:=QaV (Zh.1 hi.1).1 (Zh.1 hi.1).2 (Zh.1 hi.2).1 (Zh.1 hi.2).2
 have hw:=Qs (x:=o.2.1*o.2.2.1) (by omega) (by omega)
 refine ⟨fun h1=>(QtA (fun r'=>r'=Jz (ZE o)) o _ ?_).h,fun h1=>(QtA (fun r'=>r'=Jz (ZE o)) o _ ?_).h⟩ <;> grind [ZE]
theorem Qvl:Qh Tryz.prog Qg4:=Qk fun x _=>QyH x.1
def JY (t:Bool):TRes:=zre (zcb t)
def QcY:TRow:=Qg 152 [(.a ctOp)] fun x=>(none,JY (QS x.1))
def QhH:List TRow:=[Y4,Qd5,QbA]
def QpG:TCode :=
 (zsq [(zsq [(.reg [zmv 40 3,zfa 41 1 3,zld 42 41 1,zle 43 42,zbi 44 .lss 40 43]),(.cond 44 .skip (.exit 0))]),(.block 1 (zsq [(.reg [zfa 47 1 3,zld 48 47 1,zmv 49 3,zia 50 48 49 [TI],zld 51 50 1,zca 52 110 [51],zno 53 52]),(.cond 53 (zsq [(.reg [zmv 2 (zkb false)]),.ret]) .skip)])),(.reg [zmv 45 3,zbi 46 .add 45 (zki 1),zmv 3 46])])
def QrD:List (Nat × Md):=[(1,.b (zds 4)),(3,.one .d)]
def Qnv:TCode :=
 (zsq [(.reg [zmv 2 (zkb true)]),.ret])
def QHl:TCode :=
 (zsq [(.reg [zop 1 (.box 69 0 4),zmv 2 (zkb false)]),(zsq [(.draw [zfa 4 1 0,zld 5 4 1,zca 6 77 [5,(zki 1),(zki 5)],zno 7 6,zmv 8 7,.grp 8 false [zfa 9 1 1,zld 10 9 1,zca 11 77 [10,(zki 1),(zki 6)],zno 12 11] 13 12,zmv 14 13,.grp 14 false [zfa 15 1 2,zld 16 15 1,zca 17 77 [16,(zki 1),(zki 6)],zno 18 17] 19 18,zmv 20 19,.grp 20 false [zfa 21 1 0,zld 22 21 1,zbi 23 .neq 22 (zki 1),zmv 24 23,.grp 24 true [zfa 25 1 1,zld 26 25 1,zfa 27 1 2,zld 28 27 1,zbi 29 .neq 26 28] 30 29] 31 30,zmv 32 31,.grp 32 false [zfa 33 1 3,zld 34 33 1,zle 35 34,zLd 36 1 4,zca 37 202 [36],zbi 38 .neq 35 37] 39 38] [(29,33),(30,33),(31,33)]),(.cond 39 (zsq [(.reg [zmv 2 (zkb false)]),.ret]) .skip)]),(zsq [(.reg [zmv 3 (zki 0)]),(.block 0 (.loop QrD QpG))]),Qnv])
def Qt3:List (ARv × Md):=[(.t 2,.one .d)]
def QpK:Qc:=TQ 0 0 Qt3 K
def QJT:Qc:=Qseq (tawp QhH 0 Qnv (QpK K)) (QpK K)
def QGy:Qc:=Qblk 0 (QJT K)
def QhV (o:TOp') (i:Int):Prop:=Loop QhH 0 QrD QpG (QGy K) ⟨[(1,(.p 0 0 0)),(3,(zci i))],[(0,(.box (Tup.cells ctOp o)))],1⟩
theorem QAs (o:TOp') (i:Int) (h :
 (zif (decide (i<((o.2.2.2).length:Int))) (((0:Int)≤i∧Int.toNat i<(o.2.2.2).length)∧(zif (!(QU (gtd (0:Int) o.2.2.2 (Int.toNat i)))) (K (JY false)) (QhV K o (w64 (i+(1:Int)))))) (K (JY true)))):QhV K o i :=
 Loop.of (by kernel_rfl) h
theorem QxL (o:TOp') (h :
 (zif (((((!(m_in o.1 (1:Int) (5:Int)))||(!(m_in o.2.1 (1:Int) (6:Int))))||(!(m_in o.2.2.1 (1:Int) (6:Int))))||((o.1 != (1:Int))&&(o.2.1 != o.2.2.1)))||(((o.2.2.2).length:Int) != (ZE o))) (K (JY false)) (QhV K o 0))):Hold (tawp QhH (0+0) QHl (TQ 0 0 Qt3 K) (Qe [(.a (Tup.cells ctOp o))])) :=
 Hold.of (by kernel_rfl) h
theorem Qvn (o:TOp'):TCon Tryz.prog 152 [(.a (Tup.cells ctOp o))] (JY (QS o)):=by
 refine Ql rfl fun hb=>tcg (n:=54) (sg:=QcY.sg) Qi (TOk.cons JB (TOk.cons QqT (TOk.cons QfC TOk.nil))) (by kernel_rfl) (by kernel_rfl) (QxL _ o ?_)
 have hl_o_3:(o.2.2.2).length≤9223372036854775807:=hb.1.2.2.2.1.1
 refine ⟨fun h=>R_eq (by grind [QS]),fun h=>?_⟩
 exact Qge (Q:=fun x=>JY x=JY (QS o)) (p:=QU) (c:=fun x=>!(QU x)) 0 hl_o_3 (fun _=>rfl) (fun i h=>QAs (fun r'=>r'=JY (QS o)) o i h) (R_eq (by grind [QS,Q8]))
theorem Qj0:Qh Tryz.prog QcY:=Qk fun x _=>Qvn x.1
def Qcm (t:Bool):TRes:=zre (zcb t)
def Qdb:TRow:=Qg 194 [(.a ctOp)] fun x=>(none,Qcm (QS x.1))
def QGe:List TRow:=[Qg4,Qdq]
def QyV:TCode :=
 (zsq [(.reg [zop 1 (.box 69 0 4),zmv 2 (zkb false)]),(zsq [(.reg [zfa 3 1 0,zld 4 3 1,zbi 5 .lss 4 (zki 1),zmv 6 5,.grp 6 false [zfa 7 1 0,zld 8 7 1,zbi 9 .gtr 8 (zki 5)] 10 9,zmv 11 10,.grp 11 false [zfa 12 1 1,zld 13 12 1,zbi 14 .lss 13 (zki 1)] 15 14,zmv 16 15,.grp 16 false [zfa 17 1 1,zld 18 17 1,zbi 19 .gtr 18 (zki 6)] 20 19,zmv 21 20,.grp 21 false [zfa 22 1 2,zld 23 22 1,zbi 24 .lss 23 (zki 1)] 25 24,zmv 26 25,.grp 26 false [zfa 27 1 2,zld 28 27 1,zbi 29 .gtr 28 (zki 6)] 30 29]),(.cond 30 (zsq [(.reg [zmv 2 (zkb false)]),.ret]) .skip)]),(zsq [(.reg [zfa 31 1 0,zld 32 31 1,zbi 33 .neq 32 (zki 1),zmv 34 33,.grp 34 true [zfa 35 1 1,zld 36 35 1,zfa 37 1 2,zld 38 37 1,zbi 39 .neq 36 38] 40 39]),(.cond 40 (zsq [(.reg [zmv 2 (zkb false)]),.ret]) .skip)]),(.draw [zfa 41 1 3,zld 42 41 1,zle 43 42,zLd 44 1 4,zca 45 221 [44],zbi 46 .eql 43 45,zmv 47 46,.grp 47 true [zfa 48 1 3,zld 49 48 1,zca 50 195 [49]] 51 50,zmv 2 51] [(0,4),(1,4),(2,4)]),.ret])
def Qxe:List (ARv × Md):=[(.t 2,.one .d)]
theorem Qwl (o:TOp') (h :
 (zif ((((((decide (o.1<(1:Int)))||(decide (o.1>(5:Int))))||(decide (o.2.1<(1:Int))))||(decide (o.2.1>(6:Int))))||(decide (o.2.2.1<(1:Int))))||(decide (o.2.2.1>(6:Int)))) (K (Qcm false)) (zif ((o.1 != (1:Int))&&(o.2.1 != o.2.2.1)) (K (Qcm false)) (K (Qcm ((((o.2.2.2).length:Int)==(ZE o))&&(Q8 o.2.2.2))))))):Hold (tawp QGe (0+0) QyV (TQ 0 0 Qxe K) (Qe [(.a (Tup.cells ctOp o))])) :=
 Hold.of (by kernel_rfl) h
theorem Qvg (o:TOp'):TCon Tryz.prog 194 [(.a (Tup.cells ctOp o))] (Qcm (QS o)):=by
 refine Ql rfl fun hb=>tcg (n:=52) (sg:=Qdb.sg) Qi (TOk.cons Qvl (TOk.cons QkU TOk.nil)) (by kernel_rfl) (by kernel_rfl) (Qwl _ o ?_)
 have hl_o_3:(o.2.2.2).length≤9223372036854775807:=hb.1.2.2.2.1.1
 grind [QS,m_in]
theorem QiQ:Qh Tryz.prog Qdb:=Qk fun x _=>Qvg x.1
def Qbi (t:Bool):TRes:=zre (zcb t)
def Qau:TRow:=Qg 74 [(.a [(.sl ctOp)])] fun x=>(none,Qbi (QC x.1))
def QkI:List TRow:=[QcY,Y4]
def Qlx:TCode :=
 (zsq [(zsq [(.reg [zmv 4 3,zfa 5 1 0,zld 6 5 1,zle 7 6,zbi 8 .lss 4 7]),(.cond 8 .skip (.exit 0))]),(.block 1 (zsq [(.draw [zfa 11 1 0,zld 12 11 1,zmv 13 3,zia 14 12 13 ctOp,zLd 15 14 4,zca 16 152 [15],zno 17 16,zmv 18 17,.grp 18 false [zmv 19 3,zbi 20 .gtr 19 (zki 0),zmv 21 20,.grp 21 true [zfa 22 1 0,zld 23 22 1,zmv 24 3,zia 25 23 24 ctOp,zfa 26 25 1,zld 27 26 1,zfa 28 1 0,zld 29 28 1,zmv 30 3,zbi 31 .sub 30 (zki 1),zia 32 29 31 ctOp,zfa 33 32 2,zld 34 33 1,zbi 35 .neq 27 34] 36 35] 37 36] []),(.cond 37 (zsq [(.reg [zmv 2 (zkb false)]),.ret]) .skip)])),(.reg [zmv 9 3,zbi 10 .add 9 (zki 1),zmv 3 10])])
def QuQ:List (Nat × Md):=[(1,.b [.d]),(3,.one .d)]
def Qqd:TCode :=
 (zsq [(.reg [zfa 38 1 0,zld 39 38 1,zle 40 39,zca 41 77 [40,(zki 1),(zki 8)],zmv 2 41]),.ret])
def QCt:TCode :=
 (zsq [(.reg [zop 1 (.box 26 0 1),zmv 2 (zkb false)]),(zsq [(.reg [zmv 3 (zki 0)]),(.block 0 (.loop QuQ Qlx))]),Qqd])
def QtD:List (ARv × Md):=[(.t 2,.one .d)]
def Qno:Qc:=TQ 0 0 QtD K
def QyM:Qc:=Qseq (tawp QkI 0 Qqd (Qno K)) (Qno K)
def Qyw:Qc:=Qblk 0 (QyM K)
def QdQ (m:List TOp') (i:Int):Prop:=Loop QkI 0 QuQ Qlx (Qyw K) ⟨[(1,(.p 0 0 0)),(3,(zci i))],[(0,(.box [(zcs ctOp m)]))],1⟩
theorem Qrh (m:List TOp') (i:Int) (h :
 (zif (decide (i<(m.length:Int))) ((((0:Int)≤i∧Int.toNat i<m.length)∧((!(!(QS (gtd dOp m (Int.toNat i)))))=true→((decide (i>(0:Int)))=true→(((0:Int)≤i∧Int.toNat i<m.length)∧((0:Int)≤w64 (i-(1:Int))∧Int.toNat (w64 (i-(1:Int)))<m.length)))))∧(zif ((!(QS (gtd dOp m (Int.toNat i))))||((decide (i>(0:Int)))&&(((gtd dOp m (Int.toNat i)).2.1) != ((gtd dOp m (Int.toNat (w64 (i-(1:Int))))).2.2.1)))) (K (Qbi false)) (QdQ K m (w64 (i+(1:Int)))))) (K (Qbi (m_in (m.length:Int) (1:Int) (8:Int)))))):QdQ K m i :=
 Loop.of (by kernel_rfl) h
theorem QzV (m:List TOp') (h :
 (QdQ K m 0)):Hold (tawp QkI (0+0) QCt (TQ 0 0 QtD K) (Qe [(.a [(.c (.sl ctOp) m)])])) :=
 Hold.of (by kernel_rfl) h
theorem QCC (m:List TOp'):TCon Tryz.prog 74 [(.a [(.c (.sl ctOp) m)])] (Qbi (QC m)):=by
 refine Ql rfl fun hb=>tcg (n:=42) (sg:=Qau.sg) Qi (TOk.cons Qj0 (TOk.cons JB TOk.nil)) (by kernel_rfl) (by kernel_rfl) (QzV _ m ?_)
 have hl_m_0:(m).length≤9223372036854775807:=hb.1.1.1
 refine Zc m (fun r k=>ZO (Jn m k) r=ZO none m→QdQ (fun r'=>r'=Qbi (QC m)) m k) ?_ ?_ rfl
 ·intro he
  refine Qrh (fun r'=>r'=Qbi (QC m)) m _ ⟨fun h=>by simp at h,fun _=>?_⟩
  grind [ZO,QC]
 ·intro k x r hk hlt hg ih he
  refine Qrh (fun r'=>r'=Qbi (QC m)) m _ ⟨fun _=>?_,fun h=>by simp at h;omega⟩
  rw [Int.toNat_natCast,hg,Qs (x:=(k:Int)+1) (by omega) (by omega)]
  have ep:Jn m (k+1)=some x.2.2.1:=by simp [Jn,hg]
  rw [ep] at ih
  rcases Nat.eq_zero_or_pos k with h0 | h0
  ·subst h0
   simp only [ZO,Jn,if_true] at he
   grind [QC]
  ·have e2:=QaO h0 (by omega:k≤9223372036854775807)
   simp only [ZO,Jn,if_neg (Nat.ne_of_gt h0)] at he
   grind [QC]
theorem Qcu:Qh Tryz.prog Qau:=Qk fun x _=>QCC x.1
def Qae (t:Bool):TRes:=zre (zcb t)
def Qcd:TRow:=Qg 131 [(.a [(.sl ctOp)])] fun x=>(none,Qae (QC x.1))
def Qgy:List TRow:=[Qdb]
def Qom:TCode :=
 (zsq [(.reg [zbi 19 .lss 18 17]),(.cond 19 .skip (.exit 0)),(.block 1 (zsq [(.reg [zmv 20 18,zia 21 16 18 ctOp,zLd 22 21 4,zop 4 (.new 69 (z0s ctOp)),zmv 3 20,zst 4 22 4]),(.draw [zLd 23 4 4,zca 24 194 [23],zno 25 24,zmv 26 25,.grp 26 false [zmv 27 3,zbi 28 .gtr 27 (zki 0),zmv 29 28,.grp 29 true [zfa 30 1 0,zld 31 30 1,zmv 32 3,zbi 33 .sub 32 (zki 1),zia 34 31 33 ctOp,zfa 35 34 2,zld 36 35 1,zfa 37 4 1,zld 38 37 1,zbi 39 .neq 36 38] 40 39] 41 40] []),(.cond 41 (zsq [(.reg [zmv 2 (zkb false)]),.ret]) .skip)])),(.reg [zbi 42 .add 18 (zki 1),zmv 18 42])])
def QuM:List (Nat × Md):=[(1,.b [.d]),(16,.one .d),(17,.one .d),(18,.one .d)]
def Qol:TCode :=
 (zsq [(.reg [zmv 2 (zkb true)]),.ret])
def QFw:TCode :=
 (zsq [(.reg [zop 1 (.box 26 0 1),zmv 2 (zkb false)]),(zsq [(.reg [zfa 5 1 0,zld 6 5 1,zle 7 6,zbi 8 .lss 7 (zki 1),zmv 9 8,.grp 9 false [zfa 10 1 0,zld 11 10 1,zle 12 11,zbi 13 .gtr 12 (zki 8)] 14 13]),(.cond 14 (zsq [(.reg [zmv 2 (zkb false)]),.ret]) .skip)]),(zsq [(.reg [zfa 15 1 0,zld 16 15 1,zle 17 16,zmv 18 (zki 0)]),(.block 0 (.loop QuM Qom))]),Qol])
def QmC:List (ARv × Md):=[(.t 2,.one .d)]
def QtR:Qc:=TQ 0 0 QmC K
def QFr:Qc:=Qseq (tawp Qgy 0 Qol (QtR K)) (QtR K)
def Qvu:Qc:=Qblk 0 (QFr K)
def Qd1 (m:List TOp') (x:Int):Prop:=Loop Qgy 0 QuM Qom (Qvu K) ⟨[(1,(.p 0 0 0)),(16,(zcs ctOp m)),(17,(zci (m.length:Int))),(18,(zci x))],[(0,(.box [(zcs ctOp m)]))],1⟩
theorem QqX (m:List TOp') (x:Int) (h :
 (zif (decide (x<(m.length:Int))) (((0:Int)≤x∧Int.toNat x<m.length)∧(((!(!(QS (gtd dOp m (Int.toNat x)))))=true→((decide (x>(0:Int)))=true→((0:Int)≤w64 (x-(1:Int))∧Int.toNat (w64 (x-(1:Int)))<m.length)))∧(zif ((!(QS (gtd dOp m (Int.toNat x))))||((decide (x>(0:Int)))&&(((gtd dOp m (Int.toNat (w64 (x-(1:Int))))).2.2.1) != ((gtd dOp m (Int.toNat x)).2.1)))) (K (Qae false)) (Qd1 K m (w64 (x+(1:Int))))))) (K (Qae true)))):Qd1 K m x :=
 Loop.of (by kernel_rfl) h
theorem QGc (m:List TOp') (h :
 (zif ((decide ((m.length:Int)<(1:Int)))||(decide ((m.length:Int)>(8:Int)))) (K (Qae false)) (Qd1 K m 0))):Hold (tawp Qgy (0+0) QFw (TQ 0 0 QmC K) (Qe [(.a [(.c (.sl ctOp) m)])])) :=
 Hold.of (by kernel_rfl) h
theorem QIA (m:List TOp'):TCon Tryz.prog 131 [(.a [(.c (.sl ctOp) m)])] (Qae (QC m)):=by
 refine Ql rfl fun hb=>tcg (n:=43) (sg:=Qcd.sg) Qi (TOk.cons QiQ TOk.nil) (by kernel_rfl) (by kernel_rfl) (QGc _ m ?_)
 have hl_m_0:(m).length≤9223372036854775807:=hb.1.1.1
 refine ⟨fun h=>R_eq (by grind [QC,m_in]),fun h=>?_⟩
 have hin:m_in m.length 1 8=true:=by grind [m_in]
 refine Zc m (fun r k=>ZO (Jn m k) r=ZO none m→Qd1 (fun r'=>r'=Qae (QC m)) m k) ?_ ?_ rfl
 ·intro he
  refine QqX (fun r'=>r'=Qae (QC m)) m _ ⟨fun h=>by simp at h,fun _=>?_⟩
  grind [ZO,QC]
 ·intro k x r hk hlt hg ih he
  refine QqX (fun r'=>r'=Qae (QC m)) m _ ⟨fun _=>?_,fun h=>by simp at h;omega⟩
  rw [Int.toNat_natCast,hg,Qs (x:=(k:Int)+1) (by omega) (by omega)]
  have ep:Jn m (k+1)=some x.2.2.1:=by simp [Jn,hg]
  rw [ep] at ih
  rcases Nat.eq_zero_or_pos k with h0 | h0
  ·subst h0
   simp only [ZO,Jn,if_true] at he
   grind [QC]
  ·have e2:=QaO h0 (by omega:k≤9223372036854775807)
   simp only [ZO,Jn,if_neg (Nat.ne_of_gt h0)] at he
   grind [QC]
theorem Qfv:Qh Tryz.prog Qcd:=Qk fun x _=>QIA x.1
def Qdz (t:Int):TRes:=zre (zci t)
def QcH:TRow:=Qg 115 [(.a [(.sl ctOp)])] fun x=>(none,Qdz (QV x.1))
def QB4:List TRow:=[Qcd]
def QIV:TCode :=
 (zsq [(.reg [zop 1 (.box 26 0 1),zmv 2 (zki 0)]),(zsq [(.reg [zLd 3 1 1,zca 4 131 [3],zno 5 4]),(.cond 5 (zsq [(.reg [zmv 2 (zki 0)]),.ret]) .skip)]),(.reg [zfa 6 1 0,zld 7 6 1,zia 8 7 (zki 0) ctOp,zfa 9 8 1,zld 10 9 1,zmv 2 10]),.ret])
def Qzf:List (ARv × Md):=[(.t 2,.one .d)]
theorem QwO (m:List TOp') (h :
 (zif (!(QC m)) (K (Qdz (0:Int))) (((0:Int)≤(0:Int)∧Int.toNat (0:Int)<m.length)∧K (Qdz ((gtd dOp m (Int.toNat (0:Int))).2.1))))):Hold (tawp QB4 (0+0) QIV (TQ 0 0 Qzf K) (Qe [(.a [(.c (.sl ctOp) m)])])) :=
 Hold.of (by kernel_rfl) h
theorem QGu (m:List TOp'):TCon Tryz.prog 115 [(.a [(.c (.sl ctOp) m)])] (Qdz (QV m)):=by
 refine Ql rfl fun hb=>tcg (n:=11) (sg:=QcH.sg) Qi (TOk.cons Qfv TOk.nil) (by kernel_rfl) (by kernel_rfl) (QwO _ m ?_)
 have hl_m_0:(m).length≤9223372036854775807:=hb.1.1.1
 refine ⟨fun h=>R_eq (by grind [QV]),fun h=>?_⟩
 have:=Zw (m:=m) (by simpa using h)
 exact ⟨⟨by omega,by simp;omega⟩,R_eq (by simp at h;simp [QV,h])⟩
theorem Qkn:Qh Tryz.prog QcH:=Qk fun x _=>QGu x.1
def Qem (t:Int):TRes:=zre (zci t)
def QkF:TRow:=Qg 153 [(.a [(.sl ctOp)])] fun x=>(none,Qem (QV x.1))
def QyJ:List TRow:=[Qau]
def Qyq:TCode :=
 (zsq [(.reg [zop 1 (.box 26 0 1),zmv 2 (zki 0)]),(zsq [(.reg [zLd 3 1 1,zca 4 74 [3],zno 5 4]),(.cond 5 (zsq [(.reg [zmv 2 (zki 0)]),.ret]) .skip)]),(.reg [zfa 6 1 0,zld 7 6 1,zia 8 7 (zki 0) ctOp,zfa 9 8 1,zld 10 9 1,zmv 2 10]),.ret])
def QEd:List (ARv × Md):=[(.t 2,.one .d)]
theorem QG7 (m:List TOp') (h :
 (zif (!(QC m)) (K (Qem (0:Int))) (((0:Int)≤(0:Int)∧Int.toNat (0:Int)<m.length)∧K (Qem ((gtd dOp m (Int.toNat (0:Int))).2.1))))):Hold (tawp QyJ (0+0) Qyq (TQ 0 0 QEd K) (Qe [(.a [(.c (.sl ctOp) m)])])) :=
 Hold.of (by kernel_rfl) h
theorem QC6 (m:List TOp'):TCon Tryz.prog 153 [(.a [(.c (.sl ctOp) m)])] (Qem (QV m)):=by
 refine Ql rfl fun hb=>tcg (n:=11) (sg:=QkF.sg) Qi (TOk.cons Qcu TOk.nil) (by kernel_rfl) (by kernel_rfl) (QG7 _ m ?_)
 have hl_m_0:(m).length≤9223372036854775807:=hb.1.1.1
 refine ⟨fun h=>R_eq (by grind [QV]),fun h=>?_⟩
 have:=Zw (m:=m) (by simpa using h)
 exact ⟨⟨by omega,by simp;omega⟩,R_eq (by simp at h;simp [QV,h])⟩
theorem QDh:Qh Tryz.prog QkF:=Qk fun x _=>QC6 x.1
def QeG (t:Int):TRes:=zre (zci t)
def Qc8:TRow:=Qg 117 [(.a [(.sl ctOp)])] fun x=>(none,QeG (QP x.1))
def QGU:List TRow:=[Qcd]
def QBE:TCode :=
 (zsq [(.reg [zop 1 (.box 26 0 1),zmv 2 (zki 0)]),(zsq [(.reg [zLd 3 1 1,zca 4 131 [3],zno 5 4]),(.cond 5 (zsq [(.reg [zmv 2 (zki 0)]),.ret]) .skip)]),(.reg [zfa 6 1 0,zld 7 6 1,zfa 8 1 0,zld 9 8 1,zle 10 9,zbi 11 .sub 10 (zki 1),zia 12 7 11 ctOp,zfa 13 12 2,zld 14 13 1,zmv 2 14]),.ret])
def QBm:List (ARv × Md):=[(.t 2,.one .d)]
theorem QIg (m:List TOp') (h :
 (zif (!(QC m)) (K (QeG (0:Int))) (((0:Int)≤w64 ((m.length:Int)-(1:Int))∧Int.toNat (w64 ((m.length:Int)-(1:Int)))<m.length)∧K (QeG ((gtd dOp m (Int.toNat (w64 ((m.length:Int)-(1:Int))))).2.2.1))))):Hold (tawp QGU (0+0) QBE (TQ 0 0 QBm K) (Qe [(.a [(.c (.sl ctOp) m)])])) :=
 Hold.of (by kernel_rfl) h
theorem QzZ (m:List TOp'):TCon Tryz.prog 117 [(.a [(.c (.sl ctOp) m)])] (QeG (QP m)):=by
 refine Ql rfl fun hb=>tcg (n:=15) (sg:=Qc8.sg) Qi (TOk.cons Qfv TOk.nil) (by kernel_rfl) (by kernel_rfl) (QIg _ m ?_)
 have hl_m_0:(m).length≤9223372036854775807:=hb.1.1.1
 refine ⟨fun h=>R_eq (by grind [QP]),fun h=>?_⟩
 have:=Zw (m:=m) (by simpa using h)
 have e:=QaO this.1 (by omega:m.length≤9223372036854775807)
 rw [e.1]
 exact ⟨⟨e.2,by omega⟩,R_eq (by simp at h;simp [QP,h])⟩
theorem Qk7:Qh Tryz.prog Qc8:=Qk fun x _=>QzZ x.1
def Qf1 (t:Int):TRes:=zre (zci t)
def Qkc:TRow:=Qg 154 [(.a [(.sl ctOp)])] fun x=>(none,Qf1 (QP x.1))
def QCT:List TRow:=[Qau]
def Qv3:TCode :=
 (zsq [(.reg [zop 1 (.box 26 0 1),zmv 2 (zki 0)]),(zsq [(.reg [zLd 3 1 1,zca 4 74 [3],zno 5 4]),(.cond 5 (zsq [(.reg [zmv 2 (zki 0)]),.ret]) .skip)]),(.reg [zfa 6 1 0,zld 7 6 1,zfa 8 1 0,zld 9 8 1,zle 10 9,zbi 11 .sub 10 (zki 1),zia 12 7 11 ctOp,zfa 13 12 2,zld 14 13 1,zmv 2 14]),.ret])
def Qwg:List (ARv × Md):=[(.t 2,.one .d)]
theorem QBN (m:List TOp') (h :
 (zif (!(QC m)) (K (Qf1 (0:Int))) (((0:Int)≤w64 ((m.length:Int)-(1:Int))∧Int.toNat (w64 ((m.length:Int)-(1:Int)))<m.length)∧K (Qf1 ((gtd dOp m (Int.toNat (w64 ((m.length:Int)-(1:Int))))).2.2.1))))):Hold (tawp QCT (0+0) Qv3 (TQ 0 0 Qwg K) (Qe [(.a [(.c (.sl ctOp) m)])])) :=
 Hold.of (by kernel_rfl) h
theorem QxR (m:List TOp'):TCon Tryz.prog 154 [(.a [(.c (.sl ctOp) m)])] (Qf1 (QP m)):=by
 refine Ql rfl fun hb=>tcg (n:=15) (sg:=Qkc.sg) Qi (TOk.cons Qcu TOk.nil) (by kernel_rfl) (by kernel_rfl) (QBN _ m ?_)
 have hl_m_0:(m).length≤9223372036854775807:=hb.1.1.1
 refine ⟨fun h=>R_eq (by grind [QP]),fun h=>?_⟩
 have:=Zw (m:=m) (by simpa using h)
 have e:=QaO this.1 (by omega:m.length≤9223372036854775807)
 rw [e.1]
 exact ⟨⟨e.2,by omega⟩,R_eq (by simp at h;simp [QP,h])⟩
theorem QIi:Qh Tryz.prog Qkc:=Qk fun x _=>QxR x.1
end
end Go.Proofs.YtjbdljkhbglnhaaGreat.Am

