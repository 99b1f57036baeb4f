/- -/
import Derived.Test.YtjbdljkhbglnhaaGreatZAP1
namespace Go.Proofs.YtjbdljkhbglnhaaGreat.Am
open Go Go.RowKit Go.Proofs.YtjbdljkhbglnhaaGreat
set_option linter.all false
noncomputable section
variable (K:TRes→Prop)
def Qbs (t:Int):TRes:=zre (zci t)
def QfK:TRow:=Qj 202 [(.a ctOp)] fun x=>(none,Qbs (ZV x.1))
def QnA:List TRow:=[JH]
def QpD:TCode :=
 (.cond 15 (zsq [(.reg [zfa 18 1 1,zld 19 18 1,zfa 20 1 2,zld 21 20 1,zbi 22 .mul 19 21,zmv 2 22]),.ret]) (zsq [(.reg [zbi 24 .eql 14 (zki 2),zmv 23 24]),(.cond 23 (zsq [(.reg [zfa 25 1 1,zld 26 25 1,zmv 2 26]),.ret]) (zsq [(.reg [zbi 28 .eql 14 (zki 4),zmv 27 28]),(.cond 27 (zsq [(.reg [zmv 2 (zki 1)]),.ret]) .skip)]))]))
def QKJ:List (Nat × Md):=[(1,.b (zds 4)),(14,.one .d),(15,.one .d)]
def QHq:TCode:=.wk QKJ QpD
def Qur:TCode :=
 (zsq [(.reg [zmv 2 (zki 0)]),.ret])
def QNa:TCode :=
 (zsq [(.reg [zop 1 (.box 69 0 4),zmv 2 (zki 0)]),(zsq [(.reg [zfa 3 1 1,zld 4 3 1,zca 5 77 [4,(zki 1),(zki 6)],zno 6 5,zmv 7 6,.grp 7 false [zfa 8 1 2,zld 9 8 1,zca 10 77 [9,(zki 1),(zki 6)],zno 11 10] 12 11]),(.cond 12 (zsq [(.reg [zmv 2 (zki 0)]),.ret]) .skip)]),(zsq [(.reg [zfa 13 1 0,zld 14 13 1]),(.block 0 (zsq [(zsq [(.reg [zbi 16 .eql 14 (zki 1),zmv 15 16]),(.cond 15 .skip (.reg [zbi 17 .eql 14 (zki 5),zmv 15 17]))]),QHq]))]),Qur])
def QwH:List (ARv × Md):=[(.t 2,.one .d)]
def QrA:Qb:=TQ 0 0 QwH K
def QMO:Qb:=Qseq (tawp QnA 0 Qur (QrA K)) (QrA K)
def QL2:Qb:=Qblk 0 (QMO K)
def Qml (o:TOp') (x:Bool):Prop:=tawp QnA 0 QpD (QL2 K) ⟨[(1,(.p 0 0 0)),(14,(zci o.1)),(15,(zcb x))],[(0,(.box (Tup.cells ctOp o)))],1⟩
theorem QAe (o:TOp') (x:Bool) (h :
 (zif x (K (Qbs (w64 (o.2.1*o.2.2.1)))) (zif (o.1==(2:Int)) (K (Qbs o.2.1)) (zif (o.1==(4:Int)) (K (Qbs (1:Int))) (K (Qbs (0:Int))))))):Hold (Qml K o x) :=
 Hold.of (by kernel_rfl) h
theorem QKe (o:TOp') (h :
 (zif ((!(m_in o.2.1 (1:Int) (6:Int)))||(!(m_in o.2.2.1 (1:Int) (6:Int)))) (K (Qbs (0:Int))) (zif (o.1==(1:Int)) (Qml K o (o.1==(1:Int))) (Qml K o (o.1==(5:Int)))))):Hold (tawp QnA (0+0) QNa (TQ 0 0 QwH K) (Qf [(.a (Tup.cells ctOp o))])) :=
 Hold.of (by kernel_rfl) h
theorem QBB (o:TOp'):TCon Tryz.prog 202 [(.a (Tup.cells ctOp o))] (Qbs (ZV o)):=by
 refine Qq rfl fun hb=>tcg (n:=29) (sg:=QfK.sg) Ql (TOk.cons Qac TOk.nil) (by kernel_rfl) (by kernel_rfl) (QKe _ o ?_)
 have hl_o_3:(o.2.2.2).length≤9223372036854775807:=hb.1.2.2.2.1.1
 refine ⟨fun h=>R_eq (by grind [ZV]),fun h=>?_⟩
 have hi:m_in o.2.1 1 6=true∧m_in o.2.2.1 1 6=true:=by simpa using h
 have hm:=Qe0 (QR.1 hi.1).1 (QR.1 hi.1).2 (QR.1 hi.2).1 (QR.1 hi.2).2
 have hw:=Qp (x:=o.2.1*o.2.2.1) (by omega) (by omega)
 refine ⟨fun h1=>(QAe (fun r'=>r'=Qbs (ZV o)) o _ ?_).h,fun h1=>(QAe (fun r'=>r'=Qbs (ZV o)) o _ ?_).h⟩ <;> grind [ZV]
theorem QuU:Qi Tryz.prog QfK:=Qm fun x _=>QBB x.1
def Qbl (t:Int):TRes:=zre (zci t)
def Qkj:TRow:=Qj 221 [(.a ctOp)] fun x=>(none,Qbl (ZV x.1))
def QkY:List TRow:=[]
def QpL:TCode :=
 (.cond 23 (zsq [(.reg [zfa 26 1 1,zld 27 26 1,zfa 28 1 2,zld 29 28 1,zbi 30 .mul 27 29,zmv 2 30]),.ret]) (zsq [(.reg [zbi 32 .eql 22 (zki 2),zmv 31 32]),(.cond 31 (zsq [(.reg [zfa 33 1 1,zld 34 33 1,zmv 2 34]),.ret]) (zsq [(.reg [zbi 36 .eql 22 (zki 4),zmv 35 36]),(.cond 35 (zsq [(.reg [zmv 2 (zki 1)]),.ret]) .skip)]))]))
def QNT:List (Nat × Md):=[(1,.b (zds 4)),(22,.one .d),(23,.one .d)]
def QJT:TCode:=.wk QNT QpL
def QwR:TCode :=
 (zsq [(.reg [zmv 2 (zki 0)]),.ret])
def QGM:TCode :=
 (zsq [(.reg [zop 1 (.box 69 0 4),zmv 2 (zki 0)]),(zsq [(.reg [zfa 3 1 1,zld 4 3 1,zbi 5 .lss 4 (zki 1),zmv 6 5,.grp 6 false [zfa 7 1 1,zld 8 7 1,zbi 9 .gtr 8 (zki 6)] 10 9,zmv 11 10,.grp 11 false [zfa 12 1 2,zld 13 12 1,zbi 14 .lss 13 (zki 1)] 15 14,zmv 16 15,.grp 16 false [zfa 17 1 2,zld 18 17 1,zbi 19 .gtr 18 (zki 6)] 20 19]),(.cond 20 (zsq [(.reg [zmv 2 (zki 0)]),.ret]) .skip)]),(zsq [(.reg [zfa 21 1 0,zld 22 21 1]),(.block 0 (zsq [(zsq [(.reg [zbi 24 .eql 22 (zki 1),zmv 23 24]),(.cond 23 .skip (.reg [zbi 25 .eql 22 (zki 5),zmv 23 25]))]),QJT]))]),QwR])
def QyP:List (ARv × Md):=[(.t 2,.one .d)]
def Qox:Qb:=TQ 0 0 QyP K
def QJs:Qb:=Qseq (tawp QkY 0 QwR (Qox K)) (Qox K)
def QJ8:Qb:=Qblk 0 (QJs K)
def Qm2 (o:TOp') (x:Bool):Prop:=tawp QkY 0 QpL (QJ8 K) ⟨[(1,(.p 0 0 0)),(22,(zci o.1)),(23,(zcb x))],[(0,(.box (Tup.cells ctOp o)))],1⟩
theorem Qx0 (o:TOp') (x:Bool) (h :
 (zif x (K (Qbl (w64 (o.2.1*o.2.2.1)))) (zif (o.1==(2:Int)) (K (Qbl o.2.1)) (zif (o.1==(4:Int)) (K (Qbl (1:Int))) (K (Qbl (0:Int))))))):Hold (Qm2 K o x) :=
 Hold.of (by kernel_rfl) h
theorem QGF (o:TOp') (h :
 (zif ((((decide (o.2.1<(1:Int)))||(decide (o.2.1>(6:Int))))||(decide (o.2.2.1<(1:Int))))||(decide (o.2.2.1>(6:Int)))) (K (Qbl (0:Int))) (zif (o.1==(1:Int)) (Qm2 K o (o.1==(1:Int))) (Qm2 K o (o.1==(5:Int)))))):Hold (tawp QkY (0+0) QGM (TQ 0 0 QyP K) (Qf [(.a (Tup.cells ctOp o))])) :=
 Hold.of (by kernel_rfl) h
theorem QIZ (o:TOp'):TCon Tryz.prog 221 [(.a (Tup.cells ctOp o))] (Qbl (ZV o)):=by
 refine Qq rfl fun hb=>tcg (n:=37) (sg:=Qkj.sg) Ql TOk.nil (by kernel_rfl) (by kernel_rfl) (QGF _ o ?_)
 have hl_o_3:(o.2.2.2).length≤9223372036854775807:=hb.1.2.2.2.1.1
 refine ⟨fun h=>R_eq (by grind [ZV,m_in]),fun h=>?_⟩
 have hi:m_in o.2.1 1 6=true∧m_in o.2.2.1 1 6=true:=by grind [m_in]
 have hm:=Qe0 (QR.1 hi.1).1 (QR.1 hi.1).2 (QR.1 hi.2).1 (QR.1 hi.2).2
 have hw:=Qp (x:=o.2.1*o.2.2.1) (by omega) (by omega)
 refine ⟨fun h1=>(Qx0 (fun r'=>r'=Qbl (ZV o)) o _ ?_).h,fun h1=>(Qx0 (fun r'=>r'=Qbl (ZV o)) o _ ?_).h⟩ <;> grind [ZV]
theorem QHt:Qi Tryz.prog Qkj:=Qm fun x _=>QIZ x.1
def Qb5 (t:Bool):TRes:=zre (zcb t)
def Qno:TRow:=Qj 152 [(.a ctOp)] fun x=>(none,Qb5 (Za x.1))
def Ql3:List TRow:=[JH,QfK,Qgr]
def Qsh:TCode :=
 (zsq [(zsq [(.reg [zmv 40 3,zfa 41 1 3,zld 42 41 1,zle 43 42,zbi 44 .lss 40 43]),(.cond 44 .skip (.exit 0))]),(.block 1 (zsq [(.reg [zfa 47 1 3,zld 48 47 1,zmv 49 3,zia 50 48 49 [TI],zld 51 50 1,zca 52 110 [51],zno 53 52]),(.cond 53 (zsq [(.reg [zmv 2 (zkb false)]),.ret]) .skip)])),(.reg [zmv 45 3,zbi 46 .add 45 (zki 1),zmv 3 46])])
def Qop:List (Nat × Md):=[(1,.b (zds 4)),(3,.one .d)]
def Qvk:TCode :=
 (zsq [(.reg [zmv 2 (zkb true)]),.ret])
def QFU:TCode :=
 (zsq [(.reg [zop 1 (.box 69 0 4),zmv 2 (zkb false)]),(zsq [(.draw [zfa 4 1 0,zld 5 4 1,zca 6 77 [5,(zki 1),(zki 5)],zno 7 6,zmv 8 7,.grp 8 false [zfa 9 1 1,zld 10 9 1,zca 11 77 [10,(zki 1),(zki 6)],zno 12 11] 13 12,zmv 14 13,.grp 14 false [zfa 15 1 2,zld 16 15 1,zca 17 77 [16,(zki 1),(zki 6)],zno 18 17] 19 18,zmv 20 19,.grp 20 false [zfa 21 1 0,zld 22 21 1,zbi 23 .neq 22 (zki 1),zmv 24 23,.grp 24 true [zfa 25 1 1,zld 26 25 1,zfa 27 1 2,zld 28 27 1,zbi 29 .neq 26 28] 30 29] 31 30,zmv 32 31,.grp 32 false [zfa 33 1 3,zld 34 33 1,zle 35 34,zLd 36 1 4,zca 37 202 [36],zbi 38 .neq 35 37] 39 38] [(29,33),(30,33),(31,33)]),(.cond 39 (zsq [(.reg [zmv 2 (zkb false)]),.ret]) .skip)]),(zsq [(.reg [zmv 3 (zki 0)]),(.block 0 (.loop Qop Qsh))]),Qvk])
def Qxs:List (ARv × Md):=[(.t 2,.one .d)]
def QpY:Qb:=TQ 0 0 Qxs K
def QQJ:Qb:=Qseq (tawp Ql3 0 Qvk (QpY K)) (QpY K)
def QFe:Qb:=Qblk 0 (QQJ K)
def Qmv (o:TOp') (i:Int):Prop:=Loop Ql3 0 Qop Qsh (QFe K) ⟨[(1,(.p 0 0 0)),(3,(zci i))],[(0,(.box (Tup.cells ctOp o)))],1⟩
theorem QDN (o:TOp') (i:Int) (h :
 (zif (decide (i<((o.2.2.2).length:Int))) (((0:Int)≤i∧Int.toNat i<(o.2.2.2).length)∧(zif (!(Q6 (gtd (0:Int) o.2.2.2 (Int.toNat i)))) (K (Qb5 false)) (Qmv K o (w64 (i+(1:Int)))))) (K (Qb5 true)))):Qmv K o i :=
 Loop.of (by kernel_rfl) h
theorem QLD (o:TOp') (h :
 (zif (((((!(m_in o.1 (1:Int) (5:Int)))||(!(m_in o.2.1 (1:Int) (6:Int))))||(!(m_in o.2.2.1 (1:Int) (6:Int))))||((o.1 != (1:Int))&&(o.2.1 != o.2.2.1)))||(((o.2.2.2).length:Int) != (ZV o))) (K (Qb5 false)) (Qmv K o 0))):Hold (tawp Ql3 (0+0) QFU (TQ 0 0 Qxs K) (Qf [(.a (Tup.cells ctOp o))])) :=
 Hold.of (by kernel_rfl) h
theorem QEL (o:TOp'):TCon Tryz.prog 152 [(.a (Tup.cells ctOp o))] (Qb5 (Za o)):=by
 refine Qq rfl fun hb=>tcg (n:=54) (sg:=Qno.sg) Ql (TOk.cons Qac (TOk.cons QuU (TOk.cons QwJ TOk.nil))) (by kernel_rfl) (by kernel_rfl) (QLD _ o ?_)
 have hl_o_3:(o.2.2.2).length≤9223372036854775807:=hb.1.2.2.2.1.1
 refine ⟨fun h=>R_eq (by grind [Za]),fun h=>?_⟩
 exact Qb6 (Q:=fun x=>Qb5 x=Qb5 (Za o)) (p:=Q6) (c:=fun x=>!(Q6 x)) 0 hl_o_3 (fun _=>rfl) (fun i h=>QDN (fun r'=>r'=Qb5 (Za o)) o i h) (R_eq (by grind [Za,Zr]))
theorem QPw:Qi Tryz.prog Qno:=Qm fun x _=>QEL x.1
def Qfp (t:Bool):TRes:=zre (zcb t)
def Qfw:TRow:=Qj 194 [(.a ctOp)] fun x=>(none,Qfp (Za x.1))
def QK0:List TRow:=[Qkj,QeO]
def QDD:TCode :=
 (zsq [(.reg [zop 1 (.box 69 0 4),zmv 2 (zkb false)]),(zsq [(.reg [zfa 3 1 0,zld 4 3 1,zbi 5 .lss 4 (zki 1),zmv 6 5,.grp 6 false [zfa 7 1 0,zld 8 7 1,zbi 9 .gtr 8 (zki 5)] 10 9,zmv 11 10,.grp 11 false [zfa 12 1 1,zld 13 12 1,zbi 14 .lss 13 (zki 1)] 15 14,zmv 16 15,.grp 16 false [zfa 17 1 1,zld 18 17 1,zbi 19 .gtr 18 (zki 6)] 20 19,zmv 21 20,.grp 21 false [zfa 22 1 2,zld 23 22 1,zbi 24 .lss 23 (zki 1)] 25 24,zmv 26 25,.grp 26 false [zfa 27 1 2,zld 28 27 1,zbi 29 .gtr 28 (zki 6)] 30 29]),(.cond 30 (zsq [(.reg [zmv 2 (zkb false)]),.ret]) .skip)]),(zsq [(.reg [zfa 31 1 0,zld 32 31 1,zbi 33 .neq 32 (zki 1),zmv 34 33,.grp 34 true [zfa 35 1 1,zld 36 35 1,zfa 37 1 2,zld 38 37 1,zbi 39 .neq 36 38] 40 39]),(.cond 40 (zsq [(.reg [zmv 2 (zkb false)]),.ret]) .skip)]),(.draw [zfa 41 1 3,zld 42 41 1,zle 43 42,zLd 44 1 4,zca 45 221 [44],zbi 46 .eql 43 45,zmv 47 46,.grp 47 true [zfa 48 1 3,zld 49 48 1,zca 50 195 [49]] 51 50,zmv 2 51] [(0,4),(1,4),(2,4)]),.ret])
def QPz:List (ARv × Md):=[(.t 2,.one .d)]
theorem QMR (o:TOp') (h :
 (zif ((((((decide (o.1<(1:Int)))||(decide (o.1>(5:Int))))||(decide (o.2.1<(1:Int))))||(decide (o.2.1>(6:Int))))||(decide (o.2.2.1<(1:Int))))||(decide (o.2.2.1>(6:Int)))) (K (Qfp false)) (zif ((o.1 != (1:Int))&&(o.2.1 != o.2.2.1)) (K (Qfp false)) (K (Qfp ((((o.2.2.2).length:Int)==(ZV o))&&(Zr o.2.2.2))))))):Hold (tawp QK0 (0+0) QDD (TQ 0 0 QPz K) (Qf [(.a (Tup.cells ctOp o))])) :=
 Hold.of (by kernel_rfl) h
theorem QMl (o:TOp'):TCon Tryz.prog 194 [(.a (Tup.cells ctOp o))] (Qfp (Za o)):=by
 refine Qq rfl fun hb=>tcg (n:=52) (sg:=Qfw.sg) Ql (TOk.cons QHt (TOk.cons Qnn TOk.nil)) (by kernel_rfl) (by kernel_rfl) (QMR _ o ?_)
 have hl_o_3:(o.2.2.2).length≤9223372036854775807:=hb.1.2.2.2.1.1
 grind [Za,m_in]
theorem Qmt:Qi Tryz.prog Qfw:=Qm fun x _=>QMl x.1
def Qci (t:Bool):TRes:=zre (zcb t)
def QcU:TRow:=Qj 74 [(.a [(.sl ctOp)])] fun x=>(none,Qci (QM x.1))
def Qlu:List TRow:=[Qno,JH]
def Qrb:TCode :=
 (zsq [(zsq [(.reg [zmv 4 3,zfa 5 1 0,zld 6 5 1,zle 7 6,zbi 8 .lss 4 7]),(.cond 8 .skip (.exit 0))]),(.block 1 (zsq [(.draw [zfa 11 1 0,zld 12 11 1,zmv 13 3,zia 14 12 13 ctOp,zLd 15 14 4,zca 16 152 [15],zno 17 16,zmv 18 17,.grp 18 false [zmv 19 3,zbi 20 .gtr 19 (zki 0),zmv 21 20,.grp 21 true [zfa 22 1 0,zld 23 22 1,zmv 24 3,zia 25 23 24 ctOp,zfa 26 25 1,zld 27 26 1,zfa 28 1 0,zld 29 28 1,zmv 30 3,zbi 31 .sub 30 (zki 1),zia 32 29 31 ctOp,zfa 33 32 2,zld 34 33 1,zbi 35 .neq 27 34] 36 35] 37 36] []),(.cond 37 (zsq [(.reg [zmv 2 (zkb false)]),.ret]) .skip)])),(.reg [zmv 9 3,zbi 10 .add 9 (zki 1),zmv 3 10])])
def Qw4:List (Nat × Md):=[(1,.b [.d]),(3,.one .d)]
def QwI:TCode :=
 (zsq [(.reg [zfa 38 1 0,zld 39 38 1,zle 40 39,zca 41 77 [40,(zki 1),(zki 8)],zmv 2 41]),.ret])
def QGb:TCode :=
 (zsq [(.reg [zop 1 (.box 26 0 1),zmv 2 (zkb false)]),(zsq [(.reg [zmv 3 (zki 0)]),(.block 0 (.loop Qw4 Qrb))]),QwI])
def Qpv:List (ARv × Md):=[(.t 2,.one .d)]
def Qz1:Qb:=TQ 0 0 Qpv K
def QLF:Qb:=Qseq (tawp Qlu 0 QwI (Qz1 K)) (Qz1 K)
def QB9:Qb:=Qblk 0 (QLF K)
def QiK (m:List TOp') (i:Int):Prop:=Loop Qlu 0 Qw4 Qrb (QB9 K) ⟨[(1,(.p 0 0 0)),(3,(zci i))],[(0,(.box [(zcs ctOp m)]))],1⟩
theorem Qpo (m:List TOp') (i:Int) (h :
 (zif (decide (i<(m.length:Int))) ((((0:Int)≤i∧Int.toNat i<m.length)∧((!(!(Za (gtd dOp m (Int.toNat i)))))=true→((decide (i>(0:Int)))=true→(((0:Int)≤i∧Int.toNat i<m.length)∧((0:Int)≤w64 (i-(1:Int))∧Int.toNat (w64 (i-(1:Int)))<m.length)))))∧(zif ((!(Za (gtd dOp m (Int.toNat i))))||((decide (i>(0:Int)))&&(((gtd dOp m (Int.toNat i)).2.1) != ((gtd dOp m (Int.toNat (w64 (i-(1:Int))))).2.2.1)))) (K (Qci false)) (QiK K m (w64 (i+(1:Int)))))) (K (Qci (m_in (m.length:Int) (1:Int) (8:Int)))))):QiK K m i :=
 Loop.of (by kernel_rfl) h
theorem QMN (m:List TOp') (h :
 (QiK K m 0)):Hold (tawp Qlu (0+0) QGb (TQ 0 0 Qpv K) (Qf [(.a [(.c (.sl ctOp) m)])])) :=
 Hold.of (by kernel_rfl) h
theorem QON (m:List TOp'):TCon Tryz.prog 74 [(.a [(.c (.sl ctOp) m)])] (Qci (QM m)):=by
 refine Qq rfl fun hb=>tcg (n:=42) (sg:=QcU.sg) Ql (TOk.cons QPw (TOk.cons Qac TOk.nil)) (by kernel_rfl) (by kernel_rfl) (QMN _ m ?_)
 have hl_m_0:(m).length≤9223372036854775807:=hb.1.1.1
 refine Zj m (fun r k=>Ye (Qap m k) r=Ye none m→QiK (fun r'=>r'=Qci (QM m)) m k) ?_ ?_ rfl
 ·intro he
  refine Qpo (fun r'=>r'=Qci (QM m)) m _ ⟨fun h=>by simp at h,fun _=>?_⟩
  grind [Ye,QM]
 ·intro k x r hk hlt hg ih he
  refine Qpo (fun r'=>r'=Qci (QM m)) m _ ⟨fun _=>?_,fun h=>by simp at h;omega⟩
  rw [Int.toNat_natCast,hg,Qp (x:=(k:Int)+1) (by omega) (by omega)]
  have ep:Qap m (k+1)=some x.2.2.1:=by simp [Qap,hg]
  rw [ep] at ih
  rcases Nat.eq_zero_or_pos k with h0 | h0
  ·subst h0
   simp only [Ye,Qap,if_true] at he
   grind [QM]
  ·have e2:=QcH h0 (by omega:k≤9223372036854775807)
   simp only [Ye,Qap,if_neg (Nat.ne_of_gt h0)] at he
   grind [QM]
theorem QeM:Qi Tryz.prog QcU:=Qm fun x _=>QON x.1
def QbV (t:Bool):TRes:=zre (zcb t)
def JS:TRow:=Qj 131 [(.a [(.sl ctOp)])] fun x=>(none,QbV (QM x.1))
def QkG:List TRow:=[Qfw]
def QyD:TCode :=
 (zsq [(.reg [zbi 19 .lss 18 17]),(.cond 19 .skip (.exit 0)),(.block 1 (zsq [(.reg [zmv 20 18,zia 21 16 18 ctOp,zLd 22 21 4,zop 4 (.new 69 (z0s ctOp)),zmv 3 20,zst 4 22 4]),(.draw [zLd 23 4 4,zca 24 194 [23],zno 25 24,zmv 26 25,.grp 26 false [zmv 27 3,zbi 28 .gtr 27 (zki 0),zmv 29 28,.grp 29 true [zfa 30 1 0,zld 31 30 1,zmv 32 3,zbi 33 .sub 32 (zki 1),zia 34 31 33 ctOp,zfa 35 34 2,zld 36 35 1,zfa 37 4 1,zld 38 37 1,zbi 39 .neq 36 38] 40 39] 41 40] []),(.cond 41 (zsq [(.reg [zmv 2 (zkb false)]),.ret]) .skip)])),(.reg [zbi 42 .add 18 (zki 1),zmv 18 42])])
def QwU:List (Nat × Md):=[(1,.b [.d]),(16,.one .d),(17,.one .d),(18,.one .d)]
def QsF:TCode :=
 (zsq [(.reg [zmv 2 (zkb true)]),.ret])
def QOw:TCode :=
 (zsq [(.reg [zop 1 (.box 26 0 1),zmv 2 (zkb false)]),(zsq [(.reg [zfa 5 1 0,zld 6 5 1,zle 7 6,zbi 8 .lss 7 (zki 1),zmv 9 8,.grp 9 false [zfa 10 1 0,zld 11 10 1,zle 12 11,zbi 13 .gtr 12 (zki 8)] 14 13]),(.cond 14 (zsq [(.reg [zmv 2 (zkb false)]),.ret]) .skip)]),(zsq [(.reg [zfa 15 1 0,zld 16 15 1,zle 17 16,zmv 18 (zki 0)]),(.block 0 (.loop QwU QyD))]),QsF])
def Qqk:List (ARv × Md):=[(.t 2,.one .d)]
def Qsl:Qb:=TQ 0 0 Qqk K
def QQB:Qb:=Qseq (tawp QkG 0 QsF (Qsl K)) (Qsl K)
def QGh:Qb:=Qblk 0 (QQB K)
def Qf3 (m:List TOp') (x:Int):Prop:=Loop QkG 0 QwU QyD (QGh K) ⟨[(1,(.p 0 0 0)),(16,(zcs ctOp m)),(17,(zci (m.length:Int))),(18,(zci x))],[(0,(.box [(zcs ctOp m)]))],1⟩
theorem QrW (m:List TOp') (x:Int) (h :
 (zif (decide (x<(m.length:Int))) (((0:Int)≤x∧Int.toNat x<m.length)∧(((!(!(Za (gtd dOp m (Int.toNat x)))))=true→((decide (x>(0:Int)))=true→((0:Int)≤w64 (x-(1:Int))∧Int.toNat (w64 (x-(1:Int)))<m.length)))∧(zif ((!(Za (gtd dOp m (Int.toNat x))))||((decide (x>(0:Int)))&&(((gtd dOp m (Int.toNat (w64 (x-(1:Int))))).2.2.1) != ((gtd dOp m (Int.toNat x)).2.1)))) (K (QbV false)) (Qf3 K m (w64 (x+(1:Int))))))) (K (QbV true)))):Qf3 K m x :=
 Loop.of (by kernel_rfl) h
theorem QNy (m:List TOp') (h :
 (zif ((decide ((m.length:Int)<(1:Int)))||(decide ((m.length:Int)>(8:Int)))) (K (QbV false)) (Qf3 K m 0))):Hold (tawp QkG (0+0) QOw (TQ 0 0 Qqk K) (Qf [(.a [(.c (.sl ctOp) m)])])) :=
 Hold.of (by kernel_rfl) h
theorem QO6 (m:List TOp'):TCon Tryz.prog 131 [(.a [(.c (.sl ctOp) m)])] (QbV (QM m)):=by
 refine Qq rfl fun hb=>tcg (n:=43) (sg:=JS.sg) Ql (TOk.cons Qmt TOk.nil) (by kernel_rfl) (by kernel_rfl) (QNy _ m ?_)
 have hl_m_0:(m).length≤9223372036854775807:=hb.1.1.1
 refine ⟨fun h=>R_eq (by grind [QM,m_in]),fun h=>?_⟩
 have hin:m_in m.length 1 8=true:=by grind [m_in]
 refine Zj m (fun r k=>Ye (Qap m k) r=Ye none m→Qf3 (fun r'=>r'=QbV (QM m)) m k) ?_ ?_ rfl
 ·intro he
  refine QrW (fun r'=>r'=QbV (QM m)) m _ ⟨fun h=>by simp at h,fun _=>?_⟩
  grind [Ye,QM]
 ·intro k x r hk hlt hg ih he
  refine QrW (fun r'=>r'=QbV (QM m)) m _ ⟨fun _=>?_,fun h=>by simp at h;omega⟩
  rw [Int.toNat_natCast,hg,Qp (x:=(k:Int)+1) (by omega) (by omega)]
  have ep:Qap m (k+1)=some x.2.2.1:=by simp [Qap,hg]
  rw [ep] at ih
  rcases Nat.eq_zero_or_pos k with h0 | h0
  ·subst h0
   simp only [Ye,Qap,if_true] at he
   grind [QM]
  ·have e2:=QcH h0 (by omega:k≤9223372036854775807)
   simp only [Ye,Qap,if_neg (Nat.ne_of_gt h0)] at he
   grind [QM]
theorem QaQ:Qi Tryz.prog JS:=Qm fun x _=>QO6 x.1
def Qgx (t:Int):TRes:=zre (zci t)
def Qdg:TRow:=Qj 115 [(.a [(.sl ctOp)])] fun x=>(none,Qgx (QZ x.1))
def QLQ:List TRow:=[JS]
def QGj:TCode :=
 (zsq [(.reg [zop 1 (.box 26 0 1),zmv 2 (zki 0)]),(zsq [(.reg [zLd 3 1 1,zca 4 131 [3],zno 5 4]),(.cond 5 (zsq [(.reg [zmv 2 (zki 0)]),.ret]) .skip)]),(.reg [zfa 6 1 0,zld 7 6 1,zia 8 7 (zki 0) ctOp,zfa 9 8 1,zld 10 9 1,zmv 2 10]),.ret])
def QDh:List (ARv × Md):=[(.t 2,.one .d)]
theorem QFO (m:List TOp') (h :
 (zif (!(QM m)) (K (Qgx (0:Int))) (((0:Int)≤(0:Int)∧Int.toNat (0:Int)<m.length)∧K (Qgx ((gtd dOp m (Int.toNat (0:Int))).2.1))))):Hold (tawp QLQ (0+0) QGj (TQ 0 0 QDh K) (Qf [(.a [(.c (.sl ctOp) m)])])) :=
 Hold.of (by kernel_rfl) h
theorem QQ3 (m:List TOp'):TCon Tryz.prog 115 [(.a [(.c (.sl ctOp) m)])] (Qgx (QZ m)):=by
 refine Qq rfl fun hb=>tcg (n:=11) (sg:=Qdg.sg) Ql (TOk.cons QaQ TOk.nil) (by kernel_rfl) (by kernel_rfl) (QFO _ m ?_)
 have hl_m_0:(m).length≤9223372036854775807:=hb.1.1.1
 refine ⟨fun h=>R_eq (by grind [QZ]),fun h=>?_⟩
 have:=YZ (m:=m) (by simpa using h)
 exact ⟨⟨by omega,by simp;omega⟩,R_eq (by simp at h;simp [QZ,h])⟩
theorem QhX:Qi Tryz.prog Qdg:=Qm fun x _=>QQ3 x.1
def Qhn (t:Int):TRes:=zre (zci t)
def QgZ:TRow:=Qj 153 [(.a [(.sl ctOp)])] fun x=>(none,Qhn (QZ x.1))
def QIX:List TRow:=[QcU]
def QQA:TCode :=
 (zsq [(.reg [zop 1 (.box 26 0 1),zmv 2 (zki 0)]),(zsq [(.reg [zLd 3 1 1,zca 4 74 [3],zno 5 4]),(.cond 5 (zsq [(.reg [zmv 2 (zki 0)]),.ret]) .skip)]),(.reg [zfa 6 1 0,zld 7 6 1,zia 8 7 (zki 0) ctOp,zfa 9 8 1,zld 10 9 1,zmv 2 10]),.ret])
def QHO:List (ARv × Md):=[(.t 2,.one .d)]
theorem QDG (m:List TOp') (h :
 (zif (!(QM m)) (K (Qhn (0:Int))) (((0:Int)≤(0:Int)∧Int.toNat (0:Int)<m.length)∧K (Qhn ((gtd dOp m (Int.toNat (0:Int))).2.1))))):Hold (tawp QIX (0+0) QQA (TQ 0 0 QHO K) (Qf [(.a [(.c (.sl ctOp) m)])])) :=
 Hold.of (by kernel_rfl) h
theorem QEd (m:List TOp'):TCon Tryz.prog 153 [(.a [(.c (.sl ctOp) m)])] (Qhn (QZ m)):=by
 refine Qq rfl fun hb=>tcg (n:=11) (sg:=QgZ.sg) Ql (TOk.cons QeM TOk.nil) (by kernel_rfl) (by kernel_rfl) (QDG _ m ?_)
 have hl_m_0:(m).length≤9223372036854775807:=hb.1.1.1
 refine ⟨fun h=>R_eq (by grind [QZ]),fun h=>?_⟩
 have:=YZ (m:=m) (by simpa using h)
 exact ⟨⟨by omega,by simp;omega⟩,R_eq (by simp at h;simp [QZ,h])⟩
theorem QxK:Qi Tryz.prog QgZ:=Qm fun x _=>QEd x.1
def QiB (t:Int):TRes:=zre (zci t)
def Qdn:TRow:=Qj 117 [(.a [(.sl ctOp)])] fun x=>(none,QiB (Q3 x.1))
def QMZ:List TRow:=[JS]
def QBN:TCode :=
 (zsq [(.reg [zop 1 (.box 26 0 1),zmv 2 (zki 0)]),(zsq [(.reg [zLd 3 1 1,zca 4 131 [3],zno 5 4]),(.cond 5 (zsq [(.reg [zmv 2 (zki 0)]),.ret]) .skip)]),(.reg [zfa 6 1 0,zld 7 6 1,zfa 8 1 0,zld 9 8 1,zle 10 9,zbi 11 .sub 10 (zki 1),zia 12 7 11 ctOp,zfa 13 12 2,zld 14 13 1,zmv 2 14]),.ret])
def QEz:List (ARv × Md):=[(.t 2,.one .d)]
theorem QCq (m:List TOp') (h :
 (zif (!(QM m)) (K (QiB (0:Int))) (((0:Int)≤w64 ((m.length:Int)-(1:Int))∧Int.toNat (w64 ((m.length:Int)-(1:Int)))<m.length)∧K (QiB ((gtd dOp m (Int.toNat (w64 ((m.length:Int)-(1:Int))))).2.2.1))))):Hold (tawp QMZ (0+0) QBN (TQ 0 0 QEz K) (Qf [(.a [(.c (.sl ctOp) m)])])) :=
 Hold.of (by kernel_rfl) h
theorem QJd (m:List TOp'):TCon Tryz.prog 117 [(.a [(.c (.sl ctOp) m)])] (QiB (Q3 m)):=by
 refine Qq rfl fun hb=>tcg (n:=15) (sg:=Qdn.sg) Ql (TOk.cons QaQ TOk.nil) (by kernel_rfl) (by kernel_rfl) (QCq _ m ?_)
 have hl_m_0:(m).length≤9223372036854775807:=hb.1.1.1
 refine ⟨fun h=>R_eq (by grind [Q3]),fun h=>?_⟩
 have:=YZ (m:=m) (by simpa using h)
 have e:=QcH this.1 (by omega:m.length≤9223372036854775807)
 rw [e.1]
 exact ⟨⟨e.2,by omega⟩,R_eq (by simp at h;simp [Q3,h])⟩
theorem Qf8:Qi Tryz.prog Qdn:=Qm fun x _=>QJd x.1
def Qi9 (t:Int):TRes:=zre (zci t)
def Qhs:TRow:=Qj 154 [(.a [(.sl ctOp)])] fun x=>(none,Qi9 (Q3 x.1))
def QAP:List TRow:=[QcU]
def QDT:TCode :=
 (zsq [(.reg [zop 1 (.box 26 0 1),zmv 2 (zki 0)]),(zsq [(.reg [zLd 3 1 1,zca 4 74 [3],zno 5 4]),(.cond 5 (zsq [(.reg [zmv 2 (zki 0)]),.ret]) .skip)]),(.reg [zfa 6 1 0,zld 7 6 1,zfa 8 1 0,zld 9 8 1,zle 10 9,zbi 11 .sub 10 (zki 1),zia 12 7 11 ctOp,zfa 13 12 2,zld 14 13 1,zmv 2 14]),.ret])
def QBu:List (ARv × Md):=[(.t 2,.one .d)]
theorem QQU (m:List TOp') (h :
 (zif (!(QM m)) (K (Qi9 (0:Int))) (((0:Int)≤w64 ((m.length:Int)-(1:Int))∧Int.toNat (w64 ((m.length:Int)-(1:Int)))<m.length)∧K (Qi9 ((gtd dOp m (Int.toNat (w64 ((m.length:Int)-(1:Int))))).2.2.1))))):Hold (tawp QAP (0+0) QDT (TQ 0 0 QBu K) (Qf [(.a [(.c (.sl ctOp) m)])])) :=
 Hold.of (by kernel_rfl) h
theorem QB2 (m:List TOp'):TCon Tryz.prog 154 [(.a [(.c (.sl ctOp) m)])] (Qi9 (Q3 m)):=by
 refine Qq rfl fun hb=>tcg (n:=15) (sg:=Qhs.sg) Ql (TOk.cons QeM TOk.nil) (by kernel_rfl) (by kernel_rfl) (QQU _ m ?_)
 have hl_m_0:(m).length≤9223372036854775807:=hb.1.1.1
 refine ⟨fun h=>R_eq (by grind [Q3]),fun h=>?_⟩
 have:=YZ (m:=m) (by simpa using h)
 have e:=QcH this.1 (by omega:m.length≤9223372036854775807)
 rw [e.1]
 exact ⟨⟨e.2,by omega⟩,R_eq (by simp at h;simp [Q3,h])⟩
theorem Qrn:Qi Tryz.prog Qhs:=Qm fun x _=>QB2 x.1
end
end Go.Proofs.YtjbdljkhbglnhaaGreat.Am

