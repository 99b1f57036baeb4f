/- -/
import Derived.Test.YtjbdljkhbglnhaaGreatZAP1
namespace Go.Proofs.YtjbdljkhbglnhaaGreat.Am
open Go Go.RowKit Go.Proofs.YtjbdljkhbglnhaaGreat
set_option linter.all false
noncomputable section
variable (K:TRes→Prop)
def Qbn (t:Int):TRes:=zre (zci t)
def Qiy:TRow:=Qh 202 [(.a ctOp)] fun x=>(none,Qbn (ZY x.1))
def QjV:List TRow:=[JB]
def Qv5:TCode :=
 (.cond 15 (zsq [(.reg [zfa 18 1 1,zld 19 18 1,zfa 20 1 2,zld 21 20 1,zbi 22 .mul 19 21,zmv 2 22]),.ret]) (zsq [(.reg [zbi 24 .eql 14 (zki 2),zmv 23 24]),(.cond 23 (zsq [(.reg [zfa 25 1 1,zld 26 25 1,zmv 2 26]),.ret]) (zsq [(.reg [zbi 28 .eql 14 (zki 4),zmv 27 28]),(.cond 27 (zsq [(.reg [zmv 2 (zki 1)]),.ret]) .skip)]))]))
def QLx:List (Nat × Md):=[(1,.b (zds 4)),(14,.one .d),(15,.one .d)]
def QGA:TCode:=.wk QLx Qv5
def Qtu:TCode :=
 (zsq [(.reg [zmv 2 (zki 0)]),.ret])
def QLM:TCode :=
 (zsq [(.reg [zop 1 (.box 69 0 4),zmv 2 (zki 0)]),(zsq [(.reg [zfa 3 1 1,zld 4 3 1,zca 5 77 [4,(zki 1),(zki 6)],zno 6 5,zmv 7 6,.grp 7 false [zfa 8 1 2,zld 9 8 1,zca 10 77 [9,(zki 1),(zki 6)],zno 11 10] 12 11]),(.cond 12 (zsq [(.reg [zmv 2 (zki 0)]),.ret]) .skip)]),(zsq [(.reg [zfa 13 1 0,zld 14 13 1]),(.block 0 (zsq [(zsq [(.reg [zbi 16 .eql 14 (zki 1),zmv 15 16]),(.cond 15 .skip (.reg [zbi 17 .eql 14 (zki 5),zmv 15 17]))]),QGA]))]),Qtu])
def QpE:List (ARv × Md):=[(.t 2,.one .d)]
def QwJ:Qb:=TQ 0 0 QpE K
def QIN:Qb:=Qseq (tawp QjV 0 Qtu (QwJ K)) (QwJ K)
def QNL:Qb:=Qblk 0 (QIN K)
def Qog (o:TOp') (x:Bool):Prop:=tawp QjV 0 Qv5 (QNL K) ⟨[(1,(.p 0 0 0)),(14,(zci o.1)),(15,(zcb x))],[(0,(.box (Tup.cells ctOp o)))],1⟩
theorem Qto (o:TOp') (x:Bool) (h :
(zif x (K (Qbn (w64 (o.2.1*o.2.2.1)))) (zif (o.1==(2:Int)) (K (Qbn o.2.1)) (zif (o.1==(4:Int)) (K (Qbn (1:Int))) (K (Qbn (0:Int))))))):Hold (Qog K o x) :=
 Hold.of (by kernel_rfl) h
theorem QRI (o:TOp') (h :
(zif ((!(m_in o.2.1 (1:Int) (6:Int)))||(!(m_in o.2.2.1 (1:Int) (6:Int)))) (K (Qbn (0:Int))) (zif (o.1==(1:Int)) (Qog K o (o.1==(1:Int))) (Qog K o (o.1==(5:Int)))))):Hold (tawp QjV (0+0) QLM (TQ 0 0 QpE K) (Qf [(.a (Tup.cells ctOp o))])) :=
 Hold.of (by kernel_rfl) h
theorem QHC (o:TOp'):TCon Tryz.prog 202 [(.a (Tup.cells ctOp o))] (Qbn (ZY o)):=by
 refine Qq rfl fun hb=>tcg (n:=29) (sg:=Qiy.sg) Ql (TOk.cons J8 TOk.nil) (by kernel_rfl) (by kernel_rfl) (QRI _ o ?_)
 have hl_o_3:(o.2.2.2).length≤9223372036854775807:=hb.1.2.2.2.1.1
 refine ⟨fun h=>R_eq (by grind [ZY]),fun h=>?_⟩
 have hi:m_in o.2.1 1 6=true∧m_in o.2.2.1 1 6=true:=by simpa using h
 have hm:=Qec (QR.1 hi.1).1 (QR.1 hi.1).2 (QR.1 hi.2).1 (QR.1 hi.2).2
 have hw:=Qp (x:=o.2.1*o.2.2.1) (by omega) (by omega)
 refine ⟨fun h1=>(Qto (fun r'=>r'=Qbn (ZY o)) o _ ?_).h,fun h1=>(Qto (fun r'=>r'=Qbn (ZY o)) o _ ?_).h⟩ <;> grind [ZY]
theorem Qsy:Qi Tryz.prog Qiy:=Qm fun x _=>QHC x.1
def Qbd (t:Int):TRes:=zre (zci t)
def Qk4:TRow:=Qh 221 [(.a ctOp)] fun x=>(none,Qbd (ZY x.1))
def Qko:List TRow:=[]
def Qrg:TCode :=
 (.cond 23 (zsq [(.reg [zfa 26 1 1,zld 27 26 1,zfa 28 1 2,zld 29 28 1,zbi 30 .mul 27 29,zmv 2 30]),.ret]) (zsq [(.reg [zbi 32 .eql 22 (zki 2),zmv 31 32]),(.cond 31 (zsq [(.reg [zfa 33 1 1,zld 34 33 1,zmv 2 34]),.ret]) (zsq [(.reg [zbi 36 .eql 22 (zki 4),zmv 35 36]),(.cond 35 (zsq [(.reg [zmv 2 (zki 1)]),.ret]) .skip)]))]))
def QGU:List (Nat × Md):=[(1,.b (zds 4)),(22,.one .d),(23,.one .d)]
def QBt:TCode:=.wk QGU Qrg
def QzF:TCode :=
 (zsq [(.reg [zmv 2 (zki 0)]),.ret])
def QND:TCode :=
 (zsq [(.reg [zop 1 (.box 69 0 4),zmv 2 (zki 0)]),(zsq [(.reg [zfa 3 1 1,zld 4 3 1,zbi 5 .lss 4 (zki 1),zmv 6 5,.grp 6 false [zfa 7 1 1,zld 8 7 1,zbi 9 .gtr 8 (zki 6)] 10 9,zmv 11 10,.grp 11 false [zfa 12 1 2,zld 13 12 1,zbi 14 .lss 13 (zki 1)] 15 14,zmv 16 15,.grp 16 false [zfa 17 1 2,zld 18 17 1,zbi 19 .gtr 18 (zki 6)] 20 19]),(.cond 20 (zsq [(.reg [zmv 2 (zki 0)]),.ret]) .skip)]),(zsq [(.reg [zfa 21 1 0,zld 22 21 1]),(.block 0 (zsq [(zsq [(.reg [zbi 24 .eql 22 (zki 1),zmv 23 24]),(.cond 23 .skip (.reg [zbi 25 .eql 22 (zki 5),zmv 23 25]))]),QBt]))]),QzF])
def Qps:List (ARv × Md):=[(.t 2,.one .d)]
def Qsx:Qb:=TQ 0 0 Qps K
def QIJ:Qb:=Qseq (tawp Qko 0 QzF (Qsx K)) (Qsx K)
def QHg:Qb:=Qblk 0 (QIJ K)
def QkU (o:TOp') (x:Bool):Prop:=tawp Qko 0 Qrg (QHg K) ⟨[(1,(.p 0 0 0)),(22,(zci o.1)),(23,(zcb x))],[(0,(.box (Tup.cells ctOp o)))],1⟩
theorem Qse (o:TOp') (x:Bool) (h :
(zif x (K (Qbd (w64 (o.2.1*o.2.2.1)))) (zif (o.1==(2:Int)) (K (Qbd o.2.1)) (zif (o.1==(4:Int)) (K (Qbd (1:Int))) (K (Qbd (0:Int))))))):Hold (QkU K o x) :=
 Hold.of (by kernel_rfl) h
theorem QRw (o:TOp') (h :
(zif ((((decide (o.2.1<(1:Int)))||(decide (o.2.1>(6:Int))))||(decide (o.2.2.1<(1:Int))))||(decide (o.2.2.1>(6:Int)))) (K (Qbd (0:Int))) (zif (o.1==(1:Int)) (QkU K o (o.1==(1:Int))) (QkU K o (o.1==(5:Int)))))):Hold (tawp Qko (0+0) QND (TQ 0 0 Qps K) (Qf [(.a (Tup.cells ctOp o))])) :=
 Hold.of (by kernel_rfl) h
theorem QGQ (o:TOp'):TCon Tryz.prog 221 [(.a (Tup.cells ctOp o))] (Qbd (ZY o)):=by
 refine Qq rfl fun hb=>tcg (n:=37) (sg:=Qk4.sg) Ql TOk.nil (by kernel_rfl) (by kernel_rfl) (QRw _ o ?_)
 have hl_o_3:(o.2.2.2).length≤9223372036854775807:=hb.1.2.2.2.1.1
 refine ⟨fun h=>R_eq (by grind [ZY,m_in]),fun h=>?_⟩
 have hi:m_in o.2.1 1 6=true∧m_in o.2.2.1 1 6=true:=by grind [m_in]
 have hm:=Qec (QR.1 hi.1).1 (QR.1 hi.1).2 (QR.1 hi.2).1 (QR.1 hi.2).2
 have hw:=Qp (x:=o.2.1*o.2.2.1) (by omega) (by omega)
 refine ⟨fun h1=>(Qse (fun r'=>r'=Qbd (ZY o)) o _ ?_).h,fun h1=>(Qse (fun r'=>r'=Qbd (ZY o)) o _ ?_).h⟩ <;> grind [ZY]
theorem QKe:Qi Tryz.prog Qk4:=Qm fun x _=>QGQ x.1
def Qby (t:Bool):TRes:=zre (zcb t)
def QnC:TRow:=Qh 152 [(.a ctOp)] fun x=>(none,Qby (Za x.1))
def QmK:List TRow:=[JB,Qiy,QhB]
def QyW:TCode :=
 (zsq [(zsq [(.reg [zmv 40 3,zfa 41 1 3,zld 42 41 1,zle 43 42,zbi 44 .lss 40 43]),(.cond 44 .skip (.exit 0))]),(.block 1 (zsq [(.reg [zfa 47 1 3,zld 48 47 1,zmv 49 3,zia 50 48 49 [TI],zld 51 50 1,zca 52 110 [51],zno 53 52]),(.cond 53 (zsq [(.reg [zmv 2 (zkb false)]),.ret]) .skip)])),(.reg [zmv 45 3,zbi 46 .add 45 (zki 1),zmv 3 46])])
def Qx1:List (Nat × Md):=[(1,.b (zds 4)),(3,.one .d)]
def Qyk:TCode :=
 (zsq [(.reg [zmv 2 (zkb true)]),.ret])
def QRi:TCode :=
 (zsq [(.reg [zop 1 (.box 69 0 4),zmv 2 (zkb false)]),(zsq [(.draw [zfa 4 1 0,zld 5 4 1,zca 6 77 [5,(zki 1),(zki 5)],zno 7 6,zmv 8 7,.grp 8 false [zfa 9 1 1,zld 10 9 1,zca 11 77 [10,(zki 1),(zki 6)],zno 12 11] 13 12,zmv 14 13,.grp 14 false [zfa 15 1 2,zld 16 15 1,zca 17 77 [16,(zki 1),(zki 6)],zno 18 17] 19 18,zmv 20 19,.grp 20 false [zfa 21 1 0,zld 22 21 1,zbi 23 .neq 22 (zki 1),zmv 24 23,.grp 24 true [zfa 25 1 1,zld 26 25 1,zfa 27 1 2,zld 28 27 1,zbi 29 .neq 26 28] 30 29] 31 30,zmv 32 31,.grp 32 false [zfa 33 1 3,zld 34 33 1,zle 35 34,zLd 36 1 4,zca 37 202 [36],zbi 38 .neq 35 37] 39 38] [(29,33),(30,33),(31,33)]),(.cond 39 (zsq [(.reg [zmv 2 (zkb false)]),.ret]) .skip)]),(zsq [(.reg [zmv 3 (zki 0)]),(.block 0 (.loop Qx1 QyW))]),Qyk])
def Qqo:List (ARv × Md):=[(.t 2,.one .d)]
def QqC:Qb:=TQ 0 0 Qqo K
def QBw:Qb:=Qseq (tawp QmK 0 Qyk (QqC K)) (QqC K)
def QOs:Qb:=Qblk 0 (QBw K)
def QjG (o:TOp') (i:Int):Prop:=Loop QmK 0 Qx1 QyW (QOs K) ⟨[(1,(.p 0 0 0)),(3,(zci i))],[(0,(.box (Tup.cells ctOp o)))],1⟩
theorem QNI (o:TOp') (i:Int) (h :
(zif (decide (i<((o.2.2.2).length:Int))) (((0:Int)≤i∧Int.toNat i<(o.2.2.2).length)∧(zif (!(Q6 (gtd (0:Int) o.2.2.2 (Int.toNat i)))) (K (Qby false)) (QjG K o (w64 (i+(1:Int)))))) (K (Qby true)))):QjG K o i :=
 Loop.of (by kernel_rfl) h
theorem QFD (o:TOp') (h :
(zif (((((!(m_in o.1 (1:Int) (5:Int)))||(!(m_in o.2.1 (1:Int) (6:Int))))||(!(m_in o.2.2.1 (1:Int) (6:Int))))||((o.1 != (1:Int))&&(o.2.1 != o.2.2.1)))||(((o.2.2.2).length:Int) != (ZY o))) (K (Qby false)) (QjG K o 0))):Hold (tawp QmK (0+0) QRi (TQ 0 0 Qqo K) (Qf [(.a (Tup.cells ctOp o))])) :=
 Hold.of (by kernel_rfl) h
theorem QAN (o:TOp'):TCon Tryz.prog 152 [(.a (Tup.cells ctOp o))] (Qby (Za o)):=by
 refine Qq rfl fun hb=>tcg (n:=54) (sg:=QnC.sg) Ql (TOk.cons J8 (TOk.cons Qsy (TOk.cons Qu0 TOk.nil))) (by kernel_rfl) (by kernel_rfl) (QFD _ o ?_)
 have hl_o_3:(o.2.2.2).length≤9223372036854775807:=hb.1.2.2.2.1.1
 refine ⟨fun h=>R_eq (by grind [Za]),fun h=>?_⟩
 exact QbU (Q:=fun x=>Qby x=Qby (Za o)) (p:=Q6) (c:=fun x=>!(Q6 x)) 0 hl_o_3 (fun _=>rfl) (fun i h=>QNI (fun r'=>r'=Qby (Za o)) o i h) (R_eq (by grind [Za,Zs]))
theorem QNo:Qi Tryz.prog QnC:=Qm fun x _=>QAN x.1
def Qft (t:Bool):TRes:=zre (zcb t)
def Qed:TRow:=Qh 194 [(.a ctOp)] fun x=>(none,Qft (Za x.1))
def QEy:List TRow:=[Qk4,QeX]
def QAW:TCode :=
 (zsq [(.reg [zop 1 (.box 69 0 4),zmv 2 (zkb false)]),(zsq [(.reg [zfa 3 1 0,zld 4 3 1,zbi 5 .lss 4 (zki 1),zmv 6 5,.grp 6 false [zfa 7 1 0,zld 8 7 1,zbi 9 .gtr 8 (zki 5)] 10 9,zmv 11 10,.grp 11 false [zfa 12 1 1,zld 13 12 1,zbi 14 .lss 13 (zki 1)] 15 14,zmv 16 15,.grp 16 false [zfa 17 1 1,zld 18 17 1,zbi 19 .gtr 18 (zki 6)] 20 19,zmv 21 20,.grp 21 false [zfa 22 1 2,zld 23 22 1,zbi 24 .lss 23 (zki 1)] 25 24,zmv 26 25,.grp 26 false [zfa 27 1 2,zld 28 27 1,zbi 29 .gtr 28 (zki 6)] 30 29]),(.cond 30 (zsq [(.reg [zmv 2 (zkb false)]),.ret]) .skip)]),(zsq [(.reg [zfa 31 1 0,zld 32 31 1,zbi 33 .neq 32 (zki 1),zmv 34 33,.grp 34 true [zfa 35 1 1,zld 36 35 1,zfa 37 1 2,zld 38 37 1,zbi 39 .neq 36 38] 40 39]),(.cond 40 (zsq [(.reg [zmv 2 (zkb false)]),.ret]) .skip)]),(.draw [zfa 41 1 3,zld 42 41 1,zle 43 42,zLd 44 1 4,zca 45 221 [44],zbi 46 .eql 43 45,zmv 47 46,.grp 47 true [zfa 48 1 3,zld 49 48 1,zca 50 195 [49]] 51 50,zmv 2 51] [(0,4),(1,4),(2,4)]),.ret])
def QOJ:List (ARv × Md):=[(.t 2,.one .d)]
theorem QAS (o:TOp') (h :
(zif ((((((decide (o.1<(1:Int)))||(decide (o.1>(5:Int))))||(decide (o.2.1<(1:Int))))||(decide (o.2.1>(6:Int))))||(decide (o.2.2.1<(1:Int))))||(decide (o.2.2.1>(6:Int)))) (K (Qft false)) (zif ((o.1 != (1:Int))&&(o.2.1 != o.2.2.1)) (K (Qft false)) (K (Qft ((((o.2.2.2).length:Int)==(ZY o))&&(Zs o.2.2.2))))))):Hold (tawp QEy (0+0) QAW (TQ 0 0 QOJ K) (Qf [(.a (Tup.cells ctOp o))])) :=
 Hold.of (by kernel_rfl) h
theorem QGk (o:TOp'):TCon Tryz.prog 194 [(.a (Tup.cells ctOp o))] (Qft (Za o)):=by
 refine Qq rfl fun hb=>tcg (n:=52) (sg:=Qed.sg) Ql (TOk.cons QKe (TOk.cons Qjk TOk.nil)) (by kernel_rfl) (by kernel_rfl) (QAS _ o ?_)
 have hl_o_3:(o.2.2.2).length≤9223372036854775807:=hb.1.2.2.2.1.1
 grind [Za,m_in]
theorem QkB:Qi Tryz.prog Qed:=Qm fun x _=>QGk x.1
def Qcn (t:Bool):TRes:=zre (zcb t)
def QcU:TRow:=Qh 74 [(.a [(.sl ctOp)])] fun x=>(none,Qcn (QN x.1))
def QlK:List TRow:=[QnC,JB]
def Qt1:TCode :=
 (zsq [(zsq [(.reg [zmv 4 3,zfa 5 1 0,zld 6 5 1,zle 7 6,zbi 8 .lss 4 7]),(.cond 8 .skip (.exit 0))]),(.block 1 (zsq [(.draw [zfa 11 1 0,zld 12 11 1,zmv 13 3,zia 14 12 13 ctOp,zLd 15 14 4,zca 16 152 [15],zno 17 16,zmv 18 17,.grp 18 false [zmv 19 3,zbi 20 .gtr 19 (zki 0),zmv 21 20,.grp 21 true [zfa 22 1 0,zld 23 22 1,zmv 24 3,zia 25 23 24 ctOp,zfa 26 25 1,zld 27 26 1,zfa 28 1 0,zld 29 28 1,zmv 30 3,zbi 31 .sub 30 (zki 1),zia 32 29 31 ctOp,zfa 33 32 2,zld 34 33 1,zbi 35 .neq 27 34] 36 35] 37 36] []),(.cond 37 (zsq [(.reg [zmv 2 (zkb false)]),.ret]) .skip)])),(.reg [zmv 9 3,zbi 10 .add 9 (zki 1),zmv 3 10])])
def QuM:List (Nat × Md):=[(1,.b [.d]),(3,.one .d)]
def Qw9:TCode :=
 (zsq [(.reg [zfa 38 1 0,zld 39 38 1,zle 40 39,zca 41 77 [40,(zki 1),(zki 8)],zmv 2 41]),.ret])
def QHU:TCode :=
 (zsq [(.reg [zop 1 (.box 26 0 1),zmv 2 (zkb false)]),(zsq [(.reg [zmv 3 (zki 0)]),(.block 0 (.loop QuM Qt1))]),Qw9])
def QzU:List (ARv × Md):=[(.t 2,.one .d)]
def Qq9:Qb:=TQ 0 0 QzU K
def QC4:Qb:=Qseq (tawp QlK 0 Qw9 (Qq9 K)) (Qq9 K)
def QH8:Qb:=Qblk 0 (QC4 K)
def Qjc (m:List TOp') (i:Int):Prop:=Loop QlK 0 QuM Qt1 (QH8 K) ⟨[(1,(.p 0 0 0)),(3,(zci i))],[(0,(.box [(zcs ctOp m)]))],1⟩
theorem QAr (m:List TOp') (i:Int) (h :
(zif (decide (i<(m.length:Int))) ((((0:Int)≤i∧Int.toNat i<m.length)∧((!(!(Za (gtd dOp m (Int.toNat i)))))=true→((decide (i>(0:Int)))=true→(((0:Int)≤i∧Int.toNat i<m.length)∧((0:Int)≤w64 (i-(1:Int))∧Int.toNat (w64 (i-(1:Int)))<m.length)))))∧(zif ((!(Za (gtd dOp m (Int.toNat i))))||((decide (i>(0:Int)))&&(((gtd dOp m (Int.toNat i)).2.1) != ((gtd dOp m (Int.toNat (w64 (i-(1:Int))))).2.2.1)))) (K (Qcn false)) (Qjc K m (w64 (i+(1:Int)))))) (K (Qcn (m_in (m.length:Int) (1:Int) (8:Int)))))):Qjc K m i :=
 Loop.of (by kernel_rfl) h
theorem QLd (m:List TOp') (h :
(Qjc K m 0)):Hold (tawp QlK (0+0) QHU (TQ 0 0 QzU K) (Qf [(.a [(.c (.sl ctOp) m)])])) :=
 Hold.of (by kernel_rfl) h
theorem QA5 (m:List TOp'):TCon Tryz.prog 74 [(.a [(.c (.sl ctOp) m)])] (Qcn (QN m)):=by
 refine Qq rfl fun hb=>tcg (n:=42) (sg:=QcU.sg) Ql (TOk.cons QNo (TOk.cons J8 TOk.nil)) (by kernel_rfl) (by kernel_rfl) (QLd _ m ?_)
 have hl_m_0:(m).length≤9223372036854775807:=hb.1.1.1
 refine Zi m (fun r k=>Ye (QaD m k) r=Ye none m→Qjc (fun r'=>r'=Qcn (QN m)) m k) ?_ ?_ rfl
 ·intro he
  refine QAr (fun r'=>r'=Qcn (QN m)) m _ ⟨fun h=>by simp at h,fun _=>?_⟩
  grind [Ye,QN]
 ·intro k x r hk hlt hg ih he
  refine QAr (fun r'=>r'=Qcn (QN m)) m _ ⟨fun _=>?_,fun h=>by simp at h;omega⟩
  rw [Int.toNat_natCast,hg,Qp (x:=(k:Int)+1) (by omega) (by omega)]
  have ep:QaD m (k+1)=some x.2.2.1:=by simp [QaD,hg]
  rw [ep] at ih
  rcases Nat.eq_zero_or_pos k with h0 | h0
  ·subst h0
   simp only [Ye,QaD,if_true] at he
   grind [QN]
  ·have e2:=Qc5 h0 (by omega:k≤9223372036854775807)
   simp only [Ye,QaD,if_neg (Nat.ne_of_gt h0)] at he
   grind [QN]
theorem QeZ:Qi Tryz.prog QcU:=Qm fun x _=>QA5 x.1
def QbW (t:Bool):TRes:=zre (zcb t)
def JV:TRow:=Qh 131 [(.a [(.sl ctOp)])] fun x=>(none,QbW (QN x.1))
def QnM:List TRow:=[Qed]
def Qw6:TCode :=
 (zsq [(.reg [zbi 19 .lss 18 17]),(.cond 19 .skip (.exit 0)),(.block 1 (zsq [(.reg [zmv 20 18,zia 21 16 18 ctOp,zLd 22 21 4,zop 4 (.new 69 (z0s ctOp)),zmv 3 20,zst 4 22 4]),(.draw [zLd 23 4 4,zca 24 194 [23],zno 25 24,zmv 26 25,.grp 26 false [zmv 27 3,zbi 28 .gtr 27 (zki 0),zmv 29 28,.grp 29 true [zfa 30 1 0,zld 31 30 1,zmv 32 3,zbi 33 .sub 32 (zki 1),zia 34 31 33 ctOp,zfa 35 34 2,zld 36 35 1,zfa 37 4 1,zld 38 37 1,zbi 39 .neq 36 38] 40 39] 41 40] []),(.cond 41 (zsq [(.reg [zmv 2 (zkb false)]),.ret]) .skip)])),(.reg [zbi 42 .add 18 (zki 1),zmv 18 42])])
def Qxu:List (Nat × Md):=[(1,.b [.d]),(16,.one .d),(17,.one .d),(18,.one .d)]
def QzQ:TCode :=
 (zsq [(.reg [zmv 2 (zkb true)]),.ret])
def QL2:TCode :=
 (zsq [(.reg [zop 1 (.box 26 0 1),zmv 2 (zkb false)]),(zsq [(.reg [zfa 5 1 0,zld 6 5 1,zle 7 6,zbi 8 .lss 7 (zki 1),zmv 9 8,.grp 9 false [zfa 10 1 0,zld 11 10 1,zle 12 11,zbi 13 .gtr 12 (zki 8)] 14 13]),(.cond 14 (zsq [(.reg [zmv 2 (zkb false)]),.ret]) .skip)]),(zsq [(.reg [zfa 15 1 0,zld 16 15 1,zle 17 16,zmv 18 (zki 0)]),(.block 0 (.loop Qxu Qw6))]),QzQ])
def QoK:List (ARv × Md):=[(.t 2,.one .d)]
def Qyc:Qb:=TQ 0 0 QoK K
def QDn:Qb:=Qseq (tawp QnM 0 QzQ (Qyc K)) (Qyc K)
def QIU:Qb:=Qblk 0 (QDn K)
def QgS (m:List TOp') (x:Int):Prop:=Loop QnM 0 Qxu Qw6 (QIU K) ⟨[(1,(.p 0 0 0)),(16,(zcs ctOp m)),(17,(zci (m.length:Int))),(18,(zci x))],[(0,(.box [(zcs ctOp m)]))],1⟩
theorem Qp3 (m:List TOp') (x:Int) (h :
(zif (decide (x<(m.length:Int))) (((0:Int)≤x∧Int.toNat x<m.length)∧(((!(!(Za (gtd dOp m (Int.toNat x)))))=true→((decide (x>(0:Int)))=true→((0:Int)≤w64 (x-(1:Int))∧Int.toNat (w64 (x-(1:Int)))<m.length)))∧(zif ((!(Za (gtd dOp m (Int.toNat x))))||((decide (x>(0:Int)))&&(((gtd dOp m (Int.toNat (w64 (x-(1:Int))))).2.2.1) != ((gtd dOp m (Int.toNat x)).2.1)))) (K (QbW false)) (QgS K m (w64 (x+(1:Int))))))) (K (QbW true)))):QgS K m x :=
 Loop.of (by kernel_rfl) h
theorem QBi (m:List TOp') (h :
(zif ((decide ((m.length:Int)<(1:Int)))||(decide ((m.length:Int)>(8:Int)))) (K (QbW false)) (QgS K m 0))):Hold (tawp QnM (0+0) QL2 (TQ 0 0 QoK K) (Qf [(.a [(.c (.sl ctOp) m)])])) :=
 Hold.of (by kernel_rfl) h
theorem QPH (m:List TOp'):TCon Tryz.prog 131 [(.a [(.c (.sl ctOp) m)])] (QbW (QN m)):=by
 refine Qq rfl fun hb=>tcg (n:=43) (sg:=JV.sg) Ql (TOk.cons QkB TOk.nil) (by kernel_rfl) (by kernel_rfl) (QBi _ m ?_)
 have hl_m_0:(m).length≤9223372036854775807:=hb.1.1.1
 refine ⟨fun h=>R_eq (by grind [QN,m_in]),fun h=>?_⟩
 have hin:m_in m.length 1 8=true:=by grind [m_in]
 refine Zi m (fun r k=>Ye (QaD m k) r=Ye none m→QgS (fun r'=>r'=QbW (QN m)) m k) ?_ ?_ rfl
 ·intro he
  refine Qp3 (fun r'=>r'=QbW (QN m)) m _ ⟨fun h=>by simp at h,fun _=>?_⟩
  grind [Ye,QN]
 ·intro k x r hk hlt hg ih he
  refine Qp3 (fun r'=>r'=QbW (QN m)) m _ ⟨fun _=>?_,fun h=>by simp at h;omega⟩
  rw [Int.toNat_natCast,hg,Qp (x:=(k:Int)+1) (by omega) (by omega)]
  have ep:QaD m (k+1)=some x.2.2.1:=by simp [QaD,hg]
  rw [ep] at ih
  rcases Nat.eq_zero_or_pos k with h0 | h0
  ·subst h0
   simp only [Ye,QaD,if_true] at he
   grind [QN]
  ·have e2:=Qc5 h0 (by omega:k≤9223372036854775807)
   simp only [Ye,QaD,if_neg (Nat.ne_of_gt h0)] at he
   grind [QN]
theorem Qaw:Qi Tryz.prog JV:=Qm fun x _=>QPH x.1
def Qgu (t:Int):TRes:=zre (zci t)
def Qdh:TRow:=Qh 115 [(.a [(.sl ctOp)])] fun x=>(none,Qgu (QZ x.1))
def QDQ:List TRow:=[JV]
def QPI:TCode :=
 (zsq [(.reg [zop 1 (.box 26 0 1),zmv 2 (zki 0)]),(zsq [(.reg [zLd 3 1 1,zca 4 131 [3],zno 5 4]),(.cond 5 (zsq [(.reg [zmv 2 (zki 0)]),.ret]) .skip)]),(.reg [zfa 6 1 0,zld 7 6 1,zia 8 7 (zki 0) ctOp,zfa 9 8 1,zld 10 9 1,zmv 2 10]),.ret])
def QEe:List (ARv × Md):=[(.t 2,.one .d)]
theorem QHf (m:List TOp') (h :
(zif (!(QN m)) (K (Qgu (0:Int))) (((0:Int)≤(0:Int)∧Int.toNat (0:Int)<m.length)∧K (Qgu ((gtd dOp m (Int.toNat (0:Int))).2.1))))):Hold (tawp QDQ (0+0) QPI (TQ 0 0 QEe K) (Qf [(.a [(.c (.sl ctOp) m)])])) :=
 Hold.of (by kernel_rfl) h
theorem QIw (m:List TOp'):TCon Tryz.prog 115 [(.a [(.c (.sl ctOp) m)])] (Qgu (QZ m)):=by
 refine Qq rfl fun hb=>tcg (n:=11) (sg:=Qdh.sg) Ql (TOk.cons Qaw TOk.nil) (by kernel_rfl) (by kernel_rfl) (QHf _ m ?_)
 have hl_m_0:(m).length≤9223372036854775807:=hb.1.1.1
 refine ⟨fun h=>R_eq (by grind [QZ]),fun h=>?_⟩
 have:=YV (m:=m) (by simpa using h)
 exact ⟨⟨by omega,by simp;omega⟩,R_eq (by simp at h;simp [QZ,h])⟩
theorem QiZ:Qi Tryz.prog Qdh:=Qm fun x _=>QIw x.1
def Qgq (t:Int):TRes:=zre (zci t)
def Qht:TRow:=Qh 153 [(.a [(.sl ctOp)])] fun x=>(none,Qgq (QZ x.1))
def QML:List TRow:=[QcU]
def QJN:TCode :=
 (zsq [(.reg [zop 1 (.box 26 0 1),zmv 2 (zki 0)]),(zsq [(.reg [zLd 3 1 1,zca 4 74 [3],zno 5 4]),(.cond 5 (zsq [(.reg [zmv 2 (zki 0)]),.ret]) .skip)]),(.reg [zfa 6 1 0,zld 7 6 1,zia 8 7 (zki 0) ctOp,zfa 9 8 1,zld 10 9 1,zmv 2 10]),.ret])
def QJ4:List (ARv × Md):=[(.t 2,.one .d)]
theorem QBG (m:List TOp') (h :
(zif (!(QN m)) (K (Qgq (0:Int))) (((0:Int)≤(0:Int)∧Int.toNat (0:Int)<m.length)∧K (Qgq ((gtd dOp m (Int.toNat (0:Int))).2.1))))):Hold (tawp QML (0+0) QJN (TQ 0 0 QJ4 K) (Qf [(.a [(.c (.sl ctOp) m)])])) :=
 Hold.of (by kernel_rfl) h
theorem QNm (m:List TOp'):TCon Tryz.prog 153 [(.a [(.c (.sl ctOp) m)])] (Qgq (QZ m)):=by
 refine Qq rfl fun hb=>tcg (n:=11) (sg:=Qht.sg) Ql (TOk.cons QeZ TOk.nil) (by kernel_rfl) (by kernel_rfl) (QBG _ m ?_)
 have hl_m_0:(m).length≤9223372036854775807:=hb.1.1.1
 refine ⟨fun h=>R_eq (by grind [QZ]),fun h=>?_⟩
 have:=YV (m:=m) (by simpa using h)
 exact ⟨⟨by omega,by simp;omega⟩,R_eq (by simp at h;simp [QZ,h])⟩
theorem Qox:Qi Tryz.prog Qht:=Qm fun x _=>QNm x.1
def QfZ (t:Int):TRes:=zre (zci t)
def QdS:TRow:=Qh 117 [(.a [(.sl ctOp)])] fun x=>(none,QfZ (Q3 x.1))
def QLr:List TRow:=[JV]
def QLK:TCode :=
 (zsq [(.reg [zop 1 (.box 26 0 1),zmv 2 (zki 0)]),(zsq [(.reg [zLd 3 1 1,zca 4 131 [3],zno 5 4]),(.cond 5 (zsq [(.reg [zmv 2 (zki 0)]),.ret]) .skip)]),(.reg [zfa 6 1 0,zld 7 6 1,zfa 8 1 0,zld 9 8 1,zle 10 9,zbi 11 .sub 10 (zki 1),zia 12 7 11 ctOp,zfa 13 12 2,zld 14 13 1,zmv 2 14]),.ret])
def QL8:List (ARv × Md):=[(.t 2,.one .d)]
theorem QPS (m:List TOp') (h :
(zif (!(QN m)) (K (QfZ (0:Int))) (((0:Int)≤w64 ((m.length:Int)-(1:Int))∧Int.toNat (w64 ((m.length:Int)-(1:Int)))<m.length)∧K (QfZ ((gtd dOp m (Int.toNat (w64 ((m.length:Int)-(1:Int))))).2.2.1))))):Hold (tawp QLr (0+0) QLK (TQ 0 0 QL8 K) (Qf [(.a [(.c (.sl ctOp) m)])])) :=
 Hold.of (by kernel_rfl) h
theorem QAs (m:List TOp'):TCon Tryz.prog 117 [(.a [(.c (.sl ctOp) m)])] (QfZ (Q3 m)):=by
 refine Qq rfl fun hb=>tcg (n:=15) (sg:=QdS.sg) Ql (TOk.cons Qaw TOk.nil) (by kernel_rfl) (by kernel_rfl) (QPS _ m ?_)
 have hl_m_0:(m).length≤9223372036854775807:=hb.1.1.1
 refine ⟨fun h=>R_eq (by grind [Q3]),fun h=>?_⟩
 have:=YV (m:=m) (by simpa using h)
 have e:=Qc5 this.1 (by omega:m.length≤9223372036854775807)
 rw [e.1]
 exact ⟨⟨e.2,by omega⟩,R_eq (by simp at h;simp [Q3,h])⟩
theorem QiF:Qi Tryz.prog QdS:=Qm fun x _=>QAs x.1
def Qgk (t:Int):TRes:=zre (zci t)
def QgG:TRow:=Qh 154 [(.a [(.sl ctOp)])] fun x=>(none,Qgk (Q3 x.1))
def QJt:List TRow:=[QcU]
def QJu:TCode :=
 (zsq [(.reg [zop 1 (.box 26 0 1),zmv 2 (zki 0)]),(zsq [(.reg [zLd 3 1 1,zca 4 74 [3],zno 5 4]),(.cond 5 (zsq [(.reg [zmv 2 (zki 0)]),.ret]) .skip)]),(.reg [zfa 6 1 0,zld 7 6 1,zfa 8 1 0,zld 9 8 1,zle 10 9,zbi 11 .sub 10 (zki 1),zia 12 7 11 ctOp,zfa 13 12 2,zld 14 13 1,zmv 2 14]),.ret])
def QD1:List (ARv × Md):=[(.t 2,.one .d)]
theorem QBk (m:List TOp') (h :
(zif (!(QN m)) (K (Qgk (0:Int))) (((0:Int)≤w64 ((m.length:Int)-(1:Int))∧Int.toNat (w64 ((m.length:Int)-(1:Int)))<m.length)∧K (Qgk ((gtd dOp m (Int.toNat (w64 ((m.length:Int)-(1:Int))))).2.2.1))))):Hold (tawp QJt (0+0) QJu (TQ 0 0 QD1 K) (Qf [(.a [(.c (.sl ctOp) m)])])) :=
 Hold.of (by kernel_rfl) h
theorem QBL (m:List TOp'):TCon Tryz.prog 154 [(.a [(.c (.sl ctOp) m)])] (Qgk (Q3 m)):=by
 refine Qq rfl fun hb=>tcg (n:=15) (sg:=QgG.sg) Ql (TOk.cons QeZ TOk.nil) (by kernel_rfl) (by kernel_rfl) (QBk _ m ?_)
 have hl_m_0:(m).length≤9223372036854775807:=hb.1.1.1
 refine ⟨fun h=>R_eq (by grind [Q3]),fun h=>?_⟩
 have:=YV (m:=m) (by simpa using h)
 have e:=Qc5 this.1 (by omega:m.length≤9223372036854775807)
 rw [e.1]
 exact ⟨⟨e.2,by omega⟩,R_eq (by simp at h;simp [Q3,h])⟩
theorem QuR:Qi Tryz.prog QgG:=Qm fun x _=>QBL x.1
end
end Go.Proofs.YtjbdljkhbglnhaaGreat.Am

