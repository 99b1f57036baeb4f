/- -/
import Derived.Test.YtephkbajoofeoaaWEP1
namespace Go.Proofs.Ytephkbajoofeoaa.Am
open Go Go.RowKit Go.Proofs.Ytephkbajoofeoaa
set_option linter.all false
noncomputable section
variable (K:TRes→Prop)
def Yd (t:Int):TRes:=zre (zci t)
def QdC:TRow:=Ql 191 [(.a ctOp)] fun x=>(none,Yd (Q0 x.1))
def Qbr:TTab:=⟨[JN],false⟩
def Qjf:TCode :=
 (.cond 15 (zsq [(.reg [zfa 18 1 1,zld 19 18 1,zfa 20 1 2,zld 21 20 1,zbi 22 .mul 19 21,zmv 2 22]),.ret]) (zsq [(.reg [zbi 24 .eql 14 (zki 2),zmv 23 24]),(.cond 23 (zsq [(.reg [zfa 25 1 1,zld 26 25 1,zmv 2 26]),.ret]) (zsq [(.reg [zbi 28 .eql 14 (zki 4),zmv 27 28]),(.cond 27 (zsq [(.reg [zmv 2 (zki 1)]),.ret]) .skip)]))]))
def QrA:List (Nat × Md):=[(1,.b (zds 4)),(14,.one .d),(15,.one .d)]
def Ql0:TCode:=.wk QrA Qjf
def QjJ:TCode :=
 (zsq [(.reg [zmv 2 (zki 0)]),.ret])
def QqI:TCode :=
 (zsq [(.reg [zop 1 (.box 76 0 4),zmv 2 (zki 0)]),(zsq [(.reg [zfa 3 1 1,zld 4 3 1,zca 5 102 [4,(zki 1),(zki 6)],zno 6 5,zmv 7 6,.grp 7 false [zfa 8 1 2,zld 9 8 1,zca 10 102 [9,(zki 1),(zki 6)],zno 11 10] 12 11]),(.cond 12 (zsq [(.reg [zmv 2 (zki 0)]),.ret]) .skip)]),(zsq [(.reg [zfa 13 1 0,zld 14 13 1]),(.block 0 (zsq [(zsq [(.reg [zbi 16 .eql 14 (zki 1),zmv 15 16]),(.cond 15 .skip (.reg [zbi 17 .eql 14 (zki 5),zmv 15 17]))]),Ql0]))]),QjJ])
def QkU:List (ARv × Md):=[(.t 2,.one .d)]
def QjY:Qc:=TQ 0 0 QkU K
def Qss:Qc:=Qseq (tawp Qbr 0 QjJ (QjY K)) (QjY K)
def QtX:Qc:=Qblk 0 (Qss K)
@[irreducible] def Qdp (o:TOp') (x:Bool):Prop:=tawp Qbr 0 Qjf (QtX K) ⟨[(1,(.p 0 0 0)),(14,(zci o.1)),(15,(zcb x))],[(0,(.box (Tup.cells ctOp o)))],1⟩
theorem Qkv (o:TOp') (x:Bool) (h :
 (zif x (K (Yd (w64 (o.2.1*o.2.2.1)))) (zif (o.1==(2:Int)) (K (Yd o.2.1)) (zif (o.1==(4:Int)) (K (Yd (1:Int))) (K (Yd (0:Int))))))):Hold (Qdp K o x) :=
 Hold.of (by kernel_rfl) h
theorem QsC (o:TOp') (h :
 (zif ((!(m_in o.2.1 (1:Int) (6:Int)))||(!(m_in o.2.2.1 (1:Int) (6:Int)))) (K (Yd (0:Int))) (zif (o.1==(1:Int)) (Qdp K o (o.1==(1:Int))) (Qdp K o (o.1==(5:Int)))))):Hold (tawp Qbr (0+0) QqI (TQ 0 0 QkU K) (Qh [(.a (Tup.cells ctOp o))])) :=
 Hold.of (by kernel_rfl) h
theorem Qpf (o:TOp'):TCon Try.prog 191 [(.a (Tup.cells ctOp o))] (Yd (Q0 o)):=by
 refine Qn rfl fun hb=>tcg (Γ:=Qbr) (n:=29) (sg:=QdC.sg) Qo (TOkL.cons Qcm TOkL.nil) (by kernel_rfl) (by kernel_rfl) (QsC _ o ?_)
 have hl_o_3:(o.2.2.2).length≤9223372036854775807:=hb.1.2.2.2.1.1
 refine ⟨fun h=>R_eq (by grind [Q0]),fun h=>?_⟩
 have hi:m_in o.2.1 1 6=true∧m_in o.2.2.1 1 6=true:=by simpa using h
 have hm:=Qc5 (Zx.1 hi.1).1 (Zx.1 hi.1).2 (Zx.1 hi.2).1 (Zx.1 hi.2).2
 have hw:=QJ (x:=o.2.1*o.2.2.1) (by omega) (by omega)
 refine ⟨fun h1=>(Qkv (fun r'=>r'=Yd (Q0 o)) o _ ?_).h,fun h1=>(Qkv (fun r'=>r'=Yd (Q0 o)) o _ ?_).h⟩ <;> grind [Q0]
theorem Qum:Qm Try.prog QdC:=Qp fun x _=>Qpf x.1
def ZV (t:Int):TRes:=zre (zci t)
def Qep:TRow:=Ql 189 [(.a ctOp)] fun x=>(none,ZV (Q0 x.1))
def Qbt:TTab:=⟨[],false⟩
def Qha:TCode :=
 (.cond 23 (zsq [(.reg [zfa 26 1 1,zld 27 26 1,zfa 28 1 2,zld 29 28 1,zbi 30 .mul 27 29,zmv 2 30]),.ret]) (zsq [(.reg [zbi 32 .eql 22 (zki 2),zmv 31 32]),(.cond 31 (zsq [(.reg [zfa 33 1 1,zld 34 33 1,zmv 2 34]),.ret]) (zsq [(.reg [zbi 36 .eql 22 (zki 4),zmv 35 36]),(.cond 35 (zsq [(.reg [zmv 2 (zki 1)]),.ret]) .skip)]))]))
def Qmr:List (Nat × Md):=[(1,.b (zds 4)),(22,.one .d),(23,.one .d)]
def QtF:TCode:=.wk Qmr Qha
def Qli:TCode :=
 (zsq [(.reg [zmv 2 (zki 0)]),.ret])
def Qo7:TCode :=
 (zsq [(.reg [zop 1 (.box 76 0 4),zmv 2 (zki 0)]),(zsq [(.reg [zfa 3 1 1,zld 4 3 1,zbi 5 .lss 4 (zki 1),zmv 6 5,.grp 6 false [zfa 7 1 1,zld 8 7 1,zbi 9 .gtr 8 (zki 6)] 10 9,zmv 11 10,.grp 11 false [zfa 12 1 2,zld 13 12 1,zbi 14 .lss 13 (zki 1)] 15 14,zmv 16 15,.grp 16 false [zfa 17 1 2,zld 18 17 1,zbi 19 .gtr 18 (zki 6)] 20 19]),(.cond 20 (zsq [(.reg [zmv 2 (zki 0)]),.ret]) .skip)]),(zsq [(.reg [zfa 21 1 0,zld 22 21 1]),(.block 0 (zsq [(zsq [(.reg [zbi 24 .eql 22 (zki 1),zmv 23 24]),(.cond 23 .skip (.reg [zbi 25 .eql 22 (zki 5),zmv 23 25]))]),QtF]))]),Qli])
def QjD:List (ARv × Md):=[(.t 2,.one .d)]
def QhF:Qc:=TQ 0 0 QjD K
def Qsr:Qc:=Qseq (tawp Qbt 0 Qli (QhF K)) (QhF K)
def Qny:Qc:=Qblk 0 (Qsr K)
@[irreducible] def Qfw (o:TOp') (x:Bool):Prop:=tawp Qbt 0 Qha (Qny K) ⟨[(1,(.p 0 0 0)),(22,(zci o.1)),(23,(zcb x))],[(0,(.box (Tup.cells ctOp o)))],1⟩
theorem Qhd (o:TOp') (x:Bool) (h :
 (zif x (K (ZV (w64 (o.2.1*o.2.2.1)))) (zif (o.1==(2:Int)) (K (ZV o.2.1)) (zif (o.1==(4:Int)) (K (ZV (1:Int))) (K (ZV (0:Int))))))):Hold (Qfw K o x) :=
 Hold.of (by kernel_rfl) h
theorem Qoy (o:TOp') (h :
 (zif ((((decide (o.2.1<(1:Int)))||(decide (o.2.1>(6:Int))))||(decide (o.2.2.1<(1:Int))))||(decide (o.2.2.1>(6:Int)))) (K (ZV (0:Int))) (zif (o.1==(1:Int)) (Qfw K o (o.1==(1:Int))) (Qfw K o (o.1==(5:Int)))))):Hold (tawp Qbt (0+0) Qo7 (TQ 0 0 QjD K) (Qh [(.a (Tup.cells ctOp o))])) :=
 Hold.of (by kernel_rfl) h
theorem QrS (o:TOp'):TCon Try.prog 189 [(.a (Tup.cells ctOp o))] (ZV (Q0 o)):=by
 refine Qn rfl fun hb=>tcg (Γ:=Qbt) (n:=37) (sg:=Qep.sg) Qo TOkL.nil (by kernel_rfl) (by kernel_rfl) (Qoy _ o ?_)
 have hl_o_3:(o.2.2.2).length≤9223372036854775807:=hb.1.2.2.2.1.1
 refine ⟨fun h=>R_eq (by grind [Q0,m_in]),fun h=>?_⟩
 have hi:m_in o.2.1 1 6=true∧m_in o.2.2.1 1 6=true:=by grind [m_in]
 have hm:=Qc5 (Zx.1 hi.1).1 (Zx.1 hi.1).2 (Zx.1 hi.2).1 (Zx.1 hi.2).2
 have hw:=QJ (x:=o.2.1*o.2.2.1) (by omega) (by omega)
 refine ⟨fun h1=>(Qhd (fun r'=>r'=ZV (Q0 o)) o _ ?_).h,fun h1=>(Qhd (fun r'=>r'=ZV (Q0 o)) o _ ?_).h⟩ <;> grind [Q0]
theorem Qrh:Qm Try.prog Qep:=Qp fun x _=>QrS x.1
def Yk (t:Bool):TRes:=zre (zcb t)
def QfC:TRow:=Ql 137 [(.a ctOp)] fun x=>(none,Yk (QH x.1))
def QcQ:TTab:=⟨[JN,QdC,QdW],false⟩
def QhN:TCode :=
 (zsq [(zsq [(.reg [zmv 40 3,zfa 41 1 3,zld 42 41 1,zle 43 42,zbi 44 .lss 40 43]),(.cond 44 .skip (.exit 0))]),(.block 1 (zsq [(.reg [zfa 47 1 3,zld 48 47 1,zmv 49 3,zia 50 48 49 [TI],zld 51 50 1,zca 52 122 [51],zno 53 52]),(.cond 53 (zsq [(.reg [zmv 2 (zkb false)]),.ret]) .skip)])),(.reg [zmv 45 3,zbi 46 .add 45 (zki 1),zmv 3 46])])
def QlK:List (Nat × Md):=[(1,.b (zds 4)),(3,.one .d)]
def Qgd:TCode :=
 (zsq [(.reg [zmv 2 (zkb true)]),.ret])
def QsT:TCode :=
 (zsq [(.reg [zop 1 (.box 76 0 4),zmv 2 (zkb false)]),(zsq [(.draw [zfa 4 1 0,zld 5 4 1,zca 6 102 [5,(zki 1),(zki 5)],zno 7 6,zmv 8 7,.grp 8 false [zfa 9 1 1,zld 10 9 1,zca 11 102 [10,(zki 1),(zki 6)],zno 12 11] 13 12,zmv 14 13,.grp 14 false [zfa 15 1 2,zld 16 15 1,zca 17 102 [16,(zki 1),(zki 6)],zno 18 17] 19 18,zmv 20 19,.grp 20 false [zfa 21 1 0,zld 22 21 1,zbi 23 .neq 22 (zki 1),zmv 24 23,.grp 24 true [zfa 25 1 1,zld 26 25 1,zfa 27 1 2,zld 28 27 1,zbi 29 .neq 26 28] 30 29] 31 30,zmv 32 31,.grp 32 false [zfa 33 1 3,zld 34 33 1,zle 35 34,zLd 36 1 4,zca 37 191 [36],zbi 38 .neq 35 37] 39 38] [(29,33),(30,33),(31,33)]),(.cond 39 (zsq [(.reg [zmv 2 (zkb false)]),.ret]) .skip)]),(zsq [(.reg [zmv 3 (zki 0)]),(.block 0 (.loop QlK QhN))]),Qgd])
def QfQ:List (ARv × Md):=[(.t 2,.one .d)]
def Qgx:Qc:=TQ 0 0 QfQ K
def Qns:Qc:=Qseq (tawp QcQ 0 Qgd (Qgx K)) (Qgx K)
def Qnh:Qc:=Qblk 0 (Qns K)
def Qdj (o:TOp') (i:Int):Prop:=Loop QcQ 0 QlK QhN (Qnh K) ⟨[(1,(.p 0 0 0)),(3,(zci i))],[(0,(.box (Tup.cells ctOp o)))],1⟩
theorem Qnk (o:TOp') (i:Int) (h :
 (zif (decide (i<((o.2.2.2).length:Int))) (((0:Int)≤i∧Int.toNat i<(o.2.2.2).length)∧(zif (!(Zg (gtd (0:Int) o.2.2.2 (Int.toNat i)))) (K (Yk false)) (Qdj K o (w64 (i+(1:Int)))))) (K (Yk true)))):Qdj K o i :=
 Loop.of (by kernel_rfl) h
theorem Qtf (o:TOp') (h :
 (zif (((((!(m_in o.1 (1:Int) (5:Int)))||(!(m_in o.2.1 (1:Int) (6:Int))))||(!(m_in o.2.2.1 (1:Int) (6:Int))))||((o.1 != (1:Int))&&(o.2.1 != o.2.2.1)))||(((o.2.2.2).length:Int) != (Q0 o))) (K (Yk false)) (Qdj K o 0))):Hold (tawp QcQ (0+0) QsT (TQ 0 0 QfQ K) (Qh [(.a (Tup.cells ctOp o))])) :=
 Hold.of (by kernel_rfl) h
theorem QoN (o:TOp'):TCon Try.prog 137 [(.a (Tup.cells ctOp o))] (Yk (QH o)):=by
 refine Qn rfl fun hb=>tcg (Γ:=QcQ) (n:=54) (sg:=QfC.sg) Qo (TOkL.cons Qcm (TOkL.cons Qum (TOkL.cons QoE TOkL.nil))) (by kernel_rfl) (by kernel_rfl) (Qtf _ o ?_)
 have hl_o_3:(o.2.2.2).length≤9223372036854775807:=hb.1.2.2.2.1.1
 refine ⟨fun h=>R_eq (by grind [QH]),fun h=>?_⟩
 exact QjZ (Q:=fun x=>Yk x=Yk (QH o)) (p:=Zg) (c:=fun x=>!(Zg x)) 0 hl_o_3 (fun _=>rfl) (fun i h=>Qnk (fun r'=>r'=Yk (QH o)) o i h) (R_eq (by grind [QH,Yh]))
theorem Qmz:Qm Try.prog QfC:=Qp fun x _=>QoN x.1
def J7 (t:Bool):TRes:=zre (zcb t)
def Qeg:TRow:=Ql 134 [(.a ctOp)] fun x=>(none,J7 (QH x.1))
def Qg7:TTab:=⟨[Qep,QdY],false⟩
def Qta:TCode :=
 (zsq [(.reg [zop 1 (.box 76 0 4),zmv 2 (zkb false)]),(zsq [(.reg [zfa 3 1 0,zld 4 3 1,zbi 5 .lss 4 (zki 1),zmv 6 5,.grp 6 false [zfa 7 1 0,zld 8 7 1,zbi 9 .gtr 8 (zki 5)] 10 9,zmv 11 10,.grp 11 false [zfa 12 1 1,zld 13 12 1,zbi 14 .lss 13 (zki 1)] 15 14,zmv 16 15,.grp 16 false [zfa 17 1 1,zld 18 17 1,zbi 19 .gtr 18 (zki 6)] 20 19,zmv 21 20,.grp 21 false [zfa 22 1 2,zld 23 22 1,zbi 24 .lss 23 (zki 1)] 25 24,zmv 26 25,.grp 26 false [zfa 27 1 2,zld 28 27 1,zbi 29 .gtr 28 (zki 6)] 30 29]),(.cond 30 (zsq [(.reg [zmv 2 (zkb false)]),.ret]) .skip)]),(zsq [(.reg [zfa 31 1 0,zld 32 31 1,zbi 33 .neq 32 (zki 1),zmv 34 33,.grp 34 true [zfa 35 1 1,zld 36 35 1,zfa 37 1 2,zld 38 37 1,zbi 39 .neq 36 38] 40 39]),(.cond 40 (zsq [(.reg [zmv 2 (zkb false)]),.ret]) .skip)]),(.draw [zfa 41 1 3,zld 42 41 1,zle 43 42,zLd 44 1 4,zca 45 189 [44],zbi 46 .eql 43 45,zmv 47 46,.grp 47 true [zfa 48 1 3,zld 49 48 1,zca 50 190 [49]] 51 50,zmv 2 51] [(0,4),(1,4),(2,4)]),.ret])
def QtG:List (ARv × Md):=[(.t 2,.one .d)]
theorem QoV (o:TOp') (h :
 (zif ((((((decide (o.1<(1:Int)))||(decide (o.1>(5:Int))))||(decide (o.2.1<(1:Int))))||(decide (o.2.1>(6:Int))))||(decide (o.2.2.1<(1:Int))))||(decide (o.2.2.1>(6:Int)))) (K (J7 false)) (zif ((o.1 != (1:Int))&&(o.2.1 != o.2.2.1)) (K (J7 false)) (K (J7 ((((o.2.2.2).length:Int)==(Q0 o))&&(Yh o.2.2.2))))))):Hold (tawp Qg7 (0+0) Qta (TQ 0 0 QtG K) (Qh [(.a (Tup.cells ctOp o))])) :=
 Hold.of (by kernel_rfl) h
theorem QrY (o:TOp'):TCon Try.prog 134 [(.a (Tup.cells ctOp o))] (J7 (QH o)):=by
 refine Qn rfl fun hb=>tcg (Γ:=Qg7) (n:=52) (sg:=Qeg.sg) Qo (TOkL.cons Qrh (TOkL.cons Qq7 TOkL.nil)) (by kernel_rfl) (by kernel_rfl) (QoV _ o ?_)
 have hl_o_3:(o.2.2.2).length≤9223372036854775807:=hb.1.2.2.2.1.1
 grind [QH,m_in]
theorem Qrc:Qm Try.prog Qeg:=Qp fun x _=>QrY x.1
def Je (t:Bool):TRes:=zre (zcb t)
def Qb7:TRow:=Ql 60 [(.a [(.sl ctOp)])] fun x=>(none,Je (Qu x.1))
def QbY:TTab:=⟨[QfC,JN],false⟩
def QkH:TCode :=
 (zsq [(zsq [(.reg [zmv 4 3,zfa 5 1 0,zld 6 5 1,zle 7 6,zbi 8 .lss 4 7]),(.cond 8 .skip (.exit 0))]),(.block 1 (zsq [(.draw [zfa 11 1 0,zld 12 11 1,zmv 13 3,zia 14 12 13 ctOp,zLd 15 14 4,zca 16 137 [15],zno 17 16,zmv 18 17,.grp 18 false [zmv 19 3,zbi 20 .gtr 19 (zki 0),zmv 21 20,.grp 21 true [zfa 22 1 0,zld 23 22 1,zmv 24 3,zia 25 23 24 ctOp,zfa 26 25 1,zld 27 26 1,zfa 28 1 0,zld 29 28 1,zmv 30 3,zbi 31 .sub 30 (zki 1),zia 32 29 31 ctOp,zfa 33 32 2,zld 34 33 1,zbi 35 .neq 27 34] 36 35] 37 36] []),(.cond 37 (zsq [(.reg [zmv 2 (zkb false)]),.ret]) .skip)])),(.reg [zmv 9 3,zbi 10 .add 9 (zki 1),zmv 3 10])])
def Qid:List (Nat × Md):=[(1,.b [.d]),(3,.one .d)]
def Qh5:TCode :=
 (zsq [(.reg [zfa 38 1 0,zld 39 38 1,zle 40 39,zca 41 102 [40,(zki 1),(zki 8)],zmv 2 41]),.ret])
def QoW:TCode :=
 (zsq [(.reg [zop 1 (.box 66 0 1),zmv 2 (zkb false)]),(zsq [(.reg [zmv 3 (zki 0)]),(.block 0 (.loop Qid QkH))]),Qh5])
def QjP:List (ARv × Md):=[(.t 2,.one .d)]
def Qg8:Qc:=TQ 0 0 QjP K
def Qub:Qc:=Qseq (tawp QbY 0 Qh5 (Qg8 K)) (Qg8 K)
def Qq0:Qc:=Qblk 0 (Qub K)
def QcN (m:List TOp') (i:Int):Prop:=Loop QbY 0 Qid QkH (Qq0 K) ⟨[(1,(.p 0 0 0)),(3,(zci i))],[(0,(.box [(zcs ctOp m)]))],1⟩
theorem Qlw (m:List TOp') (i:Int) (h :
 (zif (decide (i<(m.length:Int))) ((((0:Int)≤i∧Int.toNat i<m.length)∧((!(!(QH (gtd dOp m (Int.toNat i)))))=true→((decide (i>(0:Int)))=true→(((0:Int)≤i∧Int.toNat i<m.length)∧((0:Int)≤w64 (i-(1:Int))∧Int.toNat (w64 (i-(1:Int)))<m.length)))))∧(zif ((!(QH (gtd dOp m (Int.toNat i))))||((decide (i>(0:Int)))&&(((gtd dOp m (Int.toNat i)).2.1) != ((gtd dOp m (Int.toNat (w64 (i-(1:Int))))).2.2.1)))) (K (Je false)) (QcN K m (w64 (i+(1:Int)))))) (K (Je (m_in (m.length:Int) (1:Int) (8:Int)))))):QcN K m i :=
 Loop.of (by kernel_rfl) h
theorem QpF (m:List TOp') (h :
 (QcN K m 0)):Hold (tawp QbY (0+0) QoW (TQ 0 0 QjP K) (Qh [(.a [(.c (.sl ctOp) m)])])) :=
 Hold.of (by kernel_rfl) h
theorem QrV (m:List TOp'):TCon Try.prog 60 [(.a [(.c (.sl ctOp) m)])] (Je (Qu m)):=by
 refine Qn rfl fun hb=>tcg (Γ:=QbY) (n:=42) (sg:=Qb7.sg) Qo (TOkL.cons Qmz (TOkL.cons Qcm TOkL.nil)) (by kernel_rfl) (by kernel_rfl) (QpF _ m ?_)
 have hl_m_0:(m).length≤9223372036854775807:=hb.1.1.1
 refine Z8 m (fun r k=>Q3 (ZU m k) r=Q3 none m→QcN (fun r'=>r'=Je (Qu m)) m k) ?_ ?_ rfl
 ·intro he
  refine Qlw (fun r'=>r'=Je (Qu m)) m _ ⟨fun h=>by simp at h,fun _=>?_⟩
  grind [Q3,Qu]
 ·intro k x r hk hlt hg ih he
  refine Qlw (fun r'=>r'=Je (Qu m)) m _ ⟨fun _=>?_,fun h=>by simp at h;omega⟩
  rw [Int.toNat_natCast,hg,QJ (x:=(k:Int)+1) (by omega) (by omega)]
  have ep:ZU m (k+1)=some x.2.2.1:=by simp [ZU,hg]
  rw [ep] at ih
  rcases Nat.eq_zero_or_pos k with h0 | h0
  ·subst h0
   simp only [Q3,ZU,if_true] at he
   grind [Qu]
  ·have e2:=Qkz h0 (by omega:k≤9223372036854775807)
   simp only [Q3,ZU,if_neg (Nat.ne_of_gt h0)] at he
   grind [Qu]
theorem Qki:Qm Try.prog Qb7:=Qp fun x _=>QrV x.1
def Yt (t:Bool):TRes:=zre (zcb t)
def QbG:TRow:=Ql 133 [(.a [(.sl ctOp)])] fun x=>(none,Yt (Qu x.1))
def Qch:TTab:=⟨[Qeg],false⟩
def QlY:TCode :=
 (zsq [(.reg [zbi 19 .lss 18 17]),(.cond 19 .skip (.exit 0)),(.block 1 (zsq [(.reg [zmv 20 18,zia 21 16 18 ctOp,zLd 22 21 4,zop 4 (.new 76 (z0s ctOp)),zmv 3 20,zst 4 22 4]),(.draw [zLd 23 4 4,zca 24 134 [23],zno 25 24,zmv 26 25,.grp 26 false [zmv 27 3,zbi 28 .gtr 27 (zki 0),zmv 29 28,.grp 29 true [zfa 30 1 0,zld 31 30 1,zmv 32 3,zbi 33 .sub 32 (zki 1),zia 34 31 33 ctOp,zfa 35 34 2,zld 36 35 1,zfa 37 4 1,zld 38 37 1,zbi 39 .neq 36 38] 40 39] 41 40] []),(.cond 41 (zsq [(.reg [zmv 2 (zkb false)]),.ret]) .skip)])),(.reg [zbi 42 .add 18 (zki 1),zmv 18 42])])
def QhY:List (Nat × Md):=[(1,.b [.d]),(16,.one .d),(17,.one .d),(18,.one .d)]
def QgS:TCode :=
 (zsq [(.reg [zmv 2 (zkb true)]),.ret])
def Qrb:TCode :=
 (zsq [(.reg [zop 1 (.box 66 0 1),zmv 2 (zkb false)]),(zsq [(.reg [zfa 5 1 0,zld 6 5 1,zle 7 6,zbi 8 .lss 7 (zki 1),zmv 9 8,.grp 9 false [zfa 10 1 0,zld 11 10 1,zle 12 11,zbi 13 .gtr 12 (zki 8)] 14 13]),(.cond 14 (zsq [(.reg [zmv 2 (zkb false)]),.ret]) .skip)]),(zsq [(.reg [zfa 15 1 0,zld 16 15 1,zle 17 16,zmv 18 (zki 0)]),(.block 0 (.loop QhY QlY))]),QgS])
def Qin:List (ARv × Md):=[(.t 2,.one .d)]
def QiG:Qc:=TQ 0 0 Qin K
def QnO:Qc:=Qseq (tawp Qch 0 QgS (QiG K)) (QiG K)
def Qqo:Qc:=Qblk 0 (QnO K)
def QcR (m:List TOp') (x:Int):Prop:=Loop Qch 0 QhY QlY (Qqo K) ⟨[(1,(.p 0 0 0)),(16,(zcs ctOp m)),(17,(zci (m.length:Int))),(18,(zci x))],[(0,(.box [(zcs ctOp m)]))],1⟩
theorem Qjg (m:List TOp') (x:Int) (h :
 (zif (decide (x<(m.length:Int))) (((0:Int)≤x∧Int.toNat x<m.length)∧(((!(!(QH (gtd dOp m (Int.toNat x)))))=true→((decide (x>(0:Int)))=true→((0:Int)≤w64 (x-(1:Int))∧Int.toNat (w64 (x-(1:Int)))<m.length)))∧(zif ((!(QH (gtd dOp m (Int.toNat x))))||((decide (x>(0:Int)))&&(((gtd dOp m (Int.toNat (w64 (x-(1:Int))))).2.2.1) != ((gtd dOp m (Int.toNat x)).2.1)))) (K (Yt false)) (QcR K m (w64 (x+(1:Int))))))) (K (Yt true)))):QcR K m x :=
 Loop.of (by kernel_rfl) h
theorem Qm2 (m:List TOp') (h :
 (zif ((decide ((m.length:Int)<(1:Int)))||(decide ((m.length:Int)>(8:Int)))) (K (Yt false)) (QcR K m 0))):Hold (tawp Qch (0+0) Qrb (TQ 0 0 Qin K) (Qh [(.a [(.c (.sl ctOp) m)])])) :=
 Hold.of (by kernel_rfl) h
theorem Qmp (m:List TOp'):TCon Try.prog 133 [(.a [(.c (.sl ctOp) m)])] (Yt (Qu m)):=by
 refine Qn rfl fun hb=>tcg (Γ:=Qch) (n:=43) (sg:=QbG.sg) Qo (TOkL.cons Qrc TOkL.nil) (by kernel_rfl) (by kernel_rfl) (Qm2 _ m ?_)
 have hl_m_0:(m).length≤9223372036854775807:=hb.1.1.1
 refine ⟨fun h=>R_eq (by grind [Qu,m_in]),fun h=>?_⟩
 have hin:m_in m.length 1 8=true:=by grind [m_in]
 refine Z8 m (fun r k=>Q3 (ZU m k) r=Q3 none m→QcR (fun r'=>r'=Yt (Qu m)) m k) ?_ ?_ rfl
 ·intro he
  refine Qjg (fun r'=>r'=Yt (Qu m)) m _ ⟨fun h=>by simp at h,fun _=>?_⟩
  grind [Q3,Qu]
 ·intro k x r hk hlt hg ih he
  refine Qjg (fun r'=>r'=Yt (Qu m)) m _ ⟨fun _=>?_,fun h=>by simp at h;omega⟩
  rw [Int.toNat_natCast,hg,QJ (x:=(k:Int)+1) (by omega) (by omega)]
  have ep:ZU m (k+1)=some x.2.2.1:=by simp [ZU,hg]
  rw [ep] at ih
  rcases Nat.eq_zero_or_pos k with h0 | h0
  ·subst h0
   simp only [Q3,ZU,if_true] at he
   grind [Qu]
  ·have e2:=Qkz h0 (by omega:k≤9223372036854775807)
   simp only [Q3,ZU,if_neg (Nat.ne_of_gt h0)] at he
   grind [Qu]
theorem QhR:Qm Try.prog QbG:=Qp fun x _=>Qmp x.1
end
end Go.Proofs.Ytephkbajoofeoaa.Am

