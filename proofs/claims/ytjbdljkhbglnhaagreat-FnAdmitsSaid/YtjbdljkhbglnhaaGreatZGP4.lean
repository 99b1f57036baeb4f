/- -/
import Derived.Test.YtjbdljkhbglnhaaGreatZGP1
namespace Go.Proofs.YtjbdljkhbglnhaaGreat.Am
open Go Go.RowKit Go.Proofs.YtjbdljkhbglnhaaGreat
set_option linter.all false
noncomputable section
variable (K:TRes→Prop)
def Qa2 (t:Int):TRes:=zre (zci t)
def QfN:TRow:=Qi 202 [(.a ctOp)] fun x=>(none,Qa2 (Z3 x.1))
def Qns:List TRow:=[Jj]
def Qog:TCode :=
 (.cond 15 (zsq [(.reg [zfa 18 1 1,zld 19 18 1,zfa 20 1 2,zld 21 20 1,zbi 22 .mul 19 21,zmv 2 22]),.ret]) (zsq [(.reg [zbi 24 .eql 14 (zki 2),zmv 23 24]),(.cond 23 (zsq [(.reg [zfa 25 1 1,zld 26 25 1,zmv 2 26]),.ret]) (zsq [(.reg [zbi 28 .eql 14 (zki 4),zmv 27 28]),(.cond 27 (zsq [(.reg [zmv 2 (zki 1)]),.ret]) .skip)]))]))
def QGN:List (Nat × Md):=[(1,.b (zds 4)),(14,.one .d),(15,.one .d)]
def QGA:TCode:=.wk QGN Qog
def QwG:TCode :=
 (zsq [(.reg [zmv 2 (zki 0)]),.ret])
def QEy:TCode :=
 (zsq [(.reg [zop 1 (.box 69 0 4),zmv 2 (zki 0)]),(zsq [(.reg [zfa 3 1 1,zld 4 3 1,zca 5 77 [4,(zki 1),(zki 6)],zno 6 5,zmv 7 6,.grp 7 false [zfa 8 1 2,zld 9 8 1,zca 10 77 [9,(zki 1),(zki 6)],zno 11 10] 12 11]),(.cond 12 (zsq [(.reg [zmv 2 (zki 0)]),.ret]) .skip)]),(zsq [(.reg [zfa 13 1 0,zld 14 13 1]),(.block 0 (zsq [(zsq [(.reg [zbi 16 .eql 14 (zki 1),zmv 15 16]),(.cond 15 .skip (.reg [zbi 17 .eql 14 (zki 5),zmv 15 17]))]),QGA]))]),QwG])
def Qyb:List (ARv × Md):=[(.t 2,.one .d)]
def QwB:Qb:=TQ 0 0 Qyb K
def QPV:Qb:=Qseq (tawp Qns 0 QwG (QwB K)) (QwB K)
def QNE:Qb:=Qblk 0 (QPV K)
@[irreducible] def Ql2 (o:TOp') (x:Bool):Prop:=tawp Qns 0 Qog (QNE K) ⟨[(1,(.p 0 0 0)),(14,(zci o.1)),(15,(zcb x))],[(0,(.box (Tup.cells ctOp o)))],1⟩
theorem Qxl (o:TOp') (x:Bool) (h :
 (zif x (K (Qa2 (w64 (o.2.1*o.2.2.1)))) (zif (o.1==(2:Int)) (K (Qa2 o.2.1)) (zif (o.1==(4:Int)) (K (Qa2 (1:Int))) (K (Qa2 (0:Int))))))):Hold (Ql2 K o x) :=
 Hold.of (by kernel_rfl) h
theorem QH8 (o:TOp') (h :
 (zif ((!(m_in o.2.1 (1:Int) (6:Int)))||(!(m_in o.2.2.1 (1:Int) (6:Int)))) (K (Qa2 (0:Int))) (zif (o.1==(1:Int)) (Ql2 K o (o.1==(1:Int))) (Ql2 K o (o.1==(5:Int)))))):Hold (tawp Qns (0+0) QEy (TQ 0 0 Qyb K) (Qf [(.a (Tup.cells ctOp o))])) :=
 Hold.of (by kernel_rfl) h
theorem QMs (o:TOp'):TCon Tryz.prog 202 [(.a (Tup.cells ctOp o))] (Qa2 (Z3 o)):=by
 refine Qr rfl fun hb=>tcg (n:=29) (sg:=QfN.sg) Qk (TOk.cons JM TOk.nil) (by kernel_rfl) (by kernel_rfl) (QH8 _ o ?_)
 have hl_o_3:(o.2.2.2).length≤9223372036854775807:=hb.1.2.2.2.1.1
 refine ⟨fun h=>R_eq (by grind [Z3]),fun h=>?_⟩
 have hi:m_in o.2.1 1 6=true∧m_in o.2.2.1 1 6=true:=by simpa using h
 have hm:=Qe9 (QL.1 hi.1).1 (QL.1 hi.1).2 (QL.1 hi.2).1 (QL.1 hi.2).2
 have hw:=Qp (x:=o.2.1*o.2.2.1) (by omega) (by omega)
 refine ⟨fun h1=>(Qxl (fun r'=>r'=Qa2 (Z3 o)) o _ ?_).h,fun h1=>(Qxl (fun r'=>r'=Qa2 (Z3 o)) o _ ?_).h⟩ <;> grind [Z3]
theorem Qtr:Qj Tryz.prog QfN:=Ql fun x _=>QMs x.1
def QaU (t:Int):TRes:=zre (zci t)
def QmR:TRow:=Qi 221 [(.a ctOp)] fun x=>(none,QaU (Z3 x.1))
def QnS:List TRow:=[]
def QsO:TCode :=
 (.cond 23 (zsq [(.reg [zfa 26 1 1,zld 27 26 1,zfa 28 1 2,zld 29 28 1,zbi 30 .mul 27 29,zmv 2 30]),.ret]) (zsq [(.reg [zbi 32 .eql 22 (zki 2),zmv 31 32]),(.cond 31 (zsq [(.reg [zfa 33 1 1,zld 34 33 1,zmv 2 34]),.ret]) (zsq [(.reg [zbi 36 .eql 22 (zki 4),zmv 35 36]),(.cond 35 (zsq [(.reg [zmv 2 (zki 1)]),.ret]) .skip)]))]))
def QJY:List (Nat × Md):=[(1,.b (zds 4)),(22,.one .d),(23,.one .d)]
def QKZ:TCode:=.wk QJY QsO
def Qsy:TCode :=
 (zsq [(.reg [zmv 2 (zki 0)]),.ret])
def QBT:TCode :=
 (zsq [(.reg [zop 1 (.box 69 0 4),zmv 2 (zki 0)]),(zsq [(.reg [zfa 3 1 1,zld 4 3 1,zbi 5 .lss 4 (zki 1),zmv 6 5,.grp 6 false [zfa 7 1 1,zld 8 7 1,zbi 9 .gtr 8 (zki 6)] 10 9,zmv 11 10,.grp 11 false [zfa 12 1 2,zld 13 12 1,zbi 14 .lss 13 (zki 1)] 15 14,zmv 16 15,.grp 16 false [zfa 17 1 2,zld 18 17 1,zbi 19 .gtr 18 (zki 6)] 20 19]),(.cond 20 (zsq [(.reg [zmv 2 (zki 0)]),.ret]) .skip)]),(zsq [(.reg [zfa 21 1 0,zld 22 21 1]),(.block 0 (zsq [(zsq [(.reg [zbi 24 .eql 22 (zki 1),zmv 23 24]),(.cond 23 .skip (.reg [zbi 25 .eql 22 (zki 5),zmv 23 25]))]),QKZ]))]),Qsy])
def QpK:List (ARv × Md):=[(.t 2,.one .d)]
def Qpx:Qb:=TQ 0 0 QpK K
def QAw:Qb:=Qseq (tawp QnS 0 Qsy (Qpx K)) (Qpx K)
def QLm:Qb:=Qblk 0 (QAw K)
@[irreducible] def Ql9 (o:TOp') (x:Bool):Prop:=tawp QnS 0 QsO (QLm K) ⟨[(1,(.p 0 0 0)),(22,(zci o.1)),(23,(zcb x))],[(0,(.box (Tup.cells ctOp o)))],1⟩
theorem QyS (o:TOp') (x:Bool) (h :
 (zif x (K (QaU (w64 (o.2.1*o.2.2.1)))) (zif (o.1==(2:Int)) (K (QaU o.2.1)) (zif (o.1==(4:Int)) (K (QaU (1:Int))) (K (QaU (0:Int))))))):Hold (Ql9 K o x) :=
 Hold.of (by kernel_rfl) h
theorem QOd (o:TOp') (h :
 (zif ((((decide (o.2.1<(1:Int)))||(decide (o.2.1>(6:Int))))||(decide (o.2.2.1<(1:Int))))||(decide (o.2.2.1>(6:Int)))) (K (QaU (0:Int))) (zif (o.1==(1:Int)) (Ql9 K o (o.1==(1:Int))) (Ql9 K o (o.1==(5:Int)))))):Hold (tawp QnS (0+0) QBT (TQ 0 0 QpK K) (Qf [(.a (Tup.cells ctOp o))])) :=
 Hold.of (by kernel_rfl) h
theorem QFp (o:TOp'):TCon Tryz.prog 221 [(.a (Tup.cells ctOp o))] (QaU (Z3 o)):=by
 refine Qr rfl fun hb=>tcg (n:=37) (sg:=QmR.sg) Qk TOk.nil (by kernel_rfl) (by kernel_rfl) (QOd _ o ?_)
 have hl_o_3:(o.2.2.2).length≤9223372036854775807:=hb.1.2.2.2.1.1
 refine ⟨fun h=>R_eq (by grind [Z3,m_in]),fun h=>?_⟩
 have hi:m_in o.2.1 1 6=true∧m_in o.2.2.1 1 6=true:=by grind [m_in]
 have hm:=Qe9 (QL.1 hi.1).1 (QL.1 hi.1).2 (QL.1 hi.2).1 (QL.1 hi.2).2
 have hw:=Qp (x:=o.2.1*o.2.2.1) (by omega) (by omega)
 refine ⟨fun h1=>(QyS (fun r'=>r'=QaU (Z3 o)) o _ ?_).h,fun h1=>(QyS (fun r'=>r'=QaU (Z3 o)) o _ ?_).h⟩ <;> grind [Z3]
theorem QLW:Qj Tryz.prog QmR:=Ql fun x _=>QFp x.1
def QbQ (t:Bool):TRes:=zre (zcb t)
def Qkd:TRow:=Qi 152 [(.a ctOp)] fun x=>(none,QbQ (Ze x.1))
def Qj1:List TRow:=[Jj,QfN,QiS]
def Qrc:TCode :=
 (zsq [(zsq [(.reg [zmv 40 3,zfa 41 1 3,zld 42 41 1,zle 43 42,zbi 44 .lss 40 43]),(.cond 44 .skip (.exit 0))]),(.block 1 (zsq [(.reg [zfa 47 1 3,zld 48 47 1,zmv 49 3,zia 50 48 49 [TI],zld 51 50 1,zca 52 110 [51],zno 53 52]),(.cond 53 (zsq [(.reg [zmv 2 (zkb false)]),.ret]) .skip)])),(.reg [zmv 45 3,zbi 46 .add 45 (zki 1),zmv 3 46])])
def Qpt:List (Nat × Md):=[(1,.b (zds 4)),(3,.one .d)]
def Quo:TCode :=
 (zsq [(.reg [zmv 2 (zkb true)]),.ret])
def QPl:TCode :=
 (zsq [(.reg [zop 1 (.box 69 0 4),zmv 2 (zkb false)]),(zsq [(.draw [zfa 4 1 0,zld 5 4 1,zca 6 77 [5,(zki 1),(zki 5)],zno 7 6,zmv 8 7,.grp 8 false [zfa 9 1 1,zld 10 9 1,zca 11 77 [10,(zki 1),(zki 6)],zno 12 11] 13 12,zmv 14 13,.grp 14 false [zfa 15 1 2,zld 16 15 1,zca 17 77 [16,(zki 1),(zki 6)],zno 18 17] 19 18,zmv 20 19,.grp 20 false [zfa 21 1 0,zld 22 21 1,zbi 23 .neq 22 (zki 1),zmv 24 23,.grp 24 true [zfa 25 1 1,zld 26 25 1,zfa 27 1 2,zld 28 27 1,zbi 29 .neq 26 28] 30 29] 31 30,zmv 32 31,.grp 32 false [zfa 33 1 3,zld 34 33 1,zle 35 34,zLd 36 1 4,zca 37 202 [36],zbi 38 .neq 35 37] 39 38] [(29,33),(30,33),(31,33)]),(.cond 39 (zsq [(.reg [zmv 2 (zkb false)]),.ret]) .skip)]),(zsq [(.reg [zmv 3 (zki 0)]),(.block 0 (.loop Qpt Qrc))]),Quo])
def Qwk:List (ARv × Md):=[(.t 2,.one .d)]
def Qt5:Qb:=TQ 0 0 Qwk K
def QEI:Qb:=Qseq (tawp Qj1 0 Quo (Qt5 K)) (Qt5 K)
def QIV:Qb:=Qblk 0 (QEI K)
def Qkw (o:TOp') (i:Int):Prop:=Loop Qj1 0 Qpt Qrc (QIV K) ⟨[(1,(.p 0 0 0)),(3,(zci i))],[(0,(.box (Tup.cells ctOp o)))],1⟩
theorem QF3 (o:TOp') (i:Int) (h :
 (zif (decide (i<((o.2.2.2).length:Int))) (((0:Int)≤i∧Int.toNat i<(o.2.2.2).length)∧(zif (!(Zc (gtd (0:Int) o.2.2.2 (Int.toNat i)))) (K (QbQ false)) (Qkw K o (w64 (i+(1:Int)))))) (K (QbQ true)))):Qkw K o i :=
 Loop.of (by kernel_rfl) h
theorem QCr (o:TOp') (h :
 (zif (((((!(m_in o.1 (1:Int) (5:Int)))||(!(m_in o.2.1 (1:Int) (6:Int))))||(!(m_in o.2.2.1 (1:Int) (6:Int))))||((o.1 != (1:Int))&&(o.2.1 != o.2.2.1)))||(((o.2.2.2).length:Int) != (Z3 o))) (K (QbQ false)) (Qkw K o 0))):Hold (tawp Qj1 (0+0) QPl (TQ 0 0 Qwk K) (Qf [(.a (Tup.cells ctOp o))])) :=
 Hold.of (by kernel_rfl) h
theorem QG3 (o:TOp'):TCon Tryz.prog 152 [(.a (Tup.cells ctOp o))] (QbQ (Ze o)):=by
 refine Qr rfl fun hb=>tcg (n:=54) (sg:=Qkd.sg) Qk (TOk.cons JM (TOk.cons Qtr (TOk.cons Qwa TOk.nil))) (by kernel_rfl) (by kernel_rfl) (QCr _ o ?_)
 have hl_o_3:(o.2.2.2).length≤9223372036854775807:=hb.1.2.2.2.1.1
 refine ⟨fun h=>R_eq (by grind [Ze]),fun h=>?_⟩
 exact Qa1 (Q:=fun x=>QbQ x=QbQ (Ze o)) (p:=Zc) (c:=fun x=>!(Zc x)) 0 hl_o_3 (fun _=>rfl) (fun i h=>QF3 (fun r'=>r'=QbQ (Ze o)) o i h) (R_eq (by grind [Ze,Zs]))
theorem QCj:Qj Tryz.prog Qkd:=Ql fun x _=>QG3 x.1
def QeM (t:Bool):TRes:=zre (zcb t)
def Qff:TRow:=Qi 194 [(.a ctOp)] fun x=>(none,QeM (Ze x.1))
def QFC:List TRow:=[QmR,Qed]
def QGB:TCode :=
 (zsq [(.reg [zop 1 (.box 69 0 4),zmv 2 (zkb false)]),(zsq [(.reg [zfa 3 1 0,zld 4 3 1,zbi 5 .lss 4 (zki 1),zmv 6 5,.grp 6 false [zfa 7 1 0,zld 8 7 1,zbi 9 .gtr 8 (zki 5)] 10 9,zmv 11 10,.grp 11 false [zfa 12 1 1,zld 13 12 1,zbi 14 .lss 13 (zki 1)] 15 14,zmv 16 15,.grp 16 false [zfa 17 1 1,zld 18 17 1,zbi 19 .gtr 18 (zki 6)] 20 19,zmv 21 20,.grp 21 false [zfa 22 1 2,zld 23 22 1,zbi 24 .lss 23 (zki 1)] 25 24,zmv 26 25,.grp 26 false [zfa 27 1 2,zld 28 27 1,zbi 29 .gtr 28 (zki 6)] 30 29]),(.cond 30 (zsq [(.reg [zmv 2 (zkb false)]),.ret]) .skip)]),(zsq [(.reg [zfa 31 1 0,zld 32 31 1,zbi 33 .neq 32 (zki 1),zmv 34 33,.grp 34 true [zfa 35 1 1,zld 36 35 1,zfa 37 1 2,zld 38 37 1,zbi 39 .neq 36 38] 40 39]),(.cond 40 (zsq [(.reg [zmv 2 (zkb false)]),.ret]) .skip)]),(.draw [zfa 41 1 3,zld 42 41 1,zle 43 42,zLd 44 1 4,zca 45 221 [44],zbi 46 .eql 43 45,zmv 47 46,.grp 47 true [zfa 48 1 3,zld 49 48 1,zca 50 195 [49]] 51 50,zmv 2 51] [(0,4),(1,4),(2,4)]),.ret])
def QEg:List (ARv × Md):=[(.t 2,.one .d)]
theorem QAe (o:TOp') (h :
 (zif ((((((decide (o.1<(1:Int)))||(decide (o.1>(5:Int))))||(decide (o.2.1<(1:Int))))||(decide (o.2.1>(6:Int))))||(decide (o.2.2.1<(1:Int))))||(decide (o.2.2.1>(6:Int)))) (K (QeM false)) (zif ((o.1 != (1:Int))&&(o.2.1 != o.2.2.1)) (K (QeM false)) (K (QeM ((((o.2.2.2).length:Int)==(Z3 o))&&(Zs o.2.2.2))))))):Hold (tawp QFC (0+0) QGB (TQ 0 0 QEg K) (Qf [(.a (Tup.cells ctOp o))])) :=
 Hold.of (by kernel_rfl) h
theorem QDK (o:TOp'):TCon Tryz.prog 194 [(.a (Tup.cells ctOp o))] (QeM (Ze o)):=by
 refine Qr rfl fun hb=>tcg (n:=52) (sg:=Qff.sg) Qk (TOk.cons QLW (TOk.cons QnV TOk.nil)) (by kernel_rfl) (by kernel_rfl) (QAe _ o ?_)
 have hl_o_3:(o.2.2.2).length≤9223372036854775807:=hb.1.2.2.2.1.1
 grind [Ze,m_in]
theorem Qju:Qj Tryz.prog Qff:=Ql fun x _=>QDK x.1
def Qcr (t:Bool):TRes:=zre (zcb t)
def QbC:TRow:=Qi 74 [(.a [(.sl ctOp)])] fun x=>(none,Qcr (QE x.1))
def Qkh:List TRow:=[Qkd,Jj]
def Qsc:TCode :=
 (zsq [(zsq [(.reg [zmv 4 3,zfa 5 1 0,zld 6 5 1,zle 7 6,zbi 8 .lss 4 7]),(.cond 8 .skip (.exit 0))]),(.block 1 (zsq [(.draw [zfa 11 1 0,zld 12 11 1,zmv 13 3,zia 14 12 13 ctOp,zLd 15 14 4,zca 16 152 [15],zno 17 16,zmv 18 17,.grp 18 false [zmv 19 3,zbi 20 .gtr 19 (zki 0),zmv 21 20,.grp 21 true [zfa 22 1 0,zld 23 22 1,zmv 24 3,zia 25 23 24 ctOp,zfa 26 25 1,zld 27 26 1,zfa 28 1 0,zld 29 28 1,zmv 30 3,zbi 31 .sub 30 (zki 1),zia 32 29 31 ctOp,zfa 33 32 2,zld 34 33 1,zbi 35 .neq 27 34] 36 35] 37 36] []),(.cond 37 (zsq [(.reg [zmv 2 (zkb false)]),.ret]) .skip)])),(.reg [zmv 9 3,zbi 10 .add 9 (zki 1),zmv 3 10])])
def Qqr:List (Nat × Md):=[(1,.b [.d]),(3,.one .d)]
def QrD:TCode :=
 (zsq [(.reg [zfa 38 1 0,zld 39 38 1,zle 40 39,zca 41 77 [40,(zki 1),(zki 8)],zmv 2 41]),.ret])
def QI5:TCode :=
 (zsq [(.reg [zop 1 (.box 26 0 1),zmv 2 (zkb false)]),(zsq [(.reg [zmv 3 (zki 0)]),(.block 0 (.loop Qqr Qsc))]),QrD])
def QoQ:List (ARv × Md):=[(.t 2,.one .d)]
def Qqm:Qb:=TQ 0 0 QoQ K
def QKK:Qb:=Qseq (tawp Qkh 0 QrD (Qqm K)) (Qqm K)
def QDi:Qb:=Qblk 0 (QKK K)
def Qhb (m:List TOp') (i:Int):Prop:=Loop Qkh 0 Qqr Qsc (QDi K) ⟨[(1,(.p 0 0 0)),(3,(zci i))],[(0,(.box [(zcs ctOp m)]))],1⟩
theorem QsS (m:List TOp') (i:Int) (h :
 (zif (decide (i<(m.length:Int))) ((((0:Int)≤i∧Int.toNat i<m.length)∧((!(!(Ze (gtd dOp m (Int.toNat i)))))=true→((decide (i>(0:Int)))=true→(((0:Int)≤i∧Int.toNat i<m.length)∧((0:Int)≤w64 (i-(1:Int))∧Int.toNat (w64 (i-(1:Int)))<m.length)))))∧(zif ((!(Ze (gtd dOp m (Int.toNat i))))||((decide (i>(0:Int)))&&(((gtd dOp m (Int.toNat i)).2.1) != ((gtd dOp m (Int.toNat (w64 (i-(1:Int))))).2.2.1)))) (K (Qcr false)) (Qhb K m (w64 (i+(1:Int)))))) (K (Qcr (m_in (m.length:Int) (1:Int) (8:Int)))))):Qhb K m i :=
 Loop.of (by kernel_rfl) h
theorem QBp (m:List TOp') (h :
 (Qhb K m 0)):Hold (tawp Qkh (0+0) QI5 (TQ 0 0 QoQ K) (Qf [(.a [(.c (.sl ctOp) m)])])) :=
 Hold.of (by kernel_rfl) h
theorem QEz (m:List TOp'):TCon Tryz.prog 74 [(.a [(.c (.sl ctOp) m)])] (Qcr (QE m)):=by
 refine Qr rfl fun hb=>tcg (n:=42) (sg:=QbC.sg) Qk (TOk.cons QCj (TOk.cons JM TOk.nil)) (by kernel_rfl) (by kernel_rfl) (QBp _ m ?_)
 have hl_m_0:(m).length≤9223372036854775807:=hb.1.1.1
 refine Zz m (fun r k=>Ym (QaJ m k) r=Ym none m→Qhb (fun r'=>r'=Qcr (QE m)) m k) ?_ ?_ rfl
 ·intro he
  refine QsS (fun r'=>r'=Qcr (QE m)) m _ ⟨fun h=>by simp at h,fun _=>?_⟩
  grind [Ym,QE]
 ·intro k x r hk hlt hg ih he
  refine QsS (fun r'=>r'=Qcr (QE m)) m _ ⟨fun _=>?_,fun h=>by simp at h;omega⟩
  rw [Int.toNat_natCast,hg,Qp (x:=(k:Int)+1) (by omega) (by omega)]
  have ep:QaJ m (k+1)=some x.2.2.1:=by simp [QaJ,hg]
  rw [ep] at ih
  rcases Nat.eq_zero_or_pos k with h0 | h0
  ·subst h0
   simp only [Ym,QaJ,if_true] at he
   grind [QE]
  ·have e2:=QaD h0 (by omega:k≤9223372036854775807)
   simp only [Ym,QaJ,if_neg (Nat.ne_of_gt h0)] at he
   grind [QE]
theorem Qdn:Qj Tryz.prog QbC:=Ql fun x _=>QEz x.1
def QbV (t:Bool):TRes:=zre (zcb t)
def JX:TRow:=Qi 131 [(.a [(.sl ctOp)])] fun x=>(none,QbV (QE x.1))
def Qli:List TRow:=[Qff]
def QtV:TCode :=
 (zsq [(.reg [zbi 19 .lss 18 17]),(.cond 19 .skip (.exit 0)),(.block 1 (zsq [(.reg [zmv 20 18,zia 21 16 18 ctOp,zLd 22 21 4,zop 4 (.new 69 (z0s ctOp)),zmv 3 20,zst 4 22 4]),(.draw [zLd 23 4 4,zca 24 194 [23],zno 25 24,zmv 26 25,.grp 26 false [zmv 27 3,zbi 28 .gtr 27 (zki 0),zmv 29 28,.grp 29 true [zfa 30 1 0,zld 31 30 1,zmv 32 3,zbi 33 .sub 32 (zki 1),zia 34 31 33 ctOp,zfa 35 34 2,zld 36 35 1,zfa 37 4 1,zld 38 37 1,zbi 39 .neq 36 38] 40 39] 41 40] []),(.cond 41 (zsq [(.reg [zmv 2 (zkb false)]),.ret]) .skip)])),(.reg [zbi 42 .add 18 (zki 1),zmv 18 42])])
def Qpp:List (Nat × Md):=[(1,.b [.d]),(16,.one .d),(17,.one .d),(18,.one .d)]
def QuV:TCode :=
 (zsq [(.reg [zmv 2 (zkb true)]),.ret])
def QBC:TCode :=
 (zsq [(.reg [zop 1 (.box 26 0 1),zmv 2 (zkb false)]),(zsq [(.reg [zfa 5 1 0,zld 6 5 1,zle 7 6,zbi 8 .lss 7 (zki 1),zmv 9 8,.grp 9 false [zfa 10 1 0,zld 11 10 1,zle 12 11,zbi 13 .gtr 12 (zki 8)] 14 13]),(.cond 14 (zsq [(.reg [zmv 2 (zkb false)]),.ret]) .skip)]),(zsq [(.reg [zfa 15 1 0,zld 16 15 1,zle 17 16,zmv 18 (zki 0)]),(.block 0 (.loop Qpp QtV))]),QuV])
def Qrf:List (ARv × Md):=[(.t 2,.one .d)]
def QwJ:Qb:=TQ 0 0 Qrf K
def QC2:Qb:=Qseq (tawp Qli 0 QuV (QwJ K)) (QwJ K)
def QPS:Qb:=Qblk 0 (QC2 K)
def QiP (m:List TOp') (x:Int):Prop:=Loop Qli 0 Qpp QtV (QPS K) ⟨[(1,(.p 0 0 0)),(16,(zcs ctOp m)),(17,(zci (m.length:Int))),(18,(zci x))],[(0,(.box [(zcs ctOp m)]))],1⟩
theorem Qqv (m:List TOp') (x:Int) (h :
 (zif (decide (x<(m.length:Int))) (((0:Int)≤x∧Int.toNat x<m.length)∧(((!(!(Ze (gtd dOp m (Int.toNat x)))))=true→((decide (x>(0:Int)))=true→((0:Int)≤w64 (x-(1:Int))∧Int.toNat (w64 (x-(1:Int)))<m.length)))∧(zif ((!(Ze (gtd dOp m (Int.toNat x))))||((decide (x>(0:Int)))&&(((gtd dOp m (Int.toNat (w64 (x-(1:Int))))).2.2.1) != ((gtd dOp m (Int.toNat x)).2.1)))) (K (QbV false)) (QiP K m (w64 (x+(1:Int))))))) (K (QbV true)))):QiP K m x :=
 Loop.of (by kernel_rfl) h
theorem QKu (m:List TOp') (h :
 (zif ((decide ((m.length:Int)<(1:Int)))||(decide ((m.length:Int)>(8:Int)))) (K (QbV false)) (QiP K m 0))):Hold (tawp Qli (0+0) QBC (TQ 0 0 Qrf K) (Qf [(.a [(.c (.sl ctOp) m)])])) :=
 Hold.of (by kernel_rfl) h
theorem QFS (m:List TOp'):TCon Tryz.prog 131 [(.a [(.c (.sl ctOp) m)])] (QbV (QE m)):=by
 refine Qr rfl fun hb=>tcg (n:=43) (sg:=JX.sg) Qk (TOk.cons Qju TOk.nil) (by kernel_rfl) (by kernel_rfl) (QKu _ m ?_)
 have hl_m_0:(m).length≤9223372036854775807:=hb.1.1.1
 refine ⟨fun h=>R_eq (by grind [QE,m_in]),fun h=>?_⟩
 have hin:m_in m.length 1 8=true:=by grind [m_in]
 refine Zz m (fun r k=>Ym (QaJ m k) r=Ym none m→QiP (fun r'=>r'=QbV (QE m)) m k) ?_ ?_ rfl
 ·intro he
  refine Qqv (fun r'=>r'=QbV (QE m)) m _ ⟨fun h=>by simp at h,fun _=>?_⟩
  grind [Ym,QE]
 ·intro k x r hk hlt hg ih he
  refine Qqv (fun r'=>r'=QbV (QE m)) m _ ⟨fun _=>?_,fun h=>by simp at h;omega⟩
  rw [Int.toNat_natCast,hg,Qp (x:=(k:Int)+1) (by omega) (by omega)]
  have ep:QaJ m (k+1)=some x.2.2.1:=by simp [QaJ,hg]
  rw [ep] at ih
  rcases Nat.eq_zero_or_pos k with h0 | h0
  ·subst h0
   simp only [Ym,QaJ,if_true] at he
   grind [QE]
  ·have e2:=QaD h0 (by omega:k≤9223372036854775807)
   simp only [Ym,QaJ,if_neg (Nat.ne_of_gt h0)] at he
   grind [QE]
theorem Qar:Qj Tryz.prog JX:=Ql fun x _=>QFS x.1
def Qf6 (t:Int):TRes:=zre (zci t)
def Qc7:TRow:=Qi 115 [(.a [(.sl ctOp)])] fun x=>(none,Qf6 (QX x.1))
def QGw:List TRow:=[JX]
def QDg:TCode :=
 (zsq [(.reg [zop 1 (.box 26 0 1),zmv 2 (zki 0)]),(zsq [(.reg [zLd 3 1 1,zca 4 131 [3],zno 5 4]),(.cond 5 (zsq [(.reg [zmv 2 (zki 0)]),.ret]) .skip)]),(.reg [zfa 6 1 0,zld 7 6 1,zia 8 7 (zki 0) ctOp,zfa 9 8 1,zld 10 9 1,zmv 2 10]),.ret])
def QFf:List (ARv × Md):=[(.t 2,.one .d)]
theorem QNp (m:List TOp') (h :
 (zif (!(QE m)) (K (Qf6 (0:Int))) (((0:Int)≤(0:Int)∧Int.toNat (0:Int)<m.length)∧K (Qf6 ((gtd dOp m (Int.toNat (0:Int))).2.1))))):Hold (tawp QGw (0+0) QDg (TQ 0 0 QFf K) (Qf [(.a [(.c (.sl ctOp) m)])])) :=
 Hold.of (by kernel_rfl) h
theorem QOf (m:List TOp'):TCon Tryz.prog 115 [(.a [(.c (.sl ctOp) m)])] (Qf6 (QX m)):=by
 refine Qr rfl fun hb=>tcg (n:=11) (sg:=Qc7.sg) Qk (TOk.cons Qar TOk.nil) (by kernel_rfl) (by kernel_rfl) (QNp _ m ?_)
 have hl_m_0:(m).length≤9223372036854775807:=hb.1.1.1
 refine ⟨fun h=>R_eq (by grind [QX]),fun h=>?_⟩
 have:=YM (m:=m) (by simpa using h)
 exact ⟨⟨by omega,by simp;omega⟩,R_eq (by simp at h;simp [QX,h])⟩
theorem QgF:Qj Tryz.prog Qc7:=Ql fun x _=>QOf x.1
def QfM (t:Int):TRes:=zre (zci t)
def QhC:TRow:=Qi 153 [(.a [(.sl ctOp)])] fun x=>(none,QfM (QX x.1))
def QLh:List TRow:=[QbC]
def QFO:TCode :=
 (zsq [(.reg [zop 1 (.box 26 0 1),zmv 2 (zki 0)]),(zsq [(.reg [zLd 3 1 1,zca 4 74 [3],zno 5 4]),(.cond 5 (zsq [(.reg [zmv 2 (zki 0)]),.ret]) .skip)]),(.reg [zfa 6 1 0,zld 7 6 1,zia 8 7 (zki 0) ctOp,zfa 9 8 1,zld 10 9 1,zmv 2 10]),.ret])
def QCM:List (ARv × Md):=[(.t 2,.one .d)]
theorem QJQ (m:List TOp') (h :
 (zif (!(QE m)) (K (QfM (0:Int))) (((0:Int)≤(0:Int)∧Int.toNat (0:Int)<m.length)∧K (QfM ((gtd dOp m (Int.toNat (0:Int))).2.1))))):Hold (tawp QLh (0+0) QFO (TQ 0 0 QCM K) (Qf [(.a [(.c (.sl ctOp) m)])])) :=
 Hold.of (by kernel_rfl) h
theorem Qz9 (m:List TOp'):TCon Tryz.prog 153 [(.a [(.c (.sl ctOp) m)])] (QfM (QX m)):=by
 refine Qr rfl fun hb=>tcg (n:=11) (sg:=QhC.sg) Qk (TOk.cons Qdn TOk.nil) (by kernel_rfl) (by kernel_rfl) (QJQ _ m ?_)
 have hl_m_0:(m).length≤9223372036854775807:=hb.1.1.1
 refine ⟨fun h=>R_eq (by grind [QX]),fun h=>?_⟩
 have:=YM (m:=m) (by simpa using h)
 exact ⟨⟨by omega,by simp;omega⟩,R_eq (by simp at h;simp [QX,h])⟩
theorem Qyw:Qj Tryz.prog QhC:=Ql fun x _=>Qz9 x.1
def Qg8 (t:Int):TRes:=zre (zci t)
def Qde:TRow:=Qi 117 [(.a [(.sl ctOp)])] fun x=>(none,Qg8 (Q1 x.1))
def QHr:List TRow:=[JX]
def QNf:TCode :=
 (zsq [(.reg [zop 1 (.box 26 0 1),zmv 2 (zki 0)]),(zsq [(.reg [zLd 3 1 1,zca 4 131 [3],zno 5 4]),(.cond 5 (zsq [(.reg [zmv 2 (zki 0)]),.ret]) .skip)]),(.reg [zfa 6 1 0,zld 7 6 1,zfa 8 1 0,zld 9 8 1,zle 10 9,zbi 11 .sub 10 (zki 1),zia 12 7 11 ctOp,zfa 13 12 2,zld 14 13 1,zmv 2 14]),.ret])
def QNs:List (ARv × Md):=[(.t 2,.one .d)]
theorem QD5 (m:List TOp') (h :
 (zif (!(QE m)) (K (Qg8 (0:Int))) (((0:Int)≤w64 ((m.length:Int)-(1:Int))∧Int.toNat (w64 ((m.length:Int)-(1:Int)))<m.length)∧K (Qg8 ((gtd dOp m (Int.toNat (w64 ((m.length:Int)-(1:Int))))).2.2.1))))):Hold (tawp QHr (0+0) QNf (TQ 0 0 QNs K) (Qf [(.a [(.c (.sl ctOp) m)])])) :=
 Hold.of (by kernel_rfl) h
theorem QPA (m:List TOp'):TCon Tryz.prog 117 [(.a [(.c (.sl ctOp) m)])] (Qg8 (Q1 m)):=by
 refine Qr rfl fun hb=>tcg (n:=15) (sg:=Qde.sg) Qk (TOk.cons Qar TOk.nil) (by kernel_rfl) (by kernel_rfl) (QD5 _ m ?_)
 have hl_m_0:(m).length≤9223372036854775807:=hb.1.1.1
 refine ⟨fun h=>R_eq (by grind [Q1]),fun h=>?_⟩
 have:=YM (m:=m) (by simpa using h)
 have e:=QaD this.1 (by omega:m.length≤9223372036854775807)
 rw [e.1]
 exact ⟨⟨e.2,by omega⟩,R_eq (by simp at h;simp [Q1,h])⟩
theorem QiR:Qj Tryz.prog Qde:=Ql fun x _=>QPA x.1
def Qgv (t:Int):TRes:=zre (zci t)
def Qf8:TRow:=Qi 154 [(.a [(.sl ctOp)])] fun x=>(none,Qgv (Q1 x.1))
def QJz:List TRow:=[QbC]
def QN2:TCode :=
 (zsq [(.reg [zop 1 (.box 26 0 1),zmv 2 (zki 0)]),(zsq [(.reg [zLd 3 1 1,zca 4 74 [3],zno 5 4]),(.cond 5 (zsq [(.reg [zmv 2 (zki 0)]),.ret]) .skip)]),(.reg [zfa 6 1 0,zld 7 6 1,zfa 8 1 0,zld 9 8 1,zle 10 9,zbi 11 .sub 10 (zki 1),zia 12 7 11 ctOp,zfa 13 12 2,zld 14 13 1,zmv 2 14]),.ret])
def QzB:List (ARv × Md):=[(.t 2,.one .d)]
theorem QIs (m:List TOp') (h :
 (zif (!(QE m)) (K (Qgv (0:Int))) (((0:Int)≤w64 ((m.length:Int)-(1:Int))∧Int.toNat (w64 ((m.length:Int)-(1:Int)))<m.length)∧K (Qgv ((gtd dOp m (Int.toNat (w64 ((m.length:Int)-(1:Int))))).2.2.1))))):Hold (tawp QJz (0+0) QN2 (TQ 0 0 QzB K) (Qf [(.a [(.c (.sl ctOp) m)])])) :=
 Hold.of (by kernel_rfl) h
theorem QOD (m:List TOp'):TCon Tryz.prog 154 [(.a [(.c (.sl ctOp) m)])] (Qgv (Q1 m)):=by
 refine Qr rfl fun hb=>tcg (n:=15) (sg:=Qf8.sg) Qk (TOk.cons Qdn TOk.nil) (by kernel_rfl) (by kernel_rfl) (QIs _ m ?_)
 have hl_m_0:(m).length≤9223372036854775807:=hb.1.1.1
 refine ⟨fun h=>R_eq (by grind [Q1]),fun h=>?_⟩
 have:=YM (m:=m) (by simpa using h)
 have e:=QaD this.1 (by omega:m.length≤9223372036854775807)
 rw [e.1]
 exact ⟨⟨e.2,by omega⟩,R_eq (by simp at h;simp [Q1,h])⟩
theorem Qwf:Qj Tryz.prog Qf8:=Ql fun x _=>QOD x.1
end
end Go.Proofs.YtjbdljkhbglnhaaGreat.Am

