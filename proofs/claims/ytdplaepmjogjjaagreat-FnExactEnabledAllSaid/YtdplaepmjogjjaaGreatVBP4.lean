/- -/
import Derived.Test.YtdplaepmjogjjaaGreatVBP1
namespace Go.Proofs.YtdplaepmjogjjaaGreat.Am
open Go Go.RowKit Go.Proofs.YtdplaepmjogjjaaGreat
set_option linter.all false
noncomputable section
variable (K:TRes→Prop)
def YZ (t:Int):TRes:=zre (zci t)
def QfS:TRow:=Qi 253 [(.a ctOp)] fun x=>(none,YZ (Zw x.1))
def Qez:TTab:=⟨[ZP],false⟩
def Qlf:TCode :=
 (.cond 15 (zsq [(.reg [zfa 18 1 1,zld 19 18 1,zfa 20 1 2,zld 21 20 1,zbi 22 .mul 19 21,zmv 2 22]),.ret]) (zsq [(.reg [zbi 24 .eql 14 (zki 2),zmv 23 24]),(.cond 23 (zsq [(.reg [zfa 25 1 1,zld 26 25 1,zmv 2 26]),.ret]) (zsq [(.reg [zbi 28 .eql 14 (zki 4),zmv 27 28]),(.cond 27 (zsq [(.reg [zmv 2 (zki 1)]),.ret]) .skip)]))]))
def QuQ:List (Nat × Md):=[(1,.b (zds 4)),(14,.one .d),(15,.one .d)]
def QDN:TCode:=.wk QuQ Qlf
def Qmw:TCode :=
 (zsq [(.reg [zmv 2 (zki 0)]),.ret])
def QvB:TCode :=
 (zsq [(.reg [zop 1 (.box 134 0 4),zmv 2 (zki 0)]),(zsq [(.reg [zfa 3 1 1,zld 4 3 1,zca 5 158 [4,(zki 1),(zki 6)],zno 6 5,zmv 7 6,.grp 7 false [zfa 8 1 2,zld 9 8 1,zca 10 158 [9,(zki 1),(zki 6)],zno 11 10] 12 11]),(.cond 12 (zsq [(.reg [zmv 2 (zki 0)]),.ret]) .skip)]),(zsq [(.reg [zfa 13 1 0,zld 14 13 1]),(.block 0 (zsq [(zsq [(.reg [zbi 16 .eql 14 (zki 1),zmv 15 16]),(.cond 15 .skip (.reg [zbi 17 .eql 14 (zki 5),zmv 15 17]))]),QDN]))]),Qmw])
def Qkw:List (ARv × Md):=[(.t 2,.one .d)]
def Qll:Qb:=TQ 0 0 Qkw K
def QxU:Qb:=Qseq (tawp Qez 0 Qmw (Qll K)) (Qll K)
def QCx:Qb:=Qblk 0 (QxU K)
@[irreducible] def Qgb (o:TOp') (x:Bool):Prop:=tawp Qez 0 Qlf (QCx K) ⟨[(1,(.p 0 0 0)),(14,(zci o.1)),(15,(zcb x))],[(0,(.box (Tup.cells ctOp o)))],1⟩
theorem Qlk (o:TOp') (x:Bool) (h :
 (zif x (K (YZ (w64 (o.2.1*o.2.2.1)))) (zif (o.1==(2:Int)) (K (YZ o.2.1)) (zif (o.1==(4:Int)) (K (YZ (1:Int))) (K (YZ (0:Int))))))):Hold (Qgb K o x) :=
 Hold.of (by kernel_rfl) h
theorem QtQ (o:TOp') (h :
 (zif ((!(m_in o.2.1 (1:Int) (6:Int)))||(!(m_in o.2.2.1 (1:Int) (6:Int)))) (K (YZ (0:Int))) (zif (o.1==(1:Int)) (Qgb K o (o.1==(1:Int))) (Qgb K o (o.1==(5:Int)))))):Hold (tawp Qez (0+0) QvB (TQ 0 0 Qkw K) (Qg [(.a (Tup.cells ctOp o))])) :=
 Hold.of (by kernel_rfl) h
theorem Qwh (o:TOp'):TCon Tryz.prog 253 [(.a (Tup.cells ctOp o))] (YZ (Zw o)):=by
 refine Qk rfl fun hb=>tcg (Γ:=Qez) (n:=29) (sg:=QfS.sg) Ql (TOkL.cons Yr TOkL.nil) (by kernel_rfl) (by kernel_rfl) (QtQ _ o ?_)
 have hl_o_3:(o.2.2.2).length≤9223372036854775807:=hb.1.2.2.2.1.1
 refine ⟨fun h=>R_eq (by grind [Zw]),fun h=>?_⟩
 have hi:m_in o.2.1 1 6=true∧m_in o.2.2.1 1 6=true:=by simpa using h
 have hm:=Ql0 (Q5.1 hi.1).1 (Q5.1 hi.1).2 (Q5.1 hi.2).1 (Q5.1 hi.2).2
 have hw:=Qw (x:=o.2.1*o.2.2.1) (by omega) (by omega)
 refine ⟨fun h1=>(Qlk (fun r'=>r'=YZ (Zw o)) o _ ?_).h,fun h1=>(Qlk (fun r'=>r'=YZ (Zw o)) o _ ?_).h⟩ <;> grind [Zw]
theorem Que:Qj Tryz.prog QfS:=Qn fun x _=>Qwh x.1
def YN (t:Int):TRes:=zre (zci t)
def QfL:TRow:=Qi 257 [(.a ctOp)] fun x=>(none,YN (Zw x.1))
def QdX:TTab:=⟨[],false⟩
def QkE:TCode :=
 (.cond 23 (zsq [(.reg [zfa 26 1 1,zld 27 26 1,zfa 28 1 2,zld 29 28 1,zbi 30 .mul 27 29,zmv 2 30]),.ret]) (zsq [(.reg [zbi 32 .eql 22 (zki 2),zmv 31 32]),(.cond 31 (zsq [(.reg [zfa 33 1 1,zld 34 33 1,zmv 2 34]),.ret]) (zsq [(.reg [zbi 36 .eql 22 (zki 4),zmv 35 36]),(.cond 35 (zsq [(.reg [zmv 2 (zki 1)]),.ret]) .skip)]))]))
def QEI:List (Nat × Md):=[(1,.b (zds 4)),(22,.one .d),(23,.one .d)]
def Qt9:TCode:=.wk QEI QkE
def Qkq:TCode :=
 (zsq [(.reg [zmv 2 (zki 0)]),.ret])
def QBO:TCode :=
 (zsq [(.reg [zop 1 (.box 134 0 4),zmv 2 (zki 0)]),(zsq [(.reg [zfa 3 1 1,zld 4 3 1,zbi 5 .lss 4 (zki 1),zmv 6 5,.grp 6 false [zfa 7 1 1,zld 8 7 1,zbi 9 .gtr 8 (zki 6)] 10 9,zmv 11 10,.grp 11 false [zfa 12 1 2,zld 13 12 1,zbi 14 .lss 13 (zki 1)] 15 14,zmv 16 15,.grp 16 false [zfa 17 1 2,zld 18 17 1,zbi 19 .gtr 18 (zki 6)] 20 19]),(.cond 20 (zsq [(.reg [zmv 2 (zki 0)]),.ret]) .skip)]),(zsq [(.reg [zfa 21 1 0,zld 22 21 1]),(.block 0 (zsq [(zsq [(.reg [zbi 24 .eql 22 (zki 1),zmv 23 24]),(.cond 23 .skip (.reg [zbi 25 .eql 22 (zki 5),zmv 23 25]))]),Qt9]))]),Qkq])
def Qni:List (ARv × Md):=[(.t 2,.one .d)]
def Qn7:Qb:=TQ 0 0 Qni K
def QsO:Qb:=Qseq (tawp QdX 0 Qkq (Qn7 K)) (Qn7 K)
def QzY:Qb:=Qblk 0 (QsO K)
@[irreducible] def Qf9 (o:TOp') (x:Bool):Prop:=tawp QdX 0 QkE (QzY K) ⟨[(1,(.p 0 0 0)),(22,(zci o.1)),(23,(zcb x))],[(0,(.box (Tup.cells ctOp o)))],1⟩
theorem Qje (o:TOp') (x:Bool) (h :
 (zif x (K (YN (w64 (o.2.1*o.2.2.1)))) (zif (o.1==(2:Int)) (K (YN o.2.1)) (zif (o.1==(4:Int)) (K (YN (1:Int))) (K (YN (0:Int))))))):Hold (Qf9 K o x) :=
 Hold.of (by kernel_rfl) h
theorem QzB (o:TOp') (h :
 (zif ((((decide (o.2.1<(1:Int)))||(decide (o.2.1>(6:Int))))||(decide (o.2.2.1<(1:Int))))||(decide (o.2.2.1>(6:Int)))) (K (YN (0:Int))) (zif (o.1==(1:Int)) (Qf9 K o (o.1==(1:Int))) (Qf9 K o (o.1==(5:Int)))))):Hold (tawp QdX (0+0) QBO (TQ 0 0 Qni K) (Qg [(.a (Tup.cells ctOp o))])) :=
 Hold.of (by kernel_rfl) h
theorem Qys (o:TOp'):TCon Tryz.prog 257 [(.a (Tup.cells ctOp o))] (YN (Zw o)):=by
 refine Qk rfl fun hb=>tcg (Γ:=QdX) (n:=37) (sg:=QfL.sg) Ql TOkL.nil (by kernel_rfl) (by kernel_rfl) (QzB _ o ?_)
 have hl_o_3:(o.2.2.2).length≤9223372036854775807:=hb.1.2.2.2.1.1
 refine ⟨fun h=>R_eq (by grind [Zw,m_in]),fun h=>?_⟩
 have hi:m_in o.2.1 1 6=true∧m_in o.2.2.1 1 6=true:=by grind [m_in]
 have hm:=Ql0 (Q5.1 hi.1).1 (Q5.1 hi.1).2 (Q5.1 hi.2).1 (Q5.1 hi.2).2
 have hw:=Qw (x:=o.2.1*o.2.2.1) (by omega) (by omega)
 refine ⟨fun h1=>(Qje (fun r'=>r'=YN (Zw o)) o _ ?_).h,fun h1=>(Qje (fun r'=>r'=YN (Zw o)) o _ ?_).h⟩ <;> grind [Zw]
theorem Qst:Qj Tryz.prog QfL:=Qn fun x _=>Qys x.1
def JE (t:Bool):TRes:=zre (zcb t)
def Qe9:TRow:=Qi 222 [(.a ctOp)] fun x=>(none,JE (Zj x.1))
def Qej:TTab:=⟨[ZP,QfS,Qeo],false⟩
def QmC:TCode :=
 (zsq [(zsq [(.reg [zmv 40 3,zfa 41 1 3,zld 42 41 1,zle 43 42,zbi 44 .lss 40 43]),(.cond 44 .skip (.exit 0))]),(.block 1 (zsq [(.reg [zfa 47 1 3,zld 48 47 1,zmv 49 3,zia 50 48 49 [TI],zld 51 50 1,zca 52 183 [51],zno 53 52]),(.cond 53 (zsq [(.reg [zmv 2 (zkb false)]),.ret]) .skip)])),(.reg [zmv 45 3,zbi 46 .add 45 (zki 1),zmv 3 46])])
def QmN:List (Nat × Md):=[(1,.b (zds 4)),(3,.one .d)]
def Qrj:TCode :=
 (zsq [(.reg [zmv 2 (zkb true)]),.ret])
def QAK:TCode :=
 (zsq [(.reg [zop 1 (.box 134 0 4),zmv 2 (zkb false)]),(zsq [(.draw [zfa 4 1 0,zld 5 4 1,zca 6 158 [5,(zki 1),(zki 5)],zno 7 6,zmv 8 7,.grp 8 false [zfa 9 1 1,zld 10 9 1,zca 11 158 [10,(zki 1),(zki 6)],zno 12 11] 13 12,zmv 14 13,.grp 14 false [zfa 15 1 2,zld 16 15 1,zca 17 158 [16,(zki 1),(zki 6)],zno 18 17] 19 18,zmv 20 19,.grp 20 false [zfa 21 1 0,zld 22 21 1,zbi 23 .neq 22 (zki 1),zmv 24 23,.grp 24 true [zfa 25 1 1,zld 26 25 1,zfa 27 1 2,zld 28 27 1,zbi 29 .neq 26 28] 30 29] 31 30,zmv 32 31,.grp 32 false [zfa 33 1 3,zld 34 33 1,zle 35 34,zLd 36 1 4,zca 37 253 [36],zbi 38 .neq 35 37] 39 38] [(29,33),(30,33),(31,33)]),(.cond 39 (zsq [(.reg [zmv 2 (zkb false)]),.ret]) .skip)]),(zsq [(.reg [zmv 3 (zki 0)]),(.block 0 (.loop QmN QmC))]),Qrj])
def Qmo:List (ARv × Md):=[(.t 2,.one .d)]
def Qrz:Qb:=TQ 0 0 Qmo K
def QvN:Qb:=Qseq (tawp Qej 0 Qrj (Qrz K)) (Qrz K)
def QB9:Qb:=Qblk 0 (QvN K)
def Qhh (o:TOp') (i:Int):Prop:=Loop Qej 0 QmN QmC (QB9 K) ⟨[(1,(.p 0 0 0)),(3,(zci i))],[(0,(.box (Tup.cells ctOp o)))],1⟩
theorem Qxm (o:TOp') (i:Int) (h :
 (zif (decide (i<((o.2.2.2).length:Int))) (((0:Int)≤i∧Int.toNat i<(o.2.2.2).length)∧(zif (!(Zq (gtd (0:Int) o.2.2.2 (Int.toNat i)))) (K (JE false)) (Qhh K o (w64 (i+(1:Int)))))) (K (JE true)))):Qhh K o i :=
 Loop.of (by kernel_rfl) h
theorem QDQ (o:TOp') (h :
 (zif (((((!(m_in o.1 (1:Int) (5:Int)))||(!(m_in o.2.1 (1:Int) (6:Int))))||(!(m_in o.2.2.1 (1:Int) (6:Int))))||((o.1 != (1:Int))&&(o.2.1 != o.2.2.1)))||(((o.2.2.2).length:Int) != (Zw o))) (K (JE false)) (Qhh K o 0))):Hold (tawp Qej (0+0) QAK (TQ 0 0 Qmo K) (Qg [(.a (Tup.cells ctOp o))])) :=
 Hold.of (by kernel_rfl) h
theorem Qzl (o:TOp'):TCon Tryz.prog 222 [(.a (Tup.cells ctOp o))] (JE (Zj o)):=by
 refine Qk rfl fun hb=>tcg (Γ:=Qej) (n:=54) (sg:=Qe9.sg) Ql (TOkL.cons Yr (TOkL.cons Que (TOkL.cons QlY TOkL.nil))) (by kernel_rfl) (by kernel_rfl) (QDQ _ o ?_)
 have hl_o_3:(o.2.2.2).length≤9223372036854775807:=hb.1.2.2.2.1.1
 refine ⟨fun h=>R_eq (by grind [Zj]),fun h=>?_⟩
 exact Qac (Q:=fun x=>JE x=JE (Zj o)) (p:=Zq) (c:=fun x=>!(Zq x)) 0 hl_o_3 (fun _=>rfl) (fun i h=>Qxm (fun r'=>r'=JE (Zj o)) o i h) (R_eq (by grind [Zj,Z6]))
theorem Qy6:Qj Tryz.prog Qe9:=Qn fun x _=>Qzl x.1
def Qby (t:Bool):TRes:=zre (zcb t)
def Qht:TRow:=Qi 228 [(.a ctOp)] fun x=>(none,Qby (Zj x.1))
def Qoa:TTab:=⟨[QfL,QdR],false⟩
def QDy:TCode :=
 (zsq [(.reg [zop 1 (.box 134 0 4),zmv 2 (zkb false)]),(zsq [(.reg [zfa 3 1 0,zld 4 3 1,zbi 5 .lss 4 (zki 1),zmv 6 5,.grp 6 false [zfa 7 1 0,zld 8 7 1,zbi 9 .gtr 8 (zki 5)] 10 9,zmv 11 10,.grp 11 false [zfa 12 1 1,zld 13 12 1,zbi 14 .lss 13 (zki 1)] 15 14,zmv 16 15,.grp 16 false [zfa 17 1 1,zld 18 17 1,zbi 19 .gtr 18 (zki 6)] 20 19,zmv 21 20,.grp 21 false [zfa 22 1 2,zld 23 22 1,zbi 24 .lss 23 (zki 1)] 25 24,zmv 26 25,.grp 26 false [zfa 27 1 2,zld 28 27 1,zbi 29 .gtr 28 (zki 6)] 30 29]),(.cond 30 (zsq [(.reg [zmv 2 (zkb false)]),.ret]) .skip)]),(zsq [(.reg [zfa 31 1 0,zld 32 31 1,zbi 33 .neq 32 (zki 1),zmv 34 33,.grp 34 true [zfa 35 1 1,zld 36 35 1,zfa 37 1 2,zld 38 37 1,zbi 39 .neq 36 38] 40 39]),(.cond 40 (zsq [(.reg [zmv 2 (zkb false)]),.ret]) .skip)]),(.draw [zfa 41 1 3,zld 42 41 1,zle 43 42,zLd 44 1 4,zca 45 257 [44],zbi 46 .eql 43 45,zmv 47 46,.grp 47 true [zfa 48 1 3,zld 49 48 1,zca 50 238 [49]] 51 50,zmv 2 51] [(0,4),(1,4),(2,4)]),.ret])
def QEK:List (ARv × Md):=[(.t 2,.one .d)]
theorem QtU (o:TOp') (h :
 (zif ((((((decide (o.1<(1:Int)))||(decide (o.1>(5:Int))))||(decide (o.2.1<(1:Int))))||(decide (o.2.1>(6:Int))))||(decide (o.2.2.1<(1:Int))))||(decide (o.2.2.1>(6:Int)))) (K (Qby false)) (zif ((o.1 != (1:Int))&&(o.2.1 != o.2.2.1)) (K (Qby false)) (K (Qby ((((o.2.2.2).length:Int)==(Zw o))&&(Z6 o.2.2.2))))))):Hold (tawp Qoa (0+0) QDy (TQ 0 0 QEK K) (Qg [(.a (Tup.cells ctOp o))])) :=
 Hold.of (by kernel_rfl) h
theorem QBk (o:TOp'):TCon Tryz.prog 228 [(.a (Tup.cells ctOp o))] (Qby (Zj o)):=by
 refine Qk rfl fun hb=>tcg (Γ:=Qoa) (n:=52) (sg:=Qht.sg) Ql (TOkL.cons Qst (TOkL.cons Qja TOkL.nil)) (by kernel_rfl) (by kernel_rfl) (QtU _ o ?_)
 have hl_o_3:(o.2.2.2).length≤9223372036854775807:=hb.1.2.2.2.1.1
 grind [Zj,m_in]
theorem QtK:Qj Tryz.prog Qht:=Qn fun x _=>QBk x.1
def Qaj (t:Bool):TRes:=zre (zcb t)
def QfD:TRow:=Qi 157 [(.a [(.sl ctOp)])] fun x=>(none,Qaj (QL x.1))
def QdM:TTab:=⟨[Qe9,ZP],false⟩
def Qpl:TCode :=
 (zsq [(zsq [(.reg [zmv 4 3,zfa 5 1 0,zld 6 5 1,zle 7 6,zbi 8 .lss 4 7]),(.cond 8 .skip (.exit 0))]),(.block 1 (zsq [(.draw [zfa 11 1 0,zld 12 11 1,zmv 13 3,zia 14 12 13 ctOp,zLd 15 14 4,zca 16 222 [15],zno 17 16,zmv 18 17,.grp 18 false [zmv 19 3,zbi 20 .gtr 19 (zki 0),zmv 21 20,.grp 21 true [zfa 22 1 0,zld 23 22 1,zmv 24 3,zia 25 23 24 ctOp,zfa 26 25 1,zld 27 26 1,zfa 28 1 0,zld 29 28 1,zmv 30 3,zbi 31 .sub 30 (zki 1),zia 32 29 31 ctOp,zfa 33 32 2,zld 34 33 1,zbi 35 .neq 27 34] 36 35] 37 36] []),(.cond 37 (zsq [(.reg [zmv 2 (zkb false)]),.ret]) .skip)])),(.reg [zmv 9 3,zbi 10 .add 9 (zki 1),zmv 3 10])])
def Qlr:List (Nat × Md):=[(1,.b [.d]),(3,.one .d)]
def QqI:TCode :=
 (zsq [(.reg [zfa 38 1 0,zld 39 38 1,zle 40 39,zca 41 158 [40,(zki 1),(zki 8)],zmv 2 41]),.ret])
def QvI:TCode :=
 (zsq [(.reg [zop 1 (.box 77 0 1),zmv 2 (zkb false)]),(zsq [(.reg [zmv 3 (zki 0)]),(.block 0 (.loop Qlr Qpl))]),QqI])
def QnX:List (ARv × Md):=[(.t 2,.one .d)]
def QjH:Qb:=TQ 0 0 QnX K
def Qyk:Qb:=Qseq (tawp QdM 0 QqI (QjH K)) (QjH K)
def QtP:Qb:=Qblk 0 (Qyk K)
def QeF (m:List TOp') (i:Int):Prop:=Loop QdM 0 Qlr Qpl (QtP K) ⟨[(1,(.p 0 0 0)),(3,(zci i))],[(0,(.box [(zcs ctOp m)]))],1⟩
theorem Qp0 (m:List TOp') (i:Int) (h :
 (zif (decide (i<(m.length:Int))) ((((0:Int)≤i∧Int.toNat i<m.length)∧((!(!(Zj (gtd dOp m (Int.toNat i)))))=true→((decide (i>(0:Int)))=true→(((0:Int)≤i∧Int.toNat i<m.length)∧((0:Int)≤w64 (i-(1:Int))∧Int.toNat (w64 (i-(1:Int)))<m.length)))))∧(zif ((!(Zj (gtd dOp m (Int.toNat i))))||((decide (i>(0:Int)))&&(((gtd dOp m (Int.toNat i)).2.1) != ((gtd dOp m (Int.toNat (w64 (i-(1:Int))))).2.2.1)))) (K (Qaj false)) (QeF K m (w64 (i+(1:Int)))))) (K (Qaj (m_in (m.length:Int) (1:Int) (8:Int)))))):QeF K m i :=
 Loop.of (by kernel_rfl) h
theorem Qx1 (m:List TOp') (h :
 (QeF K m 0)):Hold (tawp QdM (0+0) QvI (TQ 0 0 QnX K) (Qg [(.a [(.c (.sl ctOp) m)])])) :=
 Hold.of (by kernel_rfl) h
theorem QFL (m:List TOp'):TCon Tryz.prog 157 [(.a [(.c (.sl ctOp) m)])] (Qaj (QL m)):=by
 refine Qk rfl fun hb=>tcg (Γ:=QdM) (n:=42) (sg:=QfD.sg) Ql (TOkL.cons Qy6 (TOkL.cons Yr TOkL.nil)) (by kernel_rfl) (by kernel_rfl) (Qx1 _ m ?_)
 have hl_m_0:(m).length≤9223372036854775807:=hb.1.1.1
 refine Zp m (fun r k=>Zt (Yf m k) r=Zt none m→QeF (fun r'=>r'=Qaj (QL m)) m k) ?_ ?_ rfl
 ·intro he
  refine Qp0 (fun r'=>r'=Qaj (QL m)) m _ ⟨fun h=>by simp at h,fun _=>?_⟩
  grind [Zt,QL]
 ·intro k x r hk hlt hg ih he
  refine Qp0 (fun r'=>r'=Qaj (QL m)) m _ ⟨fun _=>?_,fun h=>by simp at h;omega⟩
  rw [Int.toNat_natCast,hg,Qw (x:=(k:Int)+1) (by omega) (by omega)]
  have ep:Yf m (k+1)=some x.2.2.1:=by simp [Yf,hg]
  rw [ep] at ih
  rcases Nat.eq_zero_or_pos k with h0 | h0
  ·subst h0
   simp only [Zt,Yf,if_true] at he
   grind [QL]
  ·have e2:=JJ h0 (by omega:k≤9223372036854775807)
   simp only [Zt,Yf,if_neg (Nat.ne_of_gt h0)] at he
   grind [QL]
theorem QwP:Qj Tryz.prog QfD:=Qn fun x _=>QFL x.1
def Jv (t:Bool):TRes:=zre (zcb t)
def QbQ:TRow:=Qi 167 [(.a [(.sl ctOp)])] fun x=>(none,Jv (QL x.1))
def QeQ:TTab:=⟨[Qht],false⟩
def QmH:TCode :=
 (zsq [(.reg [zbi 19 .lss 18 17]),(.cond 19 .skip (.exit 0)),(.block 1 (zsq [(.reg [zmv 20 18,zia 21 16 18 ctOp,zLd 22 21 4,zop 4 (.new 134 (z0s ctOp)),zmv 3 20,zst 4 22 4]),(.draw [zLd 23 4 4,zca 24 228 [23],zno 25 24,zmv 26 25,.grp 26 false [zmv 27 3,zbi 28 .gtr 27 (zki 0),zmv 29 28,.grp 29 true [zfa 30 1 0,zld 31 30 1,zmv 32 3,zbi 33 .sub 32 (zki 1),zia 34 31 33 ctOp,zfa 35 34 2,zld 36 35 1,zfa 37 4 1,zld 38 37 1,zbi 39 .neq 36 38] 40 39] 41 40] []),(.cond 41 (zsq [(.reg [zmv 2 (zkb false)]),.ret]) .skip)])),(.reg [zbi 42 .add 18 (zki 1),zmv 18 42])])
def Qkf:List (Nat × Md):=[(1,.b [.d]),(16,.one .d),(17,.one .d),(18,.one .d)]
def Qqf:TCode :=
 (zsq [(.reg [zmv 2 (zkb true)]),.ret])
def QDZ:TCode :=
 (zsq [(.reg [zop 1 (.box 77 0 1),zmv 2 (zkb false)]),(zsq [(.reg [zfa 5 1 0,zld 6 5 1,zle 7 6,zbi 8 .lss 7 (zki 1),zmv 9 8,.grp 9 false [zfa 10 1 0,zld 11 10 1,zle 12 11,zbi 13 .gtr 12 (zki 8)] 14 13]),(.cond 14 (zsq [(.reg [zmv 2 (zkb false)]),.ret]) .skip)]),(zsq [(.reg [zfa 15 1 0,zld 16 15 1,zle 17 16,zmv 18 (zki 0)]),(.block 0 (.loop Qkf QmH))]),Qqf])
def QjP:List (ARv × Md):=[(.t 2,.one .d)]
def QoR:Qb:=TQ 0 0 QjP K
def QyJ:Qb:=Qseq (tawp QeQ 0 Qqf (QoR K)) (QoR K)
def QCR:Qb:=Qblk 0 (QyJ K)
def QeH (m:List TOp') (x:Int):Prop:=Loop QeQ 0 Qkf QmH (QCR K) ⟨[(1,(.p 0 0 0)),(16,(zcs ctOp m)),(17,(zci (m.length:Int))),(18,(zci x))],[(0,(.box [(zcs ctOp m)]))],1⟩
theorem Qla (m:List TOp') (x:Int) (h :
 (zif (decide (x<(m.length:Int))) (((0:Int)≤x∧Int.toNat x<m.length)∧(((!(!(Zj (gtd dOp m (Int.toNat x)))))=true→((decide (x>(0:Int)))=true→((0:Int)≤w64 (x-(1:Int))∧Int.toNat (w64 (x-(1:Int)))<m.length)))∧(zif ((!(Zj (gtd dOp m (Int.toNat x))))||((decide (x>(0:Int)))&&(((gtd dOp m (Int.toNat (w64 (x-(1:Int))))).2.2.1) != ((gtd dOp m (Int.toNat x)).2.1)))) (K (Jv false)) (QeH K m (w64 (x+(1:Int))))))) (K (Jv true)))):QeH K m x :=
 Loop.of (by kernel_rfl) h
theorem QsV (m:List TOp') (h :
 (zif ((decide ((m.length:Int)<(1:Int)))||(decide ((m.length:Int)>(8:Int)))) (K (Jv false)) (QeH K m 0))):Hold (tawp QeQ (0+0) QDZ (TQ 0 0 QjP K) (Qg [(.a [(.c (.sl ctOp) m)])])) :=
 Hold.of (by kernel_rfl) h
theorem QFF (m:List TOp'):TCon Tryz.prog 167 [(.a [(.c (.sl ctOp) m)])] (Jv (QL m)):=by
 refine Qk rfl fun hb=>tcg (Γ:=QeQ) (n:=43) (sg:=QbQ.sg) Ql (TOkL.cons QtK TOkL.nil) (by kernel_rfl) (by kernel_rfl) (QsV _ m ?_)
 have hl_m_0:(m).length≤9223372036854775807:=hb.1.1.1
 refine ⟨fun h=>R_eq (by grind [QL,m_in]),fun h=>?_⟩
 have hin:m_in m.length 1 8=true:=by grind [m_in]
 refine Zp m (fun r k=>Zt (Yf m k) r=Zt none m→QeH (fun r'=>r'=Jv (QL m)) m k) ?_ ?_ rfl
 ·intro he
  refine Qla (fun r'=>r'=Jv (QL m)) m _ ⟨fun h=>by simp at h,fun _=>?_⟩
  grind [Zt,QL]
 ·intro k x r hk hlt hg ih he
  refine Qla (fun r'=>r'=Jv (QL m)) m _ ⟨fun _=>?_,fun h=>by simp at h;omega⟩
  rw [Int.toNat_natCast,hg,Qw (x:=(k:Int)+1) (by omega) (by omega)]
  have ep:Yf m (k+1)=some x.2.2.1:=by simp [Yf,hg]
  rw [ep] at ih
  rcases Nat.eq_zero_or_pos k with h0 | h0
  ·subst h0
   simp only [Zt,Yf,if_true] at he
   grind [QL]
  ·have e2:=JJ h0 (by omega:k≤9223372036854775807)
   simp only [Zt,Yf,if_neg (Nat.ne_of_gt h0)] at he
   grind [QL]
theorem QfT:Qj Tryz.prog QbQ:=Qn fun x _=>QFF x.1
def QeL (t:Int):TRes:=zre (zci t)
def Qis:TRow:=Qi 101 [(.a [(.sl ctOp)])] fun x=>(none,QeL (Z9 x.1))
def Qku:TTab:=⟨[QbQ],false⟩
def QEB:TCode :=
 (zsq [(.reg [zop 1 (.box 77 0 1),zmv 2 (zki 0)]),(zsq [(.reg [zLd 3 1 1,zca 4 167 [3],zno 5 4]),(.cond 5 (zsq [(.reg [zmv 2 (zki 0)]),.ret]) .skip)]),(.reg [zfa 6 1 0,zld 7 6 1,zia 8 7 (zki 0) ctOp,zfa 9 8 1,zld 10 9 1,zmv 2 10]),.ret])
def QtW:List (ARv × Md):=[(.t 2,.one .d)]
theorem QCr (m:List TOp') (h :
 (zif (!(QL m)) (K (QeL (0:Int))) (((0:Int)≤(0:Int)∧Int.toNat (0:Int)<m.length)∧K (QeL ((gtd dOp m (Int.toNat (0:Int))).2.1))))):Hold (tawp Qku (0+0) QEB (TQ 0 0 QtW K) (Qg [(.a [(.c (.sl ctOp) m)])])) :=
 Hold.of (by kernel_rfl) h
theorem QyL (m:List TOp'):TCon Tryz.prog 101 [(.a [(.c (.sl ctOp) m)])] (QeL (Z9 m)):=by
 refine Qk rfl fun hb=>tcg (Γ:=Qku) (n:=11) (sg:=Qis.sg) Ql (TOkL.cons QfT TOkL.nil) (by kernel_rfl) (by kernel_rfl) (QCr _ m ?_)
 have hl_m_0:(m).length≤9223372036854775807:=hb.1.1.1
 refine ⟨fun h=>R_eq (by grind [Z9]),fun h=>?_⟩
 have:=Qb0 (m:=m) (by simpa using h)
 exact ⟨⟨by omega,by simp;omega⟩,R_eq (by simp at h;simp [Z9,h])⟩
theorem QyX:Qj Tryz.prog Qis:=Qn fun x _=>QyL x.1
def Qd1 (t:Int):TRes:=zre (zci t)
def QgW:TRow:=Qi 102 [(.a [(.sl ctOp)])] fun x=>(none,Qd1 (Z8 x.1))
def QlH:TTab:=⟨[QbQ],false⟩
def QAw:TCode :=
 (zsq [(.reg [zop 1 (.box 77 0 1),zmv 2 (zki 0)]),(zsq [(.reg [zLd 3 1 1,zca 4 167 [3],zno 5 4]),(.cond 5 (zsq [(.reg [zmv 2 (zki 0)]),.ret]) .skip)]),(.reg [zfa 6 1 0,zld 7 6 1,zfa 8 1 0,zld 9 8 1,zle 10 9,zbi 11 .sub 10 (zki 1),zia 12 7 11 ctOp,zfa 13 12 2,zld 14 13 1,zmv 2 14]),.ret])
def Qug:List (ARv × Md):=[(.t 2,.one .d)]
theorem Qtt (m:List TOp') (h :
 (zif (!(QL m)) (K (Qd1 (0:Int))) (((0:Int)≤w64 ((m.length:Int)-(1:Int))∧Int.toNat (w64 ((m.length:Int)-(1:Int)))<m.length)∧K (Qd1 ((gtd dOp m (Int.toNat (w64 ((m.length:Int)-(1:Int))))).2.2.1))))):Hold (tawp QlH (0+0) QAw (TQ 0 0 Qug K) (Qg [(.a [(.c (.sl ctOp) m)])])) :=
 Hold.of (by kernel_rfl) h
theorem QvM (m:List TOp'):TCon Tryz.prog 102 [(.a [(.c (.sl ctOp) m)])] (Qd1 (Z8 m)):=by
 refine Qk rfl fun hb=>tcg (Γ:=QlH) (n:=15) (sg:=QgW.sg) Ql (TOkL.cons QfT TOkL.nil) (by kernel_rfl) (by kernel_rfl) (Qtt _ m ?_)
 have hl_m_0:(m).length≤9223372036854775807:=hb.1.1.1
 refine ⟨fun h=>R_eq (by grind [Z8]),fun h=>?_⟩
 have:=Qb0 (m:=m) (by simpa using h)
 have e:=JJ this.1 (by omega:m.length≤9223372036854775807)
 rw [e.1]
 exact ⟨⟨e.2,by omega⟩,R_eq (by simp at h;simp [Z8,h])⟩
theorem QwK:Qj Tryz.prog QgW:=Qn fun x _=>QvM x.1
end
end Go.Proofs.YtdplaepmjogjjaaGreat.Am

