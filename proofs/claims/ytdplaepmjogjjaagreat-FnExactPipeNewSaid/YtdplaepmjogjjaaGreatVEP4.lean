/- -/
import Derived.Test.YtdplaepmjogjjaaGreatVEP1
namespace Go.Proofs.YtdplaepmjogjjaaGreat.Am
open Go Go.RowKit Go.Proofs.YtdplaepmjogjjaaGreat
set_option linter.all false
noncomputable section
variable (K:TRes→Prop)
def Jh (t:Int):TRes:=zre (zci t)
def QjD:TRow:=Qg 253 [(.a ctOp)] fun x=>(none,Jh (ZC x.1))
def Qem:TTab:=⟨[ZQ],false⟩
def QrS:TCode :=
 (.cond 15 (zsq [(.reg [zfa 18 1 1,zld 19 18 1,zfa 20 1 2,zld 21 20 1,zbi 22 .mul 19 21,zmv 2 22]),.ret]) (zsq [(.reg [zbi 24 .eql 14 (zki 2),zmv 23 24]),(.cond 23 (zsq [(.reg [zfa 25 1 1,zld 26 25 1,zmv 2 26]),.ret]) (zsq [(.reg [zbi 28 .eql 14 (zki 4),zmv 27 28]),(.cond 27 (zsq [(.reg [zmv 2 (zki 1)]),.ret]) .skip)]))]))
def QJg:List (Nat × Md):=[(1,.b (zds 4)),(14,.one .d),(15,.one .d)]
def QvY:TCode:=.wk QJg QrS
def QtT:TCode :=
 (zsq [(.reg [zmv 2 (zki 0)]),.ret])
def QDS:TCode :=
 (zsq [(.reg [zop 1 (.box 134 0 4),zmv 2 (zki 0)]),(zsq [(.reg [zfa 3 1 1,zld 4 3 1,zca 5 158 [4,(zki 1),(zki 6)],zno 6 5,zmv 7 6,.grp 7 false [zfa 8 1 2,zld 9 8 1,zca 10 158 [9,(zki 1),(zki 6)],zno 11 10] 12 11]),(.cond 12 (zsq [(.reg [zmv 2 (zki 0)]),.ret]) .skip)]),(zsq [(.reg [zfa 13 1 0,zld 14 13 1]),(.block 0 (zsq [(zsq [(.reg [zbi 16 .eql 14 (zki 1),zmv 15 16]),(.cond 15 .skip (.reg [zbi 17 .eql 14 (zki 5),zmv 15 17]))]),QvY]))]),QtT])
def QnB:List (ARv × Md):=[(.t 2,.one .d)]
def QpA:Qb:=TQ 0 0 QnB K
def QHc:Qb:=Qseq (tawp Qem 0 QtT (QpA K)) (QpA K)
def Qzq:Qb:=Qblk 0 (QHc K)
@[irreducible] def QiV (o:TOp') (x:Bool):Prop:=tawp Qem 0 QrS (Qzq K) ⟨[(1,(.p 0 0 0)),(14,(zci o.1)),(15,(zcb x))],[(0,(.box (Tup.cells ctOp o)))],1⟩
theorem Qmo (o:TOp') (x:Bool) (h :
 (zif x (K (Jh (w64 (o.2.1*o.2.2.1)))) (zif (o.1==(2:Int)) (K (Jh o.2.1)) (zif (o.1==(4:Int)) (K (Jh (1:Int))) (K (Jh (0:Int))))))):Hold (QiV K o x) :=
 Hold.of (by kernel_rfl) h
theorem Qzn (o:TOp') (h :
 (zif ((!(m_in o.2.1 (1:Int) (6:Int)))||(!(m_in o.2.2.1 (1:Int) (6:Int)))) (K (Jh (0:Int))) (zif (o.1==(1:Int)) (QiV K o (o.1==(1:Int))) (QiV K o (o.1==(5:Int)))))):Hold (tawp Qem (0+0) QDS (TQ 0 0 QnB K) (Qe [(.a (Tup.cells ctOp o))])) :=
 Hold.of (by kernel_rfl) h
theorem QCj (o:TOp'):TCon Tryz.prog 253 [(.a (Tup.cells ctOp o))] (Jh (ZC o)):=by
 refine Ql rfl fun hb=>tcg (Γ:=Qem) (n:=29) (sg:=QjD.sg) Qk (TOkL.cons Yq TOkL.nil) (by kernel_rfl) (by kernel_rfl) (Qzn _ o ?_)
 have hl_o_3:(o.2.2.2).length≤9223372036854775807:=hb.1.2.2.2.1.1
 refine ⟨fun h=>R_eq (by grind [ZC]),fun h=>?_⟩
 have hi:m_in o.2.1 1 6=true∧m_in o.2.2.1 1 6=true:=by simpa using h
 have hm:=QiN (Q6.1 hi.1).1 (Q6.1 hi.1).2 (Q6.1 hi.2).1 (Q6.1 hi.2).2
 have hw:=Qx (x:=o.2.1*o.2.2.1) (by omega) (by omega)
 refine ⟨fun h1=>(Qmo (fun r'=>r'=Jh (ZC o)) o _ ?_).h,fun h1=>(Qmo (fun r'=>r'=Jh (ZC o)) o _ ?_).h⟩ <;> grind [ZC]
theorem QIB:Qi Tryz.prog QjD:=Qm fun x _=>QCj x.1
def Js (t:Int):TRes:=zre (zci t)
def QjS:TRow:=Qg 257 [(.a ctOp)] fun x=>(none,Js (ZC x.1))
def Qfh:TTab:=⟨[],false⟩
def Qrh:TCode :=
 (.cond 23 (zsq [(.reg [zfa 26 1 1,zld 27 26 1,zfa 28 1 2,zld 29 28 1,zbi 30 .mul 27 29,zmv 2 30]),.ret]) (zsq [(.reg [zbi 32 .eql 22 (zki 2),zmv 31 32]),(.cond 31 (zsq [(.reg [zfa 33 1 1,zld 34 33 1,zmv 2 34]),.ret]) (zsq [(.reg [zbi 36 .eql 22 (zki 4),zmv 35 36]),(.cond 35 (zsq [(.reg [zmv 2 (zki 1)]),.ret]) .skip)]))]))
def QGp:List (Nat × Md):=[(1,.b (zds 4)),(22,.one .d),(23,.one .d)]
def QFX:TCode:=.wk QGp Qrh
def QpE:TCode :=
 (zsq [(.reg [zmv 2 (zki 0)]),.ret])
def QCd:TCode :=
 (zsq [(.reg [zop 1 (.box 134 0 4),zmv 2 (zki 0)]),(zsq [(.reg [zfa 3 1 1,zld 4 3 1,zbi 5 .lss 4 (zki 1),zmv 6 5,.grp 6 false [zfa 7 1 1,zld 8 7 1,zbi 9 .gtr 8 (zki 6)] 10 9,zmv 11 10,.grp 11 false [zfa 12 1 2,zld 13 12 1,zbi 14 .lss 13 (zki 1)] 15 14,zmv 16 15,.grp 16 false [zfa 17 1 2,zld 18 17 1,zbi 19 .gtr 18 (zki 6)] 20 19]),(.cond 20 (zsq [(.reg [zmv 2 (zki 0)]),.ret]) .skip)]),(zsq [(.reg [zfa 21 1 0,zld 22 21 1]),(.block 0 (zsq [(zsq [(.reg [zbi 24 .eql 22 (zki 1),zmv 23 24]),(.cond 23 .skip (.reg [zbi 25 .eql 22 (zki 5),zmv 23 25]))]),QFX]))]),QpE])
def Qmu:List (ARv × Md):=[(.t 2,.one .d)]
def Qmb:Qb:=TQ 0 0 Qmu K
def QGd:Qb:=Qseq (tawp Qfh 0 QpE (Qmb K)) (Qmb K)
def QEm:Qb:=Qblk 0 (QGd K)
@[irreducible] def QgF (o:TOp') (x:Bool):Prop:=tawp Qfh 0 Qrh (QEm K) ⟨[(1,(.p 0 0 0)),(22,(zci o.1)),(23,(zcb x))],[(0,(.box (Tup.cells ctOp o)))],1⟩
theorem Qmz (o:TOp') (x:Bool) (h :
 (zif x (K (Js (w64 (o.2.1*o.2.2.1)))) (zif (o.1==(2:Int)) (K (Js o.2.1)) (zif (o.1==(4:Int)) (K (Js (1:Int))) (K (Js (0:Int))))))):Hold (QgF K o x) :=
 Hold.of (by kernel_rfl) h
theorem QGK (o:TOp') (h :
 (zif ((((decide (o.2.1<(1:Int)))||(decide (o.2.1>(6:Int))))||(decide (o.2.2.1<(1:Int))))||(decide (o.2.2.1>(6:Int)))) (K (Js (0:Int))) (zif (o.1==(1:Int)) (QgF K o (o.1==(1:Int))) (QgF K o (o.1==(5:Int)))))):Hold (tawp Qfh (0+0) QCd (TQ 0 0 Qmu K) (Qe [(.a (Tup.cells ctOp o))])) :=
 Hold.of (by kernel_rfl) h
theorem QG2 (o:TOp'):TCon Tryz.prog 257 [(.a (Tup.cells ctOp o))] (Js (ZC o)):=by
 refine Ql rfl fun hb=>tcg (Γ:=Qfh) (n:=37) (sg:=QjS.sg) Qk TOkL.nil (by kernel_rfl) (by kernel_rfl) (QGK _ o ?_)
 have hl_o_3:(o.2.2.2).length≤9223372036854775807:=hb.1.2.2.2.1.1
 refine ⟨fun h=>R_eq (by grind [ZC,m_in]),fun h=>?_⟩
 have hi:m_in o.2.1 1 6=true∧m_in o.2.2.1 1 6=true:=by grind [m_in]
 have hm:=QiN (Q6.1 hi.1).1 (Q6.1 hi.1).2 (Q6.1 hi.2).1 (Q6.1 hi.2).2
 have hw:=Qx (x:=o.2.1*o.2.2.1) (by omega) (by omega)
 refine ⟨fun h1=>(Qmz (fun r'=>r'=Js (ZC o)) o _ ?_).h,fun h1=>(Qmz (fun r'=>r'=Js (ZC o)) o _ ?_).h⟩ <;> grind [ZC]
theorem Qy5:Qi Tryz.prog QjS:=Qm fun x _=>QG2 x.1
def Qaa (t:Bool):TRes:=zre (zcb t)
def Qj3:TRow:=Qg 222 [(.a ctOp)] fun x=>(none,Qaa (Q2 x.1))
def Qe8:TTab:=⟨[ZQ,QjD,Qfm],false⟩
def QmW:TCode :=
 (zsq [(zsq [(.reg [zmv 40 3,zfa 41 1 3,zld 42 41 1,zle 43 42,zbi 44 .lss 40 43]),(.cond 44 .skip (.exit 0))]),(.block 1 (zsq [(.reg [zfa 47 1 3,zld 48 47 1,zmv 49 3,zia 50 48 49 [TI],zld 51 50 1,zca 52 183 [51],zno 53 52]),(.cond 53 (zsq [(.reg [zmv 2 (zkb false)]),.ret]) .skip)])),(.reg [zmv 45 3,zbi 46 .add 45 (zki 1),zmv 3 46])])
def QnV:List (Nat × Md):=[(1,.b (zds 4)),(3,.one .d)]
def QrG:TCode :=
 (zsq [(.reg [zmv 2 (zkb true)]),.ret])
def QGS:TCode :=
 (zsq [(.reg [zop 1 (.box 134 0 4),zmv 2 (zkb false)]),(zsq [(.draw [zfa 4 1 0,zld 5 4 1,zca 6 158 [5,(zki 1),(zki 5)],zno 7 6,zmv 8 7,.grp 8 false [zfa 9 1 1,zld 10 9 1,zca 11 158 [10,(zki 1),(zki 6)],zno 12 11] 13 12,zmv 14 13,.grp 14 false [zfa 15 1 2,zld 16 15 1,zca 17 158 [16,(zki 1),(zki 6)],zno 18 17] 19 18,zmv 20 19,.grp 20 false [zfa 21 1 0,zld 22 21 1,zbi 23 .neq 22 (zki 1),zmv 24 23,.grp 24 true [zfa 25 1 1,zld 26 25 1,zfa 27 1 2,zld 28 27 1,zbi 29 .neq 26 28] 30 29] 31 30,zmv 32 31,.grp 32 false [zfa 33 1 3,zld 34 33 1,zle 35 34,zLd 36 1 4,zca 37 253 [36],zbi 38 .neq 35 37] 39 38] [(29,33),(30,33),(31,33)]),(.cond 39 (zsq [(.reg [zmv 2 (zkb false)]),.ret]) .skip)]),(zsq [(.reg [zmv 3 (zki 0)]),(.block 0 (.loop QnV QmW))]),QrG])
def Qum:List (ARv × Md):=[(.t 2,.one .d)]
def QtV:Qb:=TQ 0 0 Qum K
def QIO:Qb:=Qseq (tawp Qe8 0 QrG (QtV K)) (QtV K)
def Qvc:Qb:=Qblk 0 (QIO K)
def Qhp (o:TOp') (i:Int):Prop:=Loop Qe8 0 QnV QmW (Qvc K) ⟨[(1,(.p 0 0 0)),(3,(zci i))],[(0,(.box (Tup.cells ctOp o)))],1⟩
theorem Qz6 (o:TOp') (i:Int) (h :
 (zif (decide (i<((o.2.2.2).length:Int))) (((0:Int)≤i∧Int.toNat i<(o.2.2.2).length)∧(zif (!(ZB (gtd (0:Int) o.2.2.2 (Int.toNat i)))) (K (Qaa false)) (Qhp K o (w64 (i+(1:Int)))))) (K (Qaa true)))):Qhp K o i :=
 Loop.of (by kernel_rfl) h
theorem QC3 (o:TOp') (h :
 (zif (((((!(m_in o.1 (1:Int) (5:Int)))||(!(m_in o.2.1 (1:Int) (6:Int))))||(!(m_in o.2.2.1 (1:Int) (6:Int))))||((o.1 != (1:Int))&&(o.2.1 != o.2.2.1)))||(((o.2.2.2).length:Int) != (ZC o))) (K (Qaa false)) (Qhp K o 0))):Hold (tawp Qe8 (0+0) QGS (TQ 0 0 Qum K) (Qe [(.a (Tup.cells ctOp o))])) :=
 Hold.of (by kernel_rfl) h
theorem QvU (o:TOp'):TCon Tryz.prog 222 [(.a (Tup.cells ctOp o))] (Qaa (Q2 o)):=by
 refine Ql rfl fun hb=>tcg (Γ:=Qe8) (n:=54) (sg:=Qj3.sg) Qk (TOkL.cons Yq (TOkL.cons QIB (TOkL.cons QsW TOkL.nil))) (by kernel_rfl) (by kernel_rfl) (QC3 _ o ?_)
 have hl_o_3:(o.2.2.2).length≤9223372036854775807:=hb.1.2.2.2.1.1
 refine ⟨fun h=>R_eq (by grind [Q2]),fun h=>?_⟩
 exact QcY (Q:=fun x=>Qaa x=Qaa (Q2 o)) (p:=ZB) (c:=fun x=>!(ZB x)) 0 hl_o_3 (fun _=>rfl) (fun i h=>Qz6 (fun r'=>r'=Qaa (Q2 o)) o i h) (R_eq (by grind [Q2,Yz]))
theorem QvV:Qi Tryz.prog Qj3:=Qm fun x _=>QvU x.1
def QcS (t:Bool):TRes:=zre (zcb t)
def Qiu:TRow:=Qg 228 [(.a ctOp)] fun x=>(none,QcS (Q2 x.1))
def QqU:TTab:=⟨[QjS,Qgq],false⟩
def QFK:TCode :=
 (zsq [(.reg [zop 1 (.box 134 0 4),zmv 2 (zkb false)]),(zsq [(.reg [zfa 3 1 0,zld 4 3 1,zbi 5 .lss 4 (zki 1),zmv 6 5,.grp 6 false [zfa 7 1 0,zld 8 7 1,zbi 9 .gtr 8 (zki 5)] 10 9,zmv 11 10,.grp 11 false [zfa 12 1 1,zld 13 12 1,zbi 14 .lss 13 (zki 1)] 15 14,zmv 16 15,.grp 16 false [zfa 17 1 1,zld 18 17 1,zbi 19 .gtr 18 (zki 6)] 20 19,zmv 21 20,.grp 21 false [zfa 22 1 2,zld 23 22 1,zbi 24 .lss 23 (zki 1)] 25 24,zmv 26 25,.grp 26 false [zfa 27 1 2,zld 28 27 1,zbi 29 .gtr 28 (zki 6)] 30 29]),(.cond 30 (zsq [(.reg [zmv 2 (zkb false)]),.ret]) .skip)]),(zsq [(.reg [zfa 31 1 0,zld 32 31 1,zbi 33 .neq 32 (zki 1),zmv 34 33,.grp 34 true [zfa 35 1 1,zld 36 35 1,zfa 37 1 2,zld 38 37 1,zbi 39 .neq 36 38] 40 39]),(.cond 40 (zsq [(.reg [zmv 2 (zkb false)]),.ret]) .skip)]),(.draw [zfa 41 1 3,zld 42 41 1,zle 43 42,zLd 44 1 4,zca 45 257 [44],zbi 46 .eql 43 45,zmv 47 46,.grp 47 true [zfa 48 1 3,zld 49 48 1,zca 50 238 [49]] 51 50,zmv 2 51] [(0,4),(1,4),(2,4)]),.ret])
def QI3:List (ARv × Md):=[(.t 2,.one .d)]
theorem QAM (o:TOp') (h :
 (zif ((((((decide (o.1<(1:Int)))||(decide (o.1>(5:Int))))||(decide (o.2.1<(1:Int))))||(decide (o.2.1>(6:Int))))||(decide (o.2.2.1<(1:Int))))||(decide (o.2.2.1>(6:Int)))) (K (QcS false)) (zif ((o.1 != (1:Int))&&(o.2.1 != o.2.2.1)) (K (QcS false)) (K (QcS ((((o.2.2.2).length:Int)==(ZC o))&&(Yz o.2.2.2))))))):Hold (tawp QqU (0+0) QFK (TQ 0 0 QI3 K) (Qe [(.a (Tup.cells ctOp o))])) :=
 Hold.of (by kernel_rfl) h
theorem QGw (o:TOp'):TCon Tryz.prog 228 [(.a (Tup.cells ctOp o))] (QcS (Q2 o)):=by
 refine Ql rfl fun hb=>tcg (Γ:=QqU) (n:=52) (sg:=Qiu.sg) Qk (TOkL.cons Qy5 (TOkL.cons Qlr TOkL.nil)) (by kernel_rfl) (by kernel_rfl) (QAM _ o ?_)
 have hl_o_3:(o.2.2.2).length≤9223372036854775807:=hb.1.2.2.2.1.1
 grind [Q2,m_in]
theorem Qze:Qi Tryz.prog Qiu:=Qm fun x _=>QGw x.1
def Qa9 (t:Bool):TRes:=zre (zcb t)
def Y0:TRow:=Qg 157 [(.a [(.sl ctOp)])] fun x=>(none,Qa9 (QB x.1))
def QdY:TTab:=⟨[Qj3,ZQ],false⟩
def Qop:TCode :=
 (zsq [(zsq [(.reg [zmv 4 3,zfa 5 1 0,zld 6 5 1,zle 7 6,zbi 8 .lss 4 7]),(.cond 8 .skip (.exit 0))]),(.block 1 (zsq [(.draw [zfa 11 1 0,zld 12 11 1,zmv 13 3,zia 14 12 13 ctOp,zLd 15 14 4,zca 16 222 [15],zno 17 16,zmv 18 17,.grp 18 false [zmv 19 3,zbi 20 .gtr 19 (zki 0),zmv 21 20,.grp 21 true [zfa 22 1 0,zld 23 22 1,zmv 24 3,zia 25 23 24 ctOp,zfa 26 25 1,zld 27 26 1,zfa 28 1 0,zld 29 28 1,zmv 30 3,zbi 31 .sub 30 (zki 1),zia 32 29 31 ctOp,zfa 33 32 2,zld 34 33 1,zbi 35 .neq 27 34] 36 35] 37 36] []),(.cond 37 (zsq [(.reg [zmv 2 (zkb false)]),.ret]) .skip)])),(.reg [zmv 9 3,zbi 10 .add 9 (zki 1),zmv 3 10])])
def QtW:List (Nat × Md):=[(1,.b [.d]),(3,.one .d)]
def QqT:TCode :=
 (zsq [(.reg [zfa 38 1 0,zld 39 38 1,zle 40 39,zca 41 158 [40,(zki 1),(zki 8)],zmv 2 41]),.ret])
def QHv:TCode :=
 (zsq [(.reg [zop 1 (.box 77 0 1),zmv 2 (zkb false)]),(zsq [(.reg [zmv 3 (zki 0)]),(.block 0 (.loop QtW Qop))]),QqT])
def Qpn:List (ARv × Md):=[(.t 2,.one .d)]
def QsZ:Qb:=TQ 0 0 Qpn K
def QEC:Qb:=Qseq (tawp QdY 0 QqT (QsZ K)) (QsZ K)
def QF6:Qb:=Qblk 0 (QEC K)
def Qd6 (m:List TOp') (i:Int):Prop:=Loop QdY 0 QtW Qop (QF6 K) ⟨[(1,(.p 0 0 0)),(3,(zci i))],[(0,(.box [(zcs ctOp m)]))],1⟩
theorem QsO (m:List TOp') (i:Int) (h :
 (zif (decide (i<(m.length:Int))) ((((0:Int)≤i∧Int.toNat i<m.length)∧((!(!(Q2 (gtd dOp m (Int.toNat i)))))=true→((decide (i>(0:Int)))=true→(((0:Int)≤i∧Int.toNat i<m.length)∧((0:Int)≤w64 (i-(1:Int))∧Int.toNat (w64 (i-(1:Int)))<m.length)))))∧(zif ((!(Q2 (gtd dOp m (Int.toNat i))))||((decide (i>(0:Int)))&&(((gtd dOp m (Int.toNat i)).2.1) != ((gtd dOp m (Int.toNat (w64 (i-(1:Int))))).2.2.1)))) (K (Qa9 false)) (Qd6 K m (w64 (i+(1:Int)))))) (K (Qa9 (m_in (m.length:Int) (1:Int) (8:Int)))))):Qd6 K m i :=
 Loop.of (by kernel_rfl) h
theorem QIv (m:List TOp') (h :
 (Qd6 K m 0)):Hold (tawp QdY (0+0) QHv (TQ 0 0 Qpn K) (Qe [(.a [(.c (.sl ctOp) m)])])) :=
 Hold.of (by kernel_rfl) h
theorem QxB (m:List TOp'):TCon Tryz.prog 157 [(.a [(.c (.sl ctOp) m)])] (Qa9 (QB m)):=by
 refine Ql rfl fun hb=>tcg (Γ:=QdY) (n:=42) (sg:=Y0.sg) Qk (TOkL.cons QvV (TOkL.cons Yq TOkL.nil)) (by kernel_rfl) (by kernel_rfl) (QIv _ m ?_)
 have hl_m_0:(m).length≤9223372036854775807:=hb.1.1.1
 refine Zy m (fun r k=>ZO (YO m k) r=ZO none m→Qd6 (fun r'=>r'=Qa9 (QB m)) m k) ?_ ?_ rfl
 ·intro he
  refine QsO (fun r'=>r'=Qa9 (QB m)) m _ ⟨fun h=>by simp at h,fun _=>?_⟩
  grind [ZO,QB]
 ·intro k x r hk hlt hg ih he
  refine QsO (fun r'=>r'=Qa9 (QB m)) m _ ⟨fun _=>?_,fun h=>by simp at h;omega⟩
  rw [Int.toNat_natCast,hg,Qx (x:=(k:Int)+1) (by omega) (by omega)]
  have ep:YO m (k+1)=some x.2.2.1:=by simp [YO,hg]
  rw [ep] at ih
  rcases Nat.eq_zero_or_pos k with h0 | h0
  ·subst h0
   simp only [ZO,YO,if_true] at he
   grind [QB]
  ·have e2:=QbV h0 (by omega:k≤9223372036854775807)
   simp only [ZO,YO,if_neg (Nat.ne_of_gt h0)] at he
   grind [QB]
theorem Qan:Qi Tryz.prog Y0:=Qm fun x _=>QxB x.1
def Jz (t:Bool):TRes:=zre (zcb t)
def YP:TRow:=Qg 167 [(.a [(.sl ctOp)])] fun x=>(none,Jz (QB x.1))
def Qec:TTab:=⟨[Qiu],false⟩
def Qqg:TCode :=
 (zsq [(.reg [zbi 19 .lss 18 17]),(.cond 19 .skip (.exit 0)),(.block 1 (zsq [(.reg [zmv 20 18,zia 21 16 18 ctOp,zLd 22 21 4,zop 4 (.new 134 (z0s ctOp)),zmv 3 20,zst 4 22 4]),(.draw [zLd 23 4 4,zca 24 228 [23],zno 25 24,zmv 26 25,.grp 26 false [zmv 27 3,zbi 28 .gtr 27 (zki 0),zmv 29 28,.grp 29 true [zfa 30 1 0,zld 31 30 1,zmv 32 3,zbi 33 .sub 32 (zki 1),zia 34 31 33 ctOp,zfa 35 34 2,zld 36 35 1,zfa 37 4 1,zld 38 37 1,zbi 39 .neq 36 38] 40 39] 41 40] []),(.cond 41 (zsq [(.reg [zmv 2 (zkb false)]),.ret]) .skip)])),(.reg [zbi 42 .add 18 (zki 1),zmv 18 42])])
def Qpk:List (Nat × Md):=[(1,.b [.d]),(16,.one .d),(17,.one .d),(18,.one .d)]
def Qoz:TCode :=
 (zsq [(.reg [zmv 2 (zkb true)]),.ret])
def Qw3:TCode :=
 (zsq [(.reg [zop 1 (.box 77 0 1),zmv 2 (zkb false)]),(zsq [(.reg [zfa 5 1 0,zld 6 5 1,zle 7 6,zbi 8 .lss 7 (zki 1),zmv 9 8,.grp 9 false [zfa 10 1 0,zld 11 10 1,zle 12 11,zbi 13 .gtr 12 (zki 8)] 14 13]),(.cond 14 (zsq [(.reg [zmv 2 (zkb false)]),.ret]) .skip)]),(zsq [(.reg [zfa 15 1 0,zld 16 15 1,zle 17 16,zmv 18 (zki 0)]),(.block 0 (.loop Qpk Qqg))]),Qoz])
def Qtt:List (ARv × Md):=[(.t 2,.one .d)]
def QpC:Qb:=TQ 0 0 Qtt K
def QCh:Qb:=Qseq (tawp Qec 0 Qoz (QpC K)) (QpC K)
def QGa:Qb:=Qblk 0 (QCh K)
def Qdk (m:List TOp') (x:Int):Prop:=Loop Qec 0 Qpk Qqg (QGa K) ⟨[(1,(.p 0 0 0)),(16,(zcs ctOp m)),(17,(zci (m.length:Int))),(18,(zci x))],[(0,(.box [(zcs ctOp m)]))],1⟩
theorem Qnz (m:List TOp') (x:Int) (h :
 (zif (decide (x<(m.length:Int))) (((0:Int)≤x∧Int.toNat x<m.length)∧(((!(!(Q2 (gtd dOp m (Int.toNat x)))))=true→((decide (x>(0:Int)))=true→((0:Int)≤w64 (x-(1:Int))∧Int.toNat (w64 (x-(1:Int)))<m.length)))∧(zif ((!(Q2 (gtd dOp m (Int.toNat x))))||((decide (x>(0:Int)))&&(((gtd dOp m (Int.toNat (w64 (x-(1:Int))))).2.2.1) != ((gtd dOp m (Int.toNat x)).2.1)))) (K (Jz false)) (Qdk K m (w64 (x+(1:Int))))))) (K (Jz true)))):Qdk K m x :=
 Loop.of (by kernel_rfl) h
theorem QyX (m:List TOp') (h :
 (zif ((decide ((m.length:Int)<(1:Int)))||(decide ((m.length:Int)>(8:Int)))) (K (Jz false)) (Qdk K m 0))):Hold (tawp Qec (0+0) Qw3 (TQ 0 0 Qtt K) (Qe [(.a [(.c (.sl ctOp) m)])])) :=
 Hold.of (by kernel_rfl) h
theorem QAJ (m:List TOp'):TCon Tryz.prog 167 [(.a [(.c (.sl ctOp) m)])] (Jz (QB m)):=by
 refine Ql rfl fun hb=>tcg (Γ:=Qec) (n:=43) (sg:=YP.sg) Qk (TOkL.cons Qze TOkL.nil) (by kernel_rfl) (by kernel_rfl) (QyX _ m ?_)
 have hl_m_0:(m).length≤9223372036854775807:=hb.1.1.1
 refine ⟨fun h=>R_eq (by grind [QB,m_in]),fun h=>?_⟩
 have hin:m_in m.length 1 8=true:=by grind [m_in]
 refine Zy m (fun r k=>ZO (YO m k) r=ZO none m→Qdk (fun r'=>r'=Jz (QB m)) m k) ?_ ?_ rfl
 ·intro he
  refine Qnz (fun r'=>r'=Jz (QB m)) m _ ⟨fun h=>by simp at h,fun _=>?_⟩
  grind [ZO,QB]
 ·intro k x r hk hlt hg ih he
  refine Qnz (fun r'=>r'=Jz (QB m)) m _ ⟨fun _=>?_,fun h=>by simp at h;omega⟩
  rw [Int.toNat_natCast,hg,Qx (x:=(k:Int)+1) (by omega) (by omega)]
  have ep:YO m (k+1)=some x.2.2.1:=by simp [YO,hg]
  rw [ep] at ih
  rcases Nat.eq_zero_or_pos k with h0 | h0
  ·subst h0
   simp only [ZO,YO,if_true] at he
   grind [QB]
  ·have e2:=QbV h0 (by omega:k≤9223372036854775807)
   simp only [ZO,YO,if_neg (Nat.ne_of_gt h0)] at he
   grind [QB]
theorem J0:Qi Tryz.prog YP:=Qm fun x _=>QAJ x.1
def QfT (t:Int):TRes:=zre (zci t)
def QgL:TRow:=Qg 101 [(.a [(.sl ctOp)])] fun x=>(none,QfT (Z9 x.1))
def QmY:TTab:=⟨[YP],false⟩
def Qza:TCode :=
 (zsq [(.reg [zop 1 (.box 77 0 1),zmv 2 (zki 0)]),(zsq [(.reg [zLd 3 1 1,zca 4 167 [3],zno 5 4]),(.cond 5 (zsq [(.reg [zmv 2 (zki 0)]),.ret]) .skip)]),(.reg [zfa 6 1 0,zld 7 6 1,zia 8 7 (zki 0) ctOp,zfa 9 8 1,zld 10 9 1,zmv 2 10]),.ret])
def QDt:List (ARv × Md):=[(.t 2,.one .d)]
theorem QIZ (m:List TOp') (h :
 (zif (!(QB m)) (K (QfT (0:Int))) (((0:Int)≤(0:Int)∧Int.toNat (0:Int)<m.length)∧K (QfT ((gtd dOp m (Int.toNat (0:Int))).2.1))))):Hold (tawp QmY (0+0) Qza (TQ 0 0 QDt K) (Qe [(.a [(.c (.sl ctOp) m)])])) :=
 Hold.of (by kernel_rfl) h
theorem Qxr (m:List TOp'):TCon Tryz.prog 101 [(.a [(.c (.sl ctOp) m)])] (QfT (Z9 m)):=by
 refine Ql rfl fun hb=>tcg (Γ:=QmY) (n:=11) (sg:=QgL.sg) Qk (TOkL.cons J0 TOkL.nil) (by kernel_rfl) (by kernel_rfl) (QIZ _ m ?_)
 have hl_m_0:(m).length≤9223372036854775807:=hb.1.1.1
 refine ⟨fun h=>R_eq (by grind [Z9]),fun h=>?_⟩
 have:=Y5 (m:=m) (by simpa using h)
 exact ⟨⟨by omega,by simp;omega⟩,R_eq (by simp at h;simp [Z9,h])⟩
theorem QFd:Qi Tryz.prog QgL:=Qm fun x _=>Qxr x.1
def QdN (t:Int):TRes:=zre (zci t)
def Qiv:TRow:=Qg 247 [(.a [(.sl ctOp)])] fun x=>(none,QdN (Z9 x.1))
def Qu3:TTab:=⟨[Y0],false⟩
def QD3:TCode :=
 (zsq [(.reg [zop 1 (.box 77 0 1),zmv 2 (zki 0)]),(zsq [(.reg [zLd 3 1 1,zca 4 157 [3],zno 5 4]),(.cond 5 (zsq [(.reg [zmv 2 (zki 0)]),.ret]) .skip)]),(.reg [zfa 6 1 0,zld 7 6 1,zia 8 7 (zki 0) ctOp,zfa 9 8 1,zld 10 9 1,zmv 2 10]),.ret])
def QHF:List (ARv × Md):=[(.t 2,.one .d)]
theorem QzW (m:List TOp') (h :
 (zif (!(QB m)) (K (QdN (0:Int))) (((0:Int)≤(0:Int)∧Int.toNat (0:Int)<m.length)∧K (QdN ((gtd dOp m (Int.toNat (0:Int))).2.1))))):Hold (tawp Qu3 (0+0) QD3 (TQ 0 0 QHF K) (Qe [(.a [(.c (.sl ctOp) m)])])) :=
 Hold.of (by kernel_rfl) h
theorem QwK (m:List TOp'):TCon Tryz.prog 247 [(.a [(.c (.sl ctOp) m)])] (QdN (Z9 m)):=by
 refine Ql rfl fun hb=>tcg (Γ:=Qu3) (n:=11) (sg:=Qiv.sg) Qk (TOkL.cons Qan TOkL.nil) (by kernel_rfl) (by kernel_rfl) (QzW _ m ?_)
 have hl_m_0:(m).length≤9223372036854775807:=hb.1.1.1
 refine ⟨fun h=>R_eq (by grind [Z9]),fun h=>?_⟩
 have:=Y5 (m:=m) (by simpa using h)
 exact ⟨⟨by omega,by simp;omega⟩,R_eq (by simp at h;simp [Z9,h])⟩
theorem QG7:Qi Tryz.prog Qiv:=Qm fun x _=>QwK x.1
def Qdt (t:Int):TRes:=zre (zci t)
def QiW:TRow:=Qg 102 [(.a [(.sl ctOp)])] fun x=>(none,Qdt (Yt x.1))
def Qoq:TTab:=⟨[YP],false⟩
def QGb:TCode :=
 (zsq [(.reg [zop 1 (.box 77 0 1),zmv 2 (zki 0)]),(zsq [(.reg [zLd 3 1 1,zca 4 167 [3],zno 5 4]),(.cond 5 (zsq [(.reg [zmv 2 (zki 0)]),.ret]) .skip)]),(.reg [zfa 6 1 0,zld 7 6 1,zfa 8 1 0,zld 9 8 1,zle 10 9,zbi 11 .sub 10 (zki 1),zia 12 7 11 ctOp,zfa 13 12 2,zld 14 13 1,zmv 2 14]),.ret])
def QGI:List (ARv × Md):=[(.t 2,.one .d)]
theorem QH9 (m:List TOp') (h :
 (zif (!(QB m)) (K (Qdt (0:Int))) (((0:Int)≤w64 ((m.length:Int)-(1:Int))∧Int.toNat (w64 ((m.length:Int)-(1:Int)))<m.length)∧K (Qdt ((gtd dOp m (Int.toNat (w64 ((m.length:Int)-(1:Int))))).2.2.1))))):Hold (tawp Qoq (0+0) QGb (TQ 0 0 QGI K) (Qe [(.a [(.c (.sl ctOp) m)])])) :=
 Hold.of (by kernel_rfl) h
theorem QGm (m:List TOp'):TCon Tryz.prog 102 [(.a [(.c (.sl ctOp) m)])] (Qdt (Yt m)):=by
 refine Ql rfl fun hb=>tcg (Γ:=Qoq) (n:=15) (sg:=QiW.sg) Qk (TOkL.cons J0 TOkL.nil) (by kernel_rfl) (by kernel_rfl) (QH9 _ m ?_)
 have hl_m_0:(m).length≤9223372036854775807:=hb.1.1.1
 refine ⟨fun h=>R_eq (by grind [Yt]),fun h=>?_⟩
 have:=Y5 (m:=m) (by simpa using h)
 have e:=QbV this.1 (by omega:m.length≤9223372036854775807)
 rw [e.1]
 exact ⟨⟨e.2,by omega⟩,R_eq (by simp at h;simp [Yt,h])⟩
theorem Qwk:Qi Tryz.prog QiW:=Qm fun x _=>QGm x.1
def Qe7 (t:Int):TRes:=zre (zci t)
def QgZ:TRow:=Qg 248 [(.a [(.sl ctOp)])] fun x=>(none,Qe7 (Yt x.1))
def Qn3:TTab:=⟨[Y0],false⟩
def QxR:TCode :=
 (zsq [(.reg [zop 1 (.box 77 0 1),zmv 2 (zki 0)]),(zsq [(.reg [zLd 3 1 1,zca 4 157 [3],zno 5 4]),(.cond 5 (zsq [(.reg [zmv 2 (zki 0)]),.ret]) .skip)]),(.reg [zfa 6 1 0,zld 7 6 1,zfa 8 1 0,zld 9 8 1,zle 10 9,zbi 11 .sub 10 (zki 1),zia 12 7 11 ctOp,zfa 13 12 2,zld 14 13 1,zmv 2 14]),.ret])
def QDd:List (ARv × Md):=[(.t 2,.one .d)]
theorem QAF (m:List TOp') (h :
 (zif (!(QB m)) (K (Qe7 (0:Int))) (((0:Int)≤w64 ((m.length:Int)-(1:Int))∧Int.toNat (w64 ((m.length:Int)-(1:Int)))<m.length)∧K (Qe7 ((gtd dOp m (Int.toNat (w64 ((m.length:Int)-(1:Int))))).2.2.1))))):Hold (tawp Qn3 (0+0) QxR (TQ 0 0 QDd K) (Qe [(.a [(.c (.sl ctOp) m)])])) :=
 Hold.of (by kernel_rfl) h
theorem QvH (m:List TOp'):TCon Tryz.prog 248 [(.a [(.c (.sl ctOp) m)])] (Qe7 (Yt m)):=by
 refine Ql rfl fun hb=>tcg (Γ:=Qn3) (n:=15) (sg:=QgZ.sg) Qk (TOkL.cons Qan TOkL.nil) (by kernel_rfl) (by kernel_rfl) (QAF _ m ?_)
 have hl_m_0:(m).length≤9223372036854775807:=hb.1.1.1
 refine ⟨fun h=>R_eq (by grind [Yt]),fun h=>?_⟩
 have:=Y5 (m:=m) (by simpa using h)
 have e:=QbV this.1 (by omega:m.length≤9223372036854775807)
 rw [e.1]
 exact ⟨⟨e.2,by omega⟩,R_eq (by simp at h;simp [Yt,h])⟩
theorem QCZ:Qi Tryz.prog QgZ:=Qm fun x _=>QvH x.1
end
end Go.Proofs.YtdplaepmjogjjaaGreat.Am

