/- -/
import Derived.Test.YtephkbajoofeoaaYDP1
namespace Go.Proofs.Ytephkbajoofeoaa.Am
open Go Go.RowKit Go.Proofs.Ytephkbajoofeoaa
set_option linter.all false
noncomputable section
variable (K:TRes→Prop)
def Z3 (t:Int):TRes:=zre (zci t)
def Qbm:TRow:=Qp 191 [(.a ctOp)] fun x=>(none,Z3 (QT x.1))
def QcP:List TRow:=[Z7]
def QfO:TCode :=
 (.cond 15 (zsq [(.reg [zfa 18 1 1,zld 19 18 1,zfa 20 1 2,zld 21 20 1,zbi 22 .mul 19 21,zmv 2 22]),.ret]) (zsq [(.reg [zbi 24 .eql 14 (zki 2),zmv 23 24]),(.cond 23 (zsq [(.reg [zfa 25 1 1,zld 26 25 1,zmv 2 26]),.ret]) (zsq [(.reg [zbi 28 .eql 14 (zki 4),zmv 27 28]),(.cond 27 (zsq [(.reg [zmv 2 (zki 1)]),.ret]) .skip)]))]))
def Qob:List (Nat × Md):=[(1,.b (zds 4)),(14,.one .d),(15,.one .d)]
def QkH:TCode:=.wk Qob QfO
def QhH:TCode :=
 (zsq [(.reg [zmv 2 (zki 0)]),.ret])
def QlM:TCode :=
 (zsq [(.reg [zop 1 (.box 76 0 4),zmv 2 (zki 0)]),(zsq [(.reg [zfa 3 1 1,zld 4 3 1,zca 5 102 [4,(zki 1),(zki 6)],zno 6 5,zmv 7 6,.grp 7 false [zfa 8 1 2,zld 9 8 1,zca 10 102 [9,(zki 1),(zki 6)],zno 11 10] 12 11]),(.cond 12 (zsq [(.reg [zmv 2 (zki 0)]),.ret]) .skip)]),(zsq [(.reg [zfa 13 1 0,zld 14 13 1]),(.block 0 (zsq [(zsq [(.reg [zbi 16 .eql 14 (zki 1),zmv 15 16]),(.cond 15 .skip (.reg [zbi 17 .eql 14 (zki 5),zmv 15 17]))]),QkH]))]),QhH])
def QhL:List (ARv × Md):=[(.t 2,.one .d)]
def Qfe:Qg:=TQ 0 0 QhL K
def QpA:Qg:=Qseq (tawp QcP 0 QhH (Qfe K)) (Qfe K)
def Qk8:Qg:=Qblk 0 (QpA K)
@[irreducible] def QdI (o:TOp') (x:Bool):Prop:=tawp QcP 0 QfO (Qk8 K) ⟨[(1,(.p 0 0 0)),(14,(zci o.1)),(15,(zcb x))],[(0,(.box (Tup.cells ctOp o)))],1⟩
theorem QgO (o:TOp') (x:Bool) (h :
 (zif x (K (Z3 (w64 (o.2.1*o.2.2.1)))) (zif (o.1==(2:Int)) (K (Z3 o.2.1)) (zif (o.1==(4:Int)) (K (Z3 (1:Int))) (K (Z3 (0:Int))))))):Hold (QdI K o x) :=
 Hold.of (by kernel_rfl) h
theorem QmU (o:TOp') (h :
 (zif ((!(m_in o.2.1 (1:Int) (6:Int)))||(!(m_in o.2.2.1 (1:Int) (6:Int)))) (K (Z3 (0:Int))) (zif (o.1==(1:Int)) (QdI K o (o.1==(1:Int))) (QdI K o (o.1==(5:Int)))))):Hold (tawp QcP (0+0) QlM (TQ 0 0 QhL K) (Qm [(.a (Tup.cells ctOp o))])) :=
 Hold.of (by kernel_rfl) h
theorem Qlb (o:TOp'):TCon Try.prog 191 [(.a (Tup.cells ctOp o))] (Z3 (QT o)):=by
 refine QP rfl fun hb=>tcg (n:=29) (sg:=Qbm.sg) Qt (TOk.cons YY TOk.nil) (by kernel_rfl) (by kernel_rfl) (QmU _ o ?_)
 have hl_o_3:(o.2.2.2).length≤9223372036854775807:=hb.1.2.2.2.1.1
 refine ⟨fun h=>R_eq (by grind [QT]),fun h=>?_⟩
 have hi:m_in o.2.1 1 6=true∧m_in o.2.2.1 1 6=true:=by simpa using h
 have hm:=QeU (QE.1 hi.1).1 (QE.1 hi.1).2 (QE.1 hi.2).1 (QE.1 hi.2).2
 have hw:=Qi (x:=o.2.1*o.2.2.1) (by omega) (by omega)
 refine ⟨fun h1=>(QgO (fun r'=>r'=Z3 (QT o)) o _ ?_).h,fun h1=>(QgO (fun r'=>r'=Z3 (QT o)) o _ ?_).h⟩ <;> grind [QT]
theorem QgV:Qq Try.prog Qbm:=Qv fun x _=>Qlb x.1
def Z4 (t:Int):TRes:=zre (zci t)
def Qcp:TRow:=Qp 189 [(.a ctOp)] fun x=>(none,Z4 (QT x.1))
def QdU:List TRow:=[]
def QfQ:TCode :=
 (.cond 23 (zsq [(.reg [zfa 26 1 1,zld 27 26 1,zfa 28 1 2,zld 29 28 1,zbi 30 .mul 27 29,zmv 2 30]),.ret]) (zsq [(.reg [zbi 32 .eql 22 (zki 2),zmv 31 32]),(.cond 31 (zsq [(.reg [zfa 33 1 1,zld 34 33 1,zmv 2 34]),.ret]) (zsq [(.reg [zbi 36 .eql 22 (zki 4),zmv 35 36]),(.cond 35 (zsq [(.reg [zmv 2 (zki 1)]),.ret]) .skip)]))]))
def QpJ:List (Nat × Md):=[(1,.b (zds 4)),(22,.one .d),(23,.one .d)]
def Qoq:TCode:=.wk QpJ QfQ
def Qfi:TCode :=
 (zsq [(.reg [zmv 2 (zki 0)]),.ret])
def QkP:TCode :=
 (zsq [(.reg [zop 1 (.box 76 0 4),zmv 2 (zki 0)]),(zsq [(.reg [zfa 3 1 1,zld 4 3 1,zbi 5 .lss 4 (zki 1),zmv 6 5,.grp 6 false [zfa 7 1 1,zld 8 7 1,zbi 9 .gtr 8 (zki 6)] 10 9,zmv 11 10,.grp 11 false [zfa 12 1 2,zld 13 12 1,zbi 14 .lss 13 (zki 1)] 15 14,zmv 16 15,.grp 16 false [zfa 17 1 2,zld 18 17 1,zbi 19 .gtr 18 (zki 6)] 20 19]),(.cond 20 (zsq [(.reg [zmv 2 (zki 0)]),.ret]) .skip)]),(zsq [(.reg [zfa 21 1 0,zld 22 21 1]),(.block 0 (zsq [(zsq [(.reg [zbi 24 .eql 22 (zki 1),zmv 23 24]),(.cond 23 .skip (.reg [zbi 25 .eql 22 (zki 5),zmv 23 25]))]),Qoq]))]),Qfi])
def Qhd:List (ARv × Md):=[(.t 2,.one .d)]
def Qij:Qg:=TQ 0 0 Qhd K
def QlX:Qg:=Qseq (tawp QdU 0 Qfi (Qij K)) (Qij K)
def QlY:Qg:=Qblk 0 (QlX K)
@[irreducible] def QdN (o:TOp') (x:Bool):Prop:=tawp QdU 0 QfQ (QlY K) ⟨[(1,(.p 0 0 0)),(22,(zci o.1)),(23,(zcb x))],[(0,(.box (Tup.cells ctOp o)))],1⟩
theorem QhT (o:TOp') (x:Bool) (h :
 (zif x (K (Z4 (w64 (o.2.1*o.2.2.1)))) (zif (o.1==(2:Int)) (K (Z4 o.2.1)) (zif (o.1==(4:Int)) (K (Z4 (1:Int))) (K (Z4 (0:Int))))))):Hold (QdN K o x) :=
 Hold.of (by kernel_rfl) h
theorem Qk2 (o:TOp') (h :
 (zif ((((decide (o.2.1<(1:Int)))||(decide (o.2.1>(6:Int))))||(decide (o.2.2.1<(1:Int))))||(decide (o.2.2.1>(6:Int)))) (K (Z4 (0:Int))) (zif (o.1==(1:Int)) (QdN K o (o.1==(1:Int))) (QdN K o (o.1==(5:Int)))))):Hold (tawp QdU (0+0) QkP (TQ 0 0 Qhd K) (Qm [(.a (Tup.cells ctOp o))])) :=
 Hold.of (by kernel_rfl) h
theorem Ql1 (o:TOp'):TCon Try.prog 189 [(.a (Tup.cells ctOp o))] (Z4 (QT o)):=by
 refine QP rfl fun hb=>tcg (n:=37) (sg:=Qcp.sg) Qt TOk.nil (by kernel_rfl) (by kernel_rfl) (Qk2 _ o ?_)
 have hl_o_3:(o.2.2.2).length≤9223372036854775807:=hb.1.2.2.2.1.1
 refine ⟨fun h=>R_eq (by grind [QT,m_in]),fun h=>?_⟩
 have hi:m_in o.2.1 1 6=true∧m_in o.2.2.1 1 6=true:=by grind [m_in]
 have hm:=QeU (QE.1 hi.1).1 (QE.1 hi.1).2 (QE.1 hi.2).1 (QE.1 hi.2).2
 have hw:=Qi (x:=o.2.1*o.2.2.1) (by omega) (by omega)
 refine ⟨fun h1=>(QhT (fun r'=>r'=Z4 (QT o)) o _ ?_).h,fun h1=>(QhT (fun r'=>r'=Z4 (QT o)) o _ ?_).h⟩ <;> grind [QT]
theorem Qlx:Qq Try.prog Qcp:=Qv fun x _=>Ql1 x.1
def Yw (t:Bool):TRes:=zre (zcb t)
def Qel:TRow:=Qp 137 [(.a ctOp)] fun x=>(none,Yw (QQ x.1))
def Qdi:List TRow:=[Z7,Qbm,Qde]
def Qif:TCode :=
 (zsq [(zsq [(.reg [zmv 40 3,zfa 41 1 3,zld 42 41 1,zle 43 42,zbi 44 .lss 40 43]),(.cond 44 .skip (.exit 0))]),(.block 1 (zsq [(.reg [zfa 47 1 3,zld 48 47 1,zmv 49 3,zia 50 48 49 [TI],zld 51 50 1,zca 52 122 [51],zno 53 52]),(.cond 53 (zsq [(.reg [zmv 2 (zkb false)]),.ret]) .skip)])),(.reg [zmv 45 3,zbi 46 .add 45 (zki 1),zmv 3 46])])
def QgD:List (Nat × Md):=[(1,.b (zds 4)),(3,.one .d)]
def Qgt:TCode :=
 (zsq [(.reg [zmv 2 (zkb true)]),.ret])
def Qn1:TCode :=
 (zsq [(.reg [zop 1 (.box 76 0 4),zmv 2 (zkb false)]),(zsq [(.draw [zfa 4 1 0,zld 5 4 1,zca 6 102 [5,(zki 1),(zki 5)],zno 7 6,zmv 8 7,.grp 8 false [zfa 9 1 1,zld 10 9 1,zca 11 102 [10,(zki 1),(zki 6)],zno 12 11] 13 12,zmv 14 13,.grp 14 false [zfa 15 1 2,zld 16 15 1,zca 17 102 [16,(zki 1),(zki 6)],zno 18 17] 19 18,zmv 20 19,.grp 20 false [zfa 21 1 0,zld 22 21 1,zbi 23 .neq 22 (zki 1),zmv 24 23,.grp 24 true [zfa 25 1 1,zld 26 25 1,zfa 27 1 2,zld 28 27 1,zbi 29 .neq 26 28] 30 29] 31 30,zmv 32 31,.grp 32 false [zfa 33 1 3,zld 34 33 1,zle 35 34,zLd 36 1 4,zca 37 191 [36],zbi 38 .neq 35 37] 39 38] [(29,33),(30,33),(31,33)]),(.cond 39 (zsq [(.reg [zmv 2 (zkb false)]),.ret]) .skip)]),(zsq [(.reg [zmv 3 (zki 0)]),(.block 0 (.loop QgD Qif))]),Qgt])
def Qfv:List (ARv × Md):=[(.t 2,.one .d)]
def Qh5:Qg:=TQ 0 0 Qfv K
def QlB:Qg:=Qseq (tawp Qdi 0 Qgt (Qh5 K)) (Qh5 K)
def Qls:Qg:=Qblk 0 (QlB K)
def QcC (o:TOp') (i:Int):Prop:=Loop Qdi 0 QgD Qif (Qls K) ⟨[(1,(.p 0 0 0)),(3,(zci i))],[(0,(.box (Tup.cells ctOp o)))],1⟩
theorem Qlf (o:TOp') (i:Int) (h :
 (zif (decide (i<((o.2.2.2).length:Int))) (((0:Int)≤i∧Int.toNat i<(o.2.2.2).length)∧(zif (!(Q6 (gtd (0:Int) o.2.2.2 (Int.toNat i)))) (K (Yw false)) (QcC K o (w64 (i+(1:Int)))))) (K (Yw true)))):QcC K o i :=
 Loop.of (by kernel_rfl) h
theorem QpS (o:TOp') (h :
 (zif (((((!(m_in o.1 (1:Int) (5:Int)))||(!(m_in o.2.1 (1:Int) (6:Int))))||(!(m_in o.2.2.1 (1:Int) (6:Int))))||((o.1 != (1:Int))&&(o.2.1 != o.2.2.1)))||(((o.2.2.2).length:Int) != (QT o))) (K (Yw false)) (QcC K o 0))):Hold (tawp Qdi (0+0) Qn1 (TQ 0 0 Qfv K) (Qm [(.a (Tup.cells ctOp o))])) :=
 Hold.of (by kernel_rfl) h
theorem QkN (o:TOp'):TCon Try.prog 137 [(.a (Tup.cells ctOp o))] (Yw (QQ o)):=by
 refine QP rfl fun hb=>tcg (n:=54) (sg:=Qel.sg) Qt (TOk.cons YY (TOk.cons QgV (TOk.cons Qng TOk.nil))) (by kernel_rfl) (by kernel_rfl) (QpS _ o ?_)
 have hl_o_3:(o.2.2.2).length≤9223372036854775807:=hb.1.2.2.2.1.1
 refine ⟨fun h=>R_eq (by grind [QQ]),fun h=>?_⟩
 exact QgJ (Q:=fun x=>Yw x=Yw (QQ o)) (p:=Q6) (c:=fun x=>!(Q6 x)) 0 hl_o_3 (fun _=>rfl) (fun i h=>Qlf (fun r'=>r'=Yw (QQ o)) o i h) (R_eq (by grind [QQ,Za]))
theorem QlQ:Qq Try.prog Qel:=Qv fun x _=>QkN x.1
def J8 (t:Bool):TRes:=zre (zcb t)
def Qcj:TRow:=Qp 134 [(.a ctOp)] fun x=>(none,J8 (QQ x.1))
def Qlk:List TRow:=[Qcp,Qeo]
def Qqb:TCode :=
 (zsq [(.reg [zop 1 (.box 76 0 4),zmv 2 (zkb false)]),(zsq [(.reg [zfa 3 1 0,zld 4 3 1,zbi 5 .lss 4 (zki 1),zmv 6 5,.grp 6 false [zfa 7 1 0,zld 8 7 1,zbi 9 .gtr 8 (zki 5)] 10 9,zmv 11 10,.grp 11 false [zfa 12 1 1,zld 13 12 1,zbi 14 .lss 13 (zki 1)] 15 14,zmv 16 15,.grp 16 false [zfa 17 1 1,zld 18 17 1,zbi 19 .gtr 18 (zki 6)] 20 19,zmv 21 20,.grp 21 false [zfa 22 1 2,zld 23 22 1,zbi 24 .lss 23 (zki 1)] 25 24,zmv 26 25,.grp 26 false [zfa 27 1 2,zld 28 27 1,zbi 29 .gtr 28 (zki 6)] 30 29]),(.cond 30 (zsq [(.reg [zmv 2 (zkb false)]),.ret]) .skip)]),(zsq [(.reg [zfa 31 1 0,zld 32 31 1,zbi 33 .neq 32 (zki 1),zmv 34 33,.grp 34 true [zfa 35 1 1,zld 36 35 1,zfa 37 1 2,zld 38 37 1,zbi 39 .neq 36 38] 40 39]),(.cond 40 (zsq [(.reg [zmv 2 (zkb false)]),.ret]) .skip)]),(.draw [zfa 41 1 3,zld 42 41 1,zle 43 42,zLd 44 1 4,zca 45 189 [44],zbi 46 .eql 43 45,zmv 47 46,.grp 47 true [zfa 48 1 3,zld 49 48 1,zca 50 190 [49]] 51 50,zmv 2 51] [(0,4),(1,4),(2,4)]),.ret])
def QmB:List (ARv × Md):=[(.t 2,.one .d)]
theorem QjJ (o:TOp') (h :
 (zif ((((((decide (o.1<(1:Int)))||(decide (o.1>(5:Int))))||(decide (o.2.1<(1:Int))))||(decide (o.2.1>(6:Int))))||(decide (o.2.2.1<(1:Int))))||(decide (o.2.2.1>(6:Int)))) (K (J8 false)) (zif ((o.1 != (1:Int))&&(o.2.1 != o.2.2.1)) (K (J8 false)) (K (J8 ((((o.2.2.2).length:Int)==(QT o))&&(Za o.2.2.2))))))):Hold (tawp Qlk (0+0) Qqb (TQ 0 0 QmB K) (Qm [(.a (Tup.cells ctOp o))])) :=
 Hold.of (by kernel_rfl) h
theorem Qn2 (o:TOp'):TCon Try.prog 134 [(.a (Tup.cells ctOp o))] (J8 (QQ o)):=by
 refine QP rfl fun hb=>tcg (n:=52) (sg:=Qcj.sg) Qt (TOk.cons Qlx (TOk.cons Qn4 TOk.nil)) (by kernel_rfl) (by kernel_rfl) (QjJ _ o ?_)
 have hl_o_3:(o.2.2.2).length≤9223372036854775807:=hb.1.2.2.2.1.1
 grind [QQ,m_in]
theorem Qqy:Qq Try.prog Qcj:=Qv fun x _=>Qn2 x.1
def Yz (t:Bool):TRes:=zre (zcb t)
def JM:TRow:=Qp 60 [(.a [(.sl ctOp)])] fun x=>(none,Yz (Qu x.1))
def Qdz:List TRow:=[Qel,Z7]
def QiI:TCode :=
 (zsq [(zsq [(.reg [zmv 4 3,zfa 5 1 0,zld 6 5 1,zle 7 6,zbi 8 .lss 4 7]),(.cond 8 .skip (.exit 0))]),(.block 1 (zsq [(.draw [zfa 11 1 0,zld 12 11 1,zmv 13 3,zia 14 12 13 ctOp,zLd 15 14 4,zca 16 137 [15],zno 17 16,zmv 18 17,.grp 18 false [zmv 19 3,zbi 20 .gtr 19 (zki 0),zmv 21 20,.grp 21 true [zfa 22 1 0,zld 23 22 1,zmv 24 3,zia 25 23 24 ctOp,zfa 26 25 1,zld 27 26 1,zfa 28 1 0,zld 29 28 1,zmv 30 3,zbi 31 .sub 30 (zki 1),zia 32 29 31 ctOp,zfa 33 32 2,zld 34 33 1,zbi 35 .neq 27 34] 36 35] 37 36] []),(.cond 37 (zsq [(.reg [zmv 2 (zkb false)]),.ret]) .skip)])),(.reg [zmv 9 3,zbi 10 .add 9 (zki 1),zmv 3 10])])
def QhN:List (Nat × Md):=[(1,.b [.d]),(3,.one .d)]
def QfJ:TCode :=
 (zsq [(.reg [zfa 38 1 0,zld 39 38 1,zle 40 39,zca 41 102 [40,(zki 1),(zki 8)],zmv 2 41]),.ret])
def Qqf:TCode :=
 (zsq [(.reg [zop 1 (.box 66 0 1),zmv 2 (zkb false)]),(zsq [(.reg [zmv 3 (zki 0)]),(.block 0 (.loop QhN QiI))]),QfJ])
def Qjg:List (ARv × Md):=[(.t 2,.one .d)]
def QfW:Qg:=TQ 0 0 Qjg K
def QjS:Qg:=Qseq (tawp Qdz 0 QfJ (QfW K)) (QfW K)
def QnU:Qg:=Qblk 0 (QjS K)
def QbG (m:List TOp') (i:Int):Prop:=Loop Qdz 0 QhN QiI (QnU K) ⟨[(1,(.p 0 0 0)),(3,(zci i))],[(0,(.box [(zcs ctOp m)]))],1⟩
theorem QhI (m:List TOp') (i:Int) (h :
 (zif (decide (i<(m.length:Int))) ((((0:Int)≤i∧Int.toNat i<m.length)∧((!(!(QQ (gtd dOp m (Int.toNat i)))))=true→((decide (i>(0:Int)))=true→(((0:Int)≤i∧Int.toNat i<m.length)∧((0:Int)≤w64 (i-(1:Int))∧Int.toNat (w64 (i-(1:Int)))<m.length)))))∧(zif ((!(QQ (gtd dOp m (Int.toNat i))))||((decide (i>(0:Int)))&&(((gtd dOp m (Int.toNat i)).2.1) != ((gtd dOp m (Int.toNat (w64 (i-(1:Int))))).2.2.1)))) (K (Yz false)) (QbG K m (w64 (i+(1:Int)))))) (K (Yz (m_in (m.length:Int) (1:Int) (8:Int)))))):QbG K m i :=
 Loop.of (by kernel_rfl) h
theorem QkV (m:List TOp') (h :
 (QbG K m 0)):Hold (tawp Qdz (0+0) Qqf (TQ 0 0 Qjg K) (Qm [(.a [(.c (.sl ctOp) m)])])) :=
 Hold.of (by kernel_rfl) h
theorem QlW (m:List TOp'):TCon Try.prog 60 [(.a [(.c (.sl ctOp) m)])] (Yz (Qu m)):=by
 refine QP rfl fun hb=>tcg (n:=42) (sg:=JM.sg) Qt (TOk.cons QlQ (TOk.cons YY TOk.nil)) (by kernel_rfl) (by kernel_rfl) (QkV _ m ?_)
 have hl_m_0:(m).length≤9223372036854775807:=hb.1.1.1
 refine JH m (fun r k=>Q4 (ZR m k) r=Q4 none m→QbG (fun r'=>r'=Yz (Qu m)) m k) ?_ ?_ rfl
 ·intro he
  refine QhI (fun r'=>r'=Yz (Qu m)) m _ ⟨fun h=>by simp at h,fun _=>?_⟩
  grind [Q4,Qu]
 ·intro k x r hk hlt hg ih he
  refine QhI (fun r'=>r'=Yz (Qu m)) m _ ⟨fun _=>?_,fun h=>by simp at h;omega⟩
  rw [Int.toNat_natCast,hg,Qi (x:=(k:Int)+1) (by omega) (by omega)]
  have ep:ZR m (k+1)=some x.2.2.1:=by simp [ZR,hg]
  rw [ep] at ih
  rcases Nat.eq_zero_or_pos k with h0 | h0
  ·subst h0
   simp only [Q4,ZR,if_true] at he
   grind [Qu]
  ·have e2:=Qaq h0 (by omega:k≤9223372036854775807)
   simp only [Q4,ZR,if_neg (Nat.ne_of_gt h0)] at he
   grind [Qu]
theorem Qc2:Qq Try.prog JM:=Qv fun x _=>QlW x.1
def Yv (t:Bool):TRes:=zre (zcb t)
def QdF:TRow:=Qp 133 [(.a [(.sl ctOp)])] fun x=>(none,Yv (Qu x.1))
def Qej:List TRow:=[Qcj]
def Qft:TCode :=
 (zsq [(.reg [zbi 19 .lss 18 17]),(.cond 19 .skip (.exit 0)),(.block 1 (zsq [(.reg [zmv 20 18,zia 21 16 18 ctOp,zLd 22 21 4,zop 4 (.new 76 (z0s ctOp)),zmv 3 20,zst 4 22 4]),(.draw [zLd 23 4 4,zca 24 134 [23],zno 25 24,zmv 26 25,.grp 26 false [zmv 27 3,zbi 28 .gtr 27 (zki 0),zmv 29 28,.grp 29 true [zfa 30 1 0,zld 31 30 1,zmv 32 3,zbi 33 .sub 32 (zki 1),zia 34 31 33 ctOp,zfa 35 34 2,zld 36 35 1,zfa 37 4 1,zld 38 37 1,zbi 39 .neq 36 38] 40 39] 41 40] []),(.cond 41 (zsq [(.reg [zmv 2 (zkb false)]),.ret]) .skip)])),(.reg [zbi 42 .add 18 (zki 1),zmv 18 42])])
def QiE:List (Nat × Md):=[(1,.b [.d]),(16,.one .d),(17,.one .d),(18,.one .d)]
def Qhw:TCode :=
 (zsq [(.reg [zmv 2 (zkb true)]),.ret])
def QmI:TCode :=
 (zsq [(.reg [zop 1 (.box 66 0 1),zmv 2 (zkb false)]),(zsq [(.reg [zfa 5 1 0,zld 6 5 1,zle 7 6,zbi 8 .lss 7 (zki 1),zmv 9 8,.grp 9 false [zfa 10 1 0,zld 11 10 1,zle 12 11,zbi 13 .gtr 12 (zki 8)] 14 13]),(.cond 14 (zsq [(.reg [zmv 2 (zkb false)]),.ret]) .skip)]),(zsq [(.reg [zfa 15 1 0,zld 16 15 1,zle 17 16,zmv 18 (zki 0)]),(.block 0 (.loop QiE Qft))]),Qhw])
def Qi5:List (ARv × Md):=[(.t 2,.one .d)]
def Qi8:Qg:=TQ 0 0 Qi5 K
def Qmb:Qg:=Qseq (tawp Qej 0 Qhw (Qi8 K)) (Qi8 K)
def Qpw:Qg:=Qblk 0 (Qmb K)
def Qaw (m:List TOp') (x:Int):Prop:=Loop Qej 0 QiE Qft (Qpw K) ⟨[(1,(.p 0 0 0)),(16,(zcs ctOp m)),(17,(zci (m.length:Int))),(18,(zci x))],[(0,(.box [(zcs ctOp m)]))],1⟩
theorem Qhb (m:List TOp') (x:Int) (h :
 (zif (decide (x<(m.length:Int))) (((0:Int)≤x∧Int.toNat x<m.length)∧(((!(!(QQ (gtd dOp m (Int.toNat x)))))=true→((decide (x>(0:Int)))=true→((0:Int)≤w64 (x-(1:Int))∧Int.toNat (w64 (x-(1:Int)))<m.length)))∧(zif ((!(QQ (gtd dOp m (Int.toNat x))))||((decide (x>(0:Int)))&&(((gtd dOp m (Int.toNat (w64 (x-(1:Int))))).2.2.1) != ((gtd dOp m (Int.toNat x)).2.1)))) (K (Yv false)) (Qaw K m (w64 (x+(1:Int))))))) (K (Yv true)))):Qaw K m x :=
 Loop.of (by kernel_rfl) h
theorem Qps (m:List TOp') (h :
 (zif ((decide ((m.length:Int)<(1:Int)))||(decide ((m.length:Int)>(8:Int)))) (K (Yv false)) (Qaw K m 0))):Hold (tawp Qej (0+0) QmI (TQ 0 0 Qi5 K) (Qm [(.a [(.c (.sl ctOp) m)])])) :=
 Hold.of (by kernel_rfl) h
theorem QoO (m:List TOp'):TCon Try.prog 133 [(.a [(.c (.sl ctOp) m)])] (Yv (Qu m)):=by
 refine QP rfl fun hb=>tcg (n:=43) (sg:=QdF.sg) Qt (TOk.cons Qqy TOk.nil) (by kernel_rfl) (by kernel_rfl) (Qps _ m ?_)
 have hl_m_0:(m).length≤9223372036854775807:=hb.1.1.1
 refine ⟨fun h=>R_eq (by grind [Qu,m_in]),fun h=>?_⟩
 have hin:m_in m.length 1 8=true:=by grind [m_in]
 refine JH m (fun r k=>Q4 (ZR m k) r=Q4 none m→Qaw (fun r'=>r'=Yv (Qu m)) m k) ?_ ?_ rfl
 ·intro he
  refine Qhb (fun r'=>r'=Yv (Qu m)) m _ ⟨fun h=>by simp at h,fun _=>?_⟩
  grind [Q4,Qu]
 ·intro k x r hk hlt hg ih he
  refine Qhb (fun r'=>r'=Yv (Qu m)) m _ ⟨fun _=>?_,fun h=>by simp at h;omega⟩
  rw [Int.toNat_natCast,hg,Qi (x:=(k:Int)+1) (by omega) (by omega)]
  have ep:ZR m (k+1)=some x.2.2.1:=by simp [ZR,hg]
  rw [ep] at ih
  rcases Nat.eq_zero_or_pos k with h0 | h0
  ·subst h0
   simp only [Q4,ZR,if_true] at he
   grind [Qu]
  ·have e2:=Qaq h0 (by omega:k≤9223372036854775807)
   simp only [Q4,ZR,if_neg (Nat.ne_of_gt h0)] at he
   grind [Qu]
theorem QnB:Qq Try.prog QdF:=Qv fun x _=>QoO x.1
def QaR (t:Int):TRes:=zre (zci t)
def Qdw:TRow:=Qp 214 [(.a [(.sl ctOp)])] fun x=>(none,QaR (Q2 x.1))
def Qqk:List TRow:=[JM]
def Qo4:TCode :=
 (zsq [(.reg [zop 1 (.box 66 0 1),zmv 2 (zki 0)]),(zsq [(.reg [zLd 3 1 1,zca 4 60 [3],zno 5 4]),(.cond 5 (zsq [(.reg [zmv 2 (zki 0)]),.ret]) .skip)]),(.reg [zfa 6 1 0,zld 7 6 1,zia 8 7 (zki 0) ctOp,zfa 9 8 1,zld 10 9 1,zmv 2 10]),.ret])
def Qmh:List (ARv × Md):=[(.t 2,.one .d)]
theorem QkR (m:List TOp') (h :
 (zif (!(Qu m)) (K (QaR (0:Int))) (((0:Int)≤(0:Int)∧Int.toNat (0:Int)<m.length)∧K (QaR ((gtd dOp m (Int.toNat (0:Int))).2.1))))):Hold (tawp Qqk (0+0) Qo4 (TQ 0 0 Qmh K) (Qm [(.a [(.c (.sl ctOp) m)])])) :=
 Hold.of (by kernel_rfl) h
theorem Qpc (m:List TOp'):TCon Try.prog 214 [(.a [(.c (.sl ctOp) m)])] (QaR (Q2 m)):=by
 refine QP rfl fun hb=>tcg (n:=11) (sg:=Qdw.sg) Qt (TOk.cons Qc2 TOk.nil) (by kernel_rfl) (by kernel_rfl) (QkR _ m ?_)
 have hl_m_0:(m).length≤9223372036854775807:=hb.1.1.1
 refine ⟨fun h=>R_eq (by grind [Q2]),fun h=>?_⟩
 have:=JR (m:=m) (by simpa using h)
 exact ⟨⟨by omega,by simp;omega⟩,R_eq (by simp at h;simp [Q2,h])⟩
theorem Qj8:Qq Try.prog Qdw:=Qv fun x _=>Qpc x.1
def Qce (t:Int):TRes:=zre (zci t)
def Qec:TRow:=Qp 215 [(.a [(.sl ctOp)])] fun x=>(none,Qce (Zc x.1))
def Qnx:List TRow:=[JM]
def Qns:TCode :=
 (zsq [(.reg [zop 1 (.box 66 0 1),zmv 2 (zki 0)]),(zsq [(.reg [zLd 3 1 1,zca 4 60 [3],zno 5 4]),(.cond 5 (zsq [(.reg [zmv 2 (zki 0)]),.ret]) .skip)]),(.reg [zfa 6 1 0,zld 7 6 1,zfa 8 1 0,zld 9 8 1,zle 10 9,zbi 11 .sub 10 (zki 1),zia 12 7 11 ctOp,zfa 13 12 2,zld 14 13 1,zmv 2 14]),.ret])
def QjV:List (ARv × Md):=[(.t 2,.one .d)]
theorem Qju (m:List TOp') (h :
 (zif (!(Qu m)) (K (Qce (0:Int))) (((0:Int)≤w64 ((m.length:Int)-(1:Int))∧Int.toNat (w64 ((m.length:Int)-(1:Int)))<m.length)∧K (Qce ((gtd dOp m (Int.toNat (w64 ((m.length:Int)-(1:Int))))).2.2.1))))):Hold (tawp Qnx (0+0) Qns (TQ 0 0 QjV K) (Qm [(.a [(.c (.sl ctOp) m)])])) :=
 Hold.of (by kernel_rfl) h
theorem Qmv (m:List TOp'):TCon Try.prog 215 [(.a [(.c (.sl ctOp) m)])] (Qce (Zc m)):=by
 refine QP rfl fun hb=>tcg (n:=15) (sg:=Qec.sg) Qt (TOk.cons Qc2 TOk.nil) (by kernel_rfl) (by kernel_rfl) (Qju _ m ?_)
 have hl_m_0:(m).length≤9223372036854775807:=hb.1.1.1
 refine ⟨fun h=>R_eq (by grind [Zc]),fun h=>?_⟩
 have:=JR (m:=m) (by simpa using h)
 have e:=Qaq this.1 (by omega:m.length≤9223372036854775807)
 rw [e.1]
 exact ⟨⟨e.2,by omega⟩,R_eq (by simp at h;simp [Zc,h])⟩
theorem QlD:Qq Try.prog Qec:=Qv fun x _=>Qmv x.1
end
end Go.Proofs.Ytephkbajoofeoaa.Am

