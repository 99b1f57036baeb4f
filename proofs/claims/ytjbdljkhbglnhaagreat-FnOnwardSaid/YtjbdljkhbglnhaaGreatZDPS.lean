/- -/
import Derived.Test.YtjbdljkhbglnhaaGreatZDGE
namespace Go.Proofs.YtjbdljkhbglnhaaGreat.Am
open Go Go.RowKit Go.Proofs.YtjbdljkhbglnhaaGreat
set_option linter.all false
noncomputable section
variable (K:TRes→Prop)
def Qcm (t:Bool):TRes:=zre (zcb t)
def Qcw:TRow:=Qj 102 [(.c (.sl [TI])),(.c (.sl [TI]))] fun x=>(none,Qcm (m_eq (α:=List Int) x.1 x.2.1))
def Qlg:List TRow:=[]
def QB4:TCode :=
 (zsq [(zsq [(.reg [zmv 11 5,zmv 12 0,zle 13 12,zbi 14 .lss 11 13]),(.cond 14 .skip (.exit 0))]),(.block 1 (zsq [(.draw [zmv 17 0,zmv 18 5,zia 19 17 18 [TI],zld 20 19 1,zmv 21 1,zmv 22 5,zia 23 21 22 [TI],zld 24 23 1,zbi 25 .neq 20 24] []),(.cond 25 (zsq [(.reg [zmv 4 (zkb false)]),.ret]) .skip)])),(.reg [zmv 15 5,zbi 16 .add 15 (zki 1),zmv 5 16])])
def QxQ:List (Nat × Md):=zdl [0,1,5]
def Qxk:TCode :=
 (zsq [(.reg [zmv 4 (zkb true)]),.ret])
def QT2:TCode :=
 (zsq [(.reg [zmv 4 (zkb false)]),(zsq [(.reg [zmv 6 0,zle 7 6,zmv 8 1,zle 9 8,zbi 10 .neq 7 9]),(.cond 10 (zsq [(.reg [zmv 4 (zkb false)]),.ret]) .skip)]),(zsq [(.reg [zmv 5 (zki 0)]),(.block 0 (.loop QxQ QB4))]),Qxk])
def Qx2:List (ARv × Md):=[(.t 4,.one .d)]
def QtQ:Qb:=TQ 0 0 Qx2 K
def QTX:Qb:=Qseq (tawp Qlg 0 Qxk (QtQ K)) (QtQ K)
def QMH:Qb:=Qblk 0 (QTX K)
def Qo2 (a:List Int) (b:List Int) (i:Int):Prop:=Loop Qlg 0 QxQ QB4 (QMH K) ⟨[(0,(zcs [TI] a)),(1,(zcs [TI] b)),(5,(zci i))],[],0⟩
theorem QRX (a:List Int) (b:List Int) (i:Int) (h :
 (zif (decide (i<(a.length:Int))) ((((0:Int)≤i∧Int.toNat i<a.length)∧((0:Int)≤i∧Int.toNat i<b.length))∧(zif ((gtd (0:Int) a (Int.toNat i)) != (gtd (0:Int) b (Int.toNat i))) (K (Qcm false)) (Qo2 K a b (w64 (i+(1:Int)))))) (K (Qcm true)))):Qo2 K a b i :=
 Loop.of (by kernel_rfl) h
theorem QP7 (a:List Int) (b:List Int) (h :
 (zif ((a.length:Int) != (b.length:Int)) (K (Qcm false)) (Qo2 K a b 0))):Hold (tawp Qlg (0+0) QT2 (TQ 0 0 Qx2 K) (Qh [(.c (.sl [TI]) a),(.c (.sl [TI]) b)])) :=
 Hold.of (by kernel_rfl) h
theorem QN4 (a:List Int) (b:List Int):TCon Tryz.prog 102 [(.c (.sl [TI]) a),(.c (.sl [TI]) b)] (Qcm (m_eq (α:=List Int) a b)):=by
 refine Qo rfl fun hb=>tcg (n:=26) (sg:=Qcw.sg) Ql TOk.nil (by kernel_rfl) (by kernel_rfl) (QP7 _ a b ?_)
 have hl_a:a.length≤9223372036854775807:=hb.1.1
 have hl_b:b.length≤9223372036854775807:=hb.2.1.1
 exact QOx hb.1.1 (fun i h=>QRX (fun r'=>r'=Qcm (m_eq (α:=List Int) a b)) a b i h) (Q:=fun x=>Qcm x=Qcm (m_eq (α:=List Int) a b)) rfl
theorem Qfy:Qi Tryz.prog Qcw:=Qm fun x _=>QN4 x.1 x.2.1
def Qca (t:Bool):TRes:=zre (zcb t)
def QjO:TRow:=Qj 47 [(.c (.sl [(.sl [TI])])),(.c (.sl [(.sl [TI])]))] fun x=>(none,Qca (m_eq (α:=List (List Int)) x.1 x.2.1))
def Qou:List TRow:=[Qcw]
def Qrg:TCode :=
 (zsq [(zsq [(.reg [zmv 11 5,zmv 12 0,zle 13 12,zbi 14 .lss 11 13]),(.cond 14 .skip (.exit 0))]),(.block 1 (zsq [(.draw [zmv 17 0,zmv 18 5,zia 19 17 18 [(.sl [TI])],zfa 20 19 0,zld 21 20 1,zmv 22 1,zmv 23 5,zia 24 22 23 [(.sl [TI])],zfa 25 24 0,zld 26 25 1,zca 27 102 [21,26],zno 28 27] []),(.cond 28 (zsq [(.reg [zmv 4 (zkb false)]),.ret]) .skip)])),(.reg [zmv 15 5,zbi 16 .add 15 (zki 1),zmv 5 16])])
def QzM:List (Nat × Md):=zdl [0,1,5]
def QBV:TCode :=
 (zsq [(.reg [zmv 4 (zkb true)]),.ret])
def QVl:TCode :=
 (zsq [(.reg [zmv 4 (zkb false)]),(zsq [(.reg [zmv 6 0,zle 7 6,zmv 8 1,zle 9 8,zbi 10 .neq 7 9]),(.cond 10 (zsq [(.reg [zmv 4 (zkb false)]),.ret]) .skip)]),(zsq [(.reg [zmv 5 (zki 0)]),(.block 0 (.loop QzM Qrg))]),QBV])
def Qvx:List (ARv × Md):=[(.t 4,.one .d)]
def QyE:Qb:=TQ 0 0 Qvx K
def QHG:Qb:=Qseq (tawp Qou 0 QBV (QyE K)) (QyE K)
def QWF:Qb:=Qblk 0 (QHG K)
def Qps (a:List (List Int)) (b:List (List Int)) (i:Int):Prop:=Loop Qou 0 QzM Qrg (QWF K) ⟨[(0,(zcs [(.sl [TI])] a)),(1,(zcs [(.sl [TI])] b)),(5,(zci i))],[],0⟩
theorem QIj (a:List (List Int)) (b:List (List Int)) (i:Int) (h :
 (zif (decide (i<(a.length:Int))) ((((0:Int)≤i∧Int.toNat i<a.length)∧((0:Int)≤i∧Int.toNat i<b.length))∧(zif (!(m_eq (α:=List Int) (gtd ([]:List Int) a (Int.toNat i)) (gtd ([]:List Int) b (Int.toNat i)))) (K (Qca false)) (Qps K a b (w64 (i+(1:Int)))))) (K (Qca true)))):Qps K a b i :=
 Loop.of (by kernel_rfl) h
theorem QP4 (a:List (List Int)) (b:List (List Int)) (h :
 (zif ((a.length:Int) != (b.length:Int)) (K (Qca false)) (Qps K a b 0))):Hold (tawp Qou (0+0) QVl (TQ 0 0 Qvx K) (Qh [(.c (.sl [(.sl [TI])]) a),(.c (.sl [(.sl [TI])]) b)])) :=
 Hold.of (by kernel_rfl) h
theorem QYh (a:List (List Int)) (b:List (List Int)):TCon Tryz.prog 47 [(.c (.sl [(.sl [TI])]) a),(.c (.sl [(.sl [TI])]) b)] (Qca (m_eq (α:=List (List Int)) a b)):=by
 refine Qo rfl fun hb=>tcg (n:=29) (sg:=QjO.sg) Ql (TOk.cons Qfy TOk.nil) (by kernel_rfl) (by kernel_rfl) (QP4 _ a b ?_)
 have hl_a:a.length≤9223372036854775807:=hb.1.1
 have hl_b:b.length≤9223372036854775807:=hb.2.1.1
 exact QzH [] (E:=m_eq) (fun _ _=>rfl) hb.1.1 (fun i h=>QIj (fun r'=>r'=Qca (m_eq (α:=List (List Int)) a b)) a b i h) (Q:=fun x=>Qca x=Qca (m_eq (α:=List (List Int)) a b)) rfl
theorem QDO:Qi Tryz.prog QjO:=Qm fun x _=>QYh x.1 x.2.1
def QlI (t:Bool):TRes:=zre (zcb t)
def Qn9:TRow:=Qj 24 [(.a Zk),(.a Zk)] fun x=>(none,QlI (m_eq (α:=Q2) x.1 x.2.1))
def QT0:List TRow:=[QjO]
def QOo:TCode :=
 (zsq [(.reg [zop 2 (.box 46 0 3),zop 3 (.box 46 1 3),zmv 4 (zkb false)]),(.reg [zfa 5 2 1,zld 6 5 1,zfa 7 3 1,zld 8 7 1,zbi 9 .eql 6 8,zmv 10 9,.grp 10 true [zfa 11 2 2,zld 12 11 1,zfa 13 3 2,zld 14 13 1,zop 15 (.eqb false 12 14)] 16 15,zmv 17 16,.grp 17 true [zfa 18 2 0,zld 19 18 1,zfa 20 3 0,zld 21 20 1,zca 22 47 [19,21]] 23 22,zmv 4 23]),.ret])
def QO6:List (ARv × Md):=[(.t 4,.one .d)]
theorem QSs (a:Q2) (b:Q2) (h :
 K (QlI (((a.2.1==b.2.1)&&((a.2.2==b.2.2)))&&(m_eq (α:=List (List Int)) a.1 b.1)))):Hold (tawp QT0 (0+0) QOo (TQ 0 0 QO6 K) (Qh [(.a (Tup.cells Zk a)),(.a (Tup.cells Zk b))])) :=
 Hold.of (by kernel_rfl) h
theorem QUu (a:Q2) (b:Q2):TCon Tryz.prog 24 [(.a (Tup.cells Zk a)),(.a (Tup.cells Zk b))] (QlI (m_eq (α:=Q2) a b)):=by
 refine Qo rfl fun hb=>tcg (n:=24) (sg:=Qn9.sg) Ql (TOk.cons QDO TOk.nil) (by kernel_rfl) (by kernel_rfl) (QSs _ a b ?_)
 have hl_a_0:(a.1).length≤9223372036854775807:=hb.1.1.1
 have hl_b_0:(b.1).length≤9223372036854775807:=hb.2.1.1.1
 refine R_eq ?_
 rw [Bool.eq_iff_iff]
 simp [m_eq,Prod.ext_iff]
 constructor
 ·rintro ⟨⟨h1,h2⟩,h3⟩;exact ⟨h3,h1,h2⟩
 ·rintro ⟨h3,h1,h2⟩;exact ⟨⟨h1,h2⟩,h3⟩
theorem QFm:Qi Tryz.prog Qn9:=Qm fun x _=>QUu x.1 x.2.1
def Qnc (t:Bool):TRes:=zre (zcb t)
def Qoi:TRow:=Qj 179 [(.a ctOp),(.a ctOp)] fun x=>(none,Qnc (m_eq (α:=TOp') x.1 x.2.1))
def QNq:List TRow:=[Qcw]
def QGx:TCode :=
 (zsq [(.reg [zop 2 (.box 69 0 4),zop 3 (.box 69 1 4),zmv 4 (zkb false)]),(.reg [zfa 5 2 0,zld 6 5 1,zfa 7 3 0,zld 8 7 1,zbi 9 .eql 6 8,zmv 10 9,.grp 10 true [zfa 11 2 1,zld 12 11 1,zfa 13 3 1,zld 14 13 1,zbi 15 .eql 12 14] 16 15,zmv 17 16,.grp 17 true [zfa 18 2 2,zld 19 18 1,zfa 20 3 2,zld 21 20 1,zbi 22 .eql 19 21] 23 22,zmv 24 23,.grp 24 true [zfa 25 2 3,zld 26 25 1,zfa 27 3 3,zld 28 27 1,zca 29 102 [26,28]] 30 29,zmv 4 30]),.ret])
def QOW:List (ARv × Md):=[(.t 4,.one .d)]
theorem QPT (a:TOp') (b:TOp') (h :
 K (Qnc ((((a.1==b.1)&&(a.2.1==b.2.1))&&(a.2.2.1==b.2.2.1))&&(m_eq (α:=List Int) a.2.2.2 b.2.2.2)))):Hold (tawp QNq (0+0) QGx (TQ 0 0 QOW K) (Qh [(.a (Tup.cells ctOp a)),(.a (Tup.cells ctOp b))])) :=
 Hold.of (by kernel_rfl) h
theorem QH4 (a:TOp') (b:TOp'):TCon Tryz.prog 179 [(.a (Tup.cells ctOp a)),(.a (Tup.cells ctOp b))] (Qnc (m_eq (α:=TOp') a b)):=by
 refine Qo rfl fun hb=>tcg (n:=31) (sg:=Qoi.sg) Ql (TOk.cons Qfy TOk.nil) (by kernel_rfl) (by kernel_rfl) (QPT _ a b ?_)
 have hl_a_3:(a.2.2.2).length≤9223372036854775807:=hb.1.2.2.2.1.1
 have hl_b_3:(b.2.2.2).length≤9223372036854775807:=hb.2.1.2.2.2.1.1
 refine R_eq ?_
 rw [Bool.eq_iff_iff]
 simp [m_eq,Prod.ext_iff,and_assoc]
theorem QFE:Qi Tryz.prog Qoi:=Qm fun x _=>QH4 x.1 x.2.1
end
end Go.Proofs.YtjbdljkhbglnhaaGreat.Am

