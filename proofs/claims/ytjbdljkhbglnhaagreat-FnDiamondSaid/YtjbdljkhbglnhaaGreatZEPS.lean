/- -/
import Derived.Test.YtjbdljkhbglnhaaGreatZEGE
namespace Go.Proofs.YtjbdljkhbglnhaaGreat.Am
open Go Go.RowKit Go.Proofs.YtjbdljkhbglnhaaGreat
set_option linter.all false
noncomputable section
variable (K:TRes→Prop)
def QbF (t:Bool):TRes:=zre (zcb t)
def QcV:TRow:=Qk 102 [(.c (.sl [TI])),(.c (.sl [TI]))] fun x=>(none,QbF (m_eq (α:=List Int) x.1 x.2.1))
def QoO:List TRow:=[]
def Qv0:TCode :=
 (zsq [(zsq [(.reg [zmv 11 5,zmv 12 0,zle 13 12,zbi 14 .lss 11 13]),(.cond 14 .skip (.exit 0))]),(.block 1 (zsq [(.draw [zmv 17 0,zmv 18 5,zia 19 17 18 [TI],zld 20 19 1,zmv 21 1,zmv 22 5,zia 23 21 22 [TI],zld 24 23 1,zbi 25 .neq 20 24] []),(.cond 25 (zsq [(.reg [zmv 4 (zkb false)]),.ret]) .skip)])),(.reg [zmv 15 5,zbi 16 .add 15 (zki 1),zmv 5 16])])
def QsI:List (Nat × Md):=zdl [0,1,5]
def QDC:TCode :=
 (zsq [(.reg [zmv 4 (zkb true)]),.ret])
def QHt:TCode :=
 (zsq [(.reg [zmv 4 (zkb false)]),(zsq [(.reg [zmv 6 0,zle 7 6,zmv 8 1,zle 9 8,zbi 10 .neq 7 9]),(.cond 10 (zsq [(.reg [zmv 4 (zkb false)]),.ret]) .skip)]),(zsq [(.reg [zmv 5 (zki 0)]),(.block 0 (.loop QsI Qv0))]),QDC])
def QBh:List (ARv × Md):=[(.t 4,.one .d)]
def QBn:Qb:=TQ 0 0 QBh K
def QIy:Qb:=Qseq (tawp QoO 0 QDC (QBn K)) (QBn K)
def QGS:Qb:=Qblk 0 (QIy K)
def QqL (a:List Int) (b:List Int) (i:Int):Prop:=Loop QoO 0 QsI Qv0 (QGS K) ⟨[(0,(zcs [TI] a)),(1,(zcs [TI] b)),(5,(zci i))],[],0⟩
theorem QPt (a:List Int) (b:List Int) (i:Int) (h :
 (zif (decide (i<(a.length:Int))) ((((0:Int)≤i∧Int.toNat i<a.length)∧((0:Int)≤i∧Int.toNat i<b.length))∧(zif ((gtd (0:Int) a (Int.toNat i)) != (gtd (0:Int) b (Int.toNat i))) (K (QbF false)) (QqL K a b (w64 (i+(1:Int)))))) (K (QbF true)))):QqL K a b i :=
 Loop.of (by kernel_rfl) h
theorem QXq (a:List Int) (b:List Int) (h :
 (zif ((a.length:Int) != (b.length:Int)) (K (QbF false)) (QqL K a b 0))):Hold (tawp QoO (0+0) QHt (TQ 0 0 QBh K) (Qg [(.c (.sl [TI]) a),(.c (.sl [TI]) b)])) :=
 Hold.of (by kernel_rfl) h
theorem QL5 (a:List Int) (b:List Int):TCon Tryz.prog 102 [(.c (.sl [TI]) a),(.c (.sl [TI]) b)] (QbF (m_eq (α:=List Int) a b)):=by
 refine Qo rfl fun hb=>tcg (n:=26) (sg:=QcV.sg) Qm TOk.nil (by kernel_rfl) (by kernel_rfl) (QXq _ a b ?_)
 have hl_a:a.length≤9223372036854775807:=hb.1.1
 have hl_b:b.length≤9223372036854775807:=hb.2.1.1
 exact QCp hb.1.1 (fun i h=>QPt (fun r'=>r'=QbF (m_eq (α:=List Int) a b)) a b i h) (Q:=fun x=>QbF x=QbF (m_eq (α:=List Int) a b)) rfl
theorem Qe7:Qj Tryz.prog QcV:=Qn fun x _=>QL5 x.1 x.2.1
def QbC (t:Bool):TRes:=zre (zcb t)
def QgY:TRow:=Qk 47 [(.c (.sl [(.sl [TI])])),(.c (.sl [(.sl [TI])]))] fun x=>(none,QbC (m_eq (α:=List (List Int)) x.1 x.2.1))
def QmM:List TRow:=[QcV]
def Qvn:TCode :=
 (zsq [(zsq [(.reg [zmv 11 5,zmv 12 0,zle 13 12,zbi 14 .lss 11 13]),(.cond 14 .skip (.exit 0))]),(.block 1 (zsq [(.draw [zmv 17 0,zmv 18 5,zia 19 17 18 [(.sl [TI])],zfa 20 19 0,zld 21 20 1,zmv 22 1,zmv 23 5,zia 24 22 23 [(.sl [TI])],zfa 25 24 0,zld 26 25 1,zca 27 102 [21,26],zno 28 27] []),(.cond 28 (zsq [(.reg [zmv 4 (zkb false)]),.ret]) .skip)])),(.reg [zmv 15 5,zbi 16 .add 15 (zki 1),zmv 5 16])])
def Qz2:List (Nat × Md):=zdl [0,1,5]
def QCs:TCode :=
 (zsq [(.reg [zmv 4 (zkb true)]),.ret])
def QQf:TCode :=
 (zsq [(.reg [zmv 4 (zkb false)]),(zsq [(.reg [zmv 6 0,zle 7 6,zmv 8 1,zle 9 8,zbi 10 .neq 7 9]),(.cond 10 (zsq [(.reg [zmv 4 (zkb false)]),.ret]) .skip)]),(zsq [(.reg [zmv 5 (zki 0)]),(.block 0 (.loop Qz2 Qvn))]),QCs])
def QDa:List (ARv × Md):=[(.t 4,.one .d)]
def QDl:Qb:=TQ 0 0 QDa K
def QOv:Qb:=Qseq (tawp QmM 0 QCs (QDl K)) (QDl K)
def QGq:Qb:=Qblk 0 (QOv K)
def Qow (a:List (List Int)) (b:List (List Int)) (i:Int):Prop:=Loop QmM 0 Qz2 Qvn (QGq K) ⟨[(0,(zcs [(.sl [TI])] a)),(1,(zcs [(.sl [TI])] b)),(5,(zci i))],[],0⟩
theorem QWg (a:List (List Int)) (b:List (List Int)) (i:Int) (h :
 (zif (decide (i<(a.length:Int))) ((((0:Int)≤i∧Int.toNat i<a.length)∧((0:Int)≤i∧Int.toNat i<b.length))∧(zif (!(m_eq (α:=List Int) (gtd ([]:List Int) a (Int.toNat i)) (gtd ([]:List Int) b (Int.toNat i)))) (K (QbC false)) (Qow K a b (w64 (i+(1:Int)))))) (K (QbC true)))):Qow K a b i :=
 Loop.of (by kernel_rfl) h
theorem QSj (a:List (List Int)) (b:List (List Int)) (h :
 (zif ((a.length:Int) != (b.length:Int)) (K (QbC false)) (Qow K a b 0))):Hold (tawp QmM (0+0) QQf (TQ 0 0 QDa K) (Qg [(.c (.sl [(.sl [TI])]) a),(.c (.sl [(.sl [TI])]) b)])) :=
 Hold.of (by kernel_rfl) h
theorem QVt (a:List (List Int)) (b:List (List Int)):TCon Tryz.prog 47 [(.c (.sl [(.sl [TI])]) a),(.c (.sl [(.sl [TI])]) b)] (QbC (m_eq (α:=List (List Int)) a b)):=by
 refine Qo rfl fun hb=>tcg (n:=29) (sg:=QgY.sg) Qm (TOk.cons Qe7 TOk.nil) (by kernel_rfl) (by kernel_rfl) (QSj _ a b ?_)
 have hl_a:a.length≤9223372036854775807:=hb.1.1
 have hl_b:b.length≤9223372036854775807:=hb.2.1.1
 exact QyL [] (E:=m_eq) (fun _ _=>rfl) hb.1.1 (fun i h=>QWg (fun r'=>r'=QbC (m_eq (α:=List (List Int)) a b)) a b i h) (Q:=fun x=>QbC x=QbC (m_eq (α:=List (List Int)) a b)) rfl
theorem QCC:Qj Tryz.prog QgY:=Qn fun x _=>QVt x.1 x.2.1
def Qmf (t:Bool):TRes:=zre (zcb t)
def QlZ:TRow:=Qk 24 [(.a Zk),(.a Zk)] fun x=>(none,Qmf (m_eq (α:=QZ) x.1 x.2.1))
def QII:List TRow:=[QgY]
def QG5:TCode :=
 (zsq [(.reg [zop 2 (.box 46 0 3),zop 3 (.box 46 1 3),zmv 4 (zkb false)]),(.reg [zfa 5 2 1,zld 6 5 1,zfa 7 3 1,zld 8 7 1,zbi 9 .eql 6 8,zmv 10 9,.grp 10 true [zfa 11 2 2,zld 12 11 1,zfa 13 3 2,zld 14 13 1,zop 15 (.eqb false 12 14)] 16 15,zmv 17 16,.grp 17 true [zfa 18 2 0,zld 19 18 1,zfa 20 3 0,zld 21 20 1,zca 22 47 [19,21]] 23 22,zmv 4 23]),.ret])
def QP4:List (ARv × Md):=[(.t 4,.one .d)]
theorem QIK (a:QZ) (b:QZ) (h :
 K (Qmf (((a.2.1==b.2.1)&&((a.2.2==b.2.2)))&&(m_eq (α:=List (List Int)) a.1 b.1)))):Hold (tawp QII (0+0) QG5 (TQ 0 0 QP4 K) (Qg [(.a (Tup.cells Zk a)),(.a (Tup.cells Zk b))])) :=
 Hold.of (by kernel_rfl) h
theorem QLD (a:QZ) (b:QZ):TCon Tryz.prog 24 [(.a (Tup.cells Zk a)),(.a (Tup.cells Zk b))] (Qmf (m_eq (α:=QZ) a b)):=by
 refine Qo rfl fun hb=>tcg (n:=24) (sg:=QlZ.sg) Qm (TOk.cons QCC TOk.nil) (by kernel_rfl) (by kernel_rfl) (QIK _ a b ?_)
 have hl_a_0:(a.1).length≤9223372036854775807:=hb.1.1.1
 have hl_b_0:(b.1).length≤9223372036854775807:=hb.2.1.1.1
 refine R_eq ?_
 rw [Bool.eq_iff_iff]
 simp [m_eq,Prod.ext_iff]
 constructor
 ·rintro ⟨⟨h1,h2⟩,h3⟩;exact ⟨h3,h1,h2⟩
 ·rintro ⟨h3,h1,h2⟩;exact ⟨⟨h1,h2⟩,h3⟩
theorem QQ2:Qj Tryz.prog QlZ:=Qn fun x _=>QLD x.1 x.2.1
def Qo7 (t:Bool):TRes:=zre (zcb t)
def Qp6:TRow:=Qk 179 [(.a ctOp),(.a ctOp)] fun x=>(none,Qo7 (m_eq (α:=TOp') x.1 x.2.1))
def QHf:List TRow:=[QcV]
def QMp:TCode :=
 (zsq [(.reg [zop 2 (.box 69 0 4),zop 3 (.box 69 1 4),zmv 4 (zkb false)]),(.reg [zfa 5 2 0,zld 6 5 1,zfa 7 3 0,zld 8 7 1,zbi 9 .eql 6 8,zmv 10 9,.grp 10 true [zfa 11 2 1,zld 12 11 1,zfa 13 3 1,zld 14 13 1,zbi 15 .eql 12 14] 16 15,zmv 17 16,.grp 17 true [zfa 18 2 2,zld 19 18 1,zfa 20 3 2,zld 21 20 1,zbi 22 .eql 19 21] 23 22,zmv 24 23,.grp 24 true [zfa 25 2 3,zld 26 25 1,zfa 27 3 3,zld 28 27 1,zca 29 102 [26,28]] 30 29,zmv 4 30]),.ret])
def QOr:List (ARv × Md):=[(.t 4,.one .d)]
theorem QG7 (a:TOp') (b:TOp') (h :
 K (Qo7 ((((a.1==b.1)&&(a.2.1==b.2.1))&&(a.2.2.1==b.2.2.1))&&(m_eq (α:=List Int) a.2.2.2 b.2.2.2)))):Hold (tawp QHf (0+0) QMp (TQ 0 0 QOr K) (Qg [(.a (Tup.cells ctOp a)),(.a (Tup.cells ctOp b))])) :=
 Hold.of (by kernel_rfl) h
theorem QQK (a:TOp') (b:TOp'):TCon Tryz.prog 179 [(.a (Tup.cells ctOp a)),(.a (Tup.cells ctOp b))] (Qo7 (m_eq (α:=TOp') a b)):=by
 refine Qo rfl fun hb=>tcg (n:=31) (sg:=Qp6.sg) Qm (TOk.cons Qe7 TOk.nil) (by kernel_rfl) (by kernel_rfl) (QG7 _ a b ?_)
 have hl_a_3:(a.2.2.2).length≤9223372036854775807:=hb.1.2.2.2.1.1
 have hl_b_3:(b.2.2.2).length≤9223372036854775807:=hb.2.1.2.2.2.1.1
 refine R_eq ?_
 rw [Bool.eq_iff_iff]
 simp [m_eq,Prod.ext_iff,and_assoc]
theorem QFt:Qj Tryz.prog Qp6:=Qn fun x _=>QQK x.1 x.2.1
end
end Go.Proofs.YtjbdljkhbglnhaaGreat.Am

