/- -/
import Derived.Test.YtjbdljkhbglnhaaGreatZIGE
namespace Go.Proofs.YtjbdljkhbglnhaaGreat.Am
open Go Go.RowKit Go.Proofs.YtjbdljkhbglnhaaGreat
set_option linter.all false
noncomputable section
variable (K:TRes→Prop)
def QbK (t:Bool):TRes:=zre (zcb t)
def Qcr:TRow:=Qk 102 [(.c (.sl [TI])),(.c (.sl [TI]))] fun x=>(none,QbK (m_eq (α:=List Int) x.1 x.2.1))
def QkU:List TRow:=[]
def Qxh:TCode :=
 (zsq [(zsq [(.reg [zmv 11 5,zmv 12 0,zle 13 12,zbi 14 .lss 11 13]),(.cond 14 .skip (.exit 0))]),(.block 1 (zsq [(.draw [zmv 17 0,zmv 18 5,zia 19 17 18 [TI],zld 20 19 1,zmv 21 1,zmv 22 5,zia 23 21 22 [TI],zld 24 23 1,zbi 25 .neq 20 24] []),(.cond 25 (zsq [(.reg [zmv 4 (zkb false)]),.ret]) .skip)])),(.reg [zmv 15 5,zbi 16 .add 15 (zki 1),zmv 5 16])])
def QDJ:List (Nat × Md):=zdl [0,1,5]
def QCs:TCode :=
 (zsq [(.reg [zmv 4 (zkb true)]),.ret])
def QTQ:TCode :=
 (zsq [(.reg [zmv 4 (zkb false)]),(zsq [(.reg [zmv 6 0,zle 7 6,zmv 8 1,zle 9 8,zbi 10 .neq 7 9]),(.cond 10 (zsq [(.reg [zmv 4 (zkb false)]),.ret]) .skip)]),(zsq [(.reg [zmv 5 (zki 0)]),(.block 0 (.loop QDJ Qxh))]),QCs])
def Qut:List (ARv × Md):=[(.t 4,.one .d)]
def QAU:Qb:=TQ 0 0 Qut K
def QNw:Qb:=Qseq (tawp QkU 0 QCs (QAU K)) (QAU K)
def QMd:Qb:=Qblk 0 (QNw K)
def Qmz (a:List Int) (b:List Int) (i:Int):Prop:=Loop QkU 0 QDJ Qxh (QMd K) ⟨[(0,(zcs [TI] a)),(1,(zcs [TI] b)),(5,(zci i))],[],0⟩
theorem QSI (a:List Int) (b:List Int) (i:Int) (h :
 (zif (decide (i<(a.length:Int))) ((((0:Int)≤i∧Int.toNat i<a.length)∧((0:Int)≤i∧Int.toNat i<b.length))∧(zif ((gtd (0:Int) a (Int.toNat i)) != (gtd (0:Int) b (Int.toNat i))) (K (QbK false)) (Qmz K a b (w64 (i+(1:Int)))))) (K (QbK true)))):Qmz K a b i :=
 Loop.of (by kernel_rfl) h
theorem QVd (a:List Int) (b:List Int) (h :
 (zif ((a.length:Int) != (b.length:Int)) (K (QbK false)) (Qmz K a b 0))):Hold (tawp QkU (0+0) QTQ (TQ 0 0 Qut K) (Qi [(.c (.sl [TI]) a),(.c (.sl [TI]) b)])) :=
 Hold.of (by kernel_rfl) h
theorem QUB (a:List Int) (b:List Int):TCon Tryz.prog 102 [(.c (.sl [TI]) a),(.c (.sl [TI]) b)] (QbK (m_eq (α:=List Int) a b)):=by
 refine Qo rfl fun hb=>tcg (n:=26) (sg:=Qcr.sg) Qm TOk.nil (by kernel_rfl) (by kernel_rfl) (QVd _ a b ?_)
 have hl_a:a.length≤9223372036854775807:=hb.1.1
 have hl_b:b.length≤9223372036854775807:=hb.2.1.1
 exact QVx hb.1.1 (fun i h=>QSI (fun r'=>r'=QbK (m_eq (α:=List Int) a b)) a b i h) (Q:=fun x=>QbK x=QbK (m_eq (α:=List Int) a b)) rfl
theorem Qe2:Ql Tryz.prog Qcr:=Qn fun x _=>QUB x.1 x.2.1
def Qcd (t:Bool):TRes:=zre (zcb t)
def Qg7:TRow:=Qk 47 [(.c (.sl [(.sl [TI])])),(.c (.sl [(.sl [TI])]))] fun x=>(none,Qcd (m_eq (α:=List (List Int)) x.1 x.2.1))
def QoY:List TRow:=[Qcr]
def QqE:TCode :=
 (zsq [(zsq [(.reg [zmv 11 5,zmv 12 0,zle 13 12,zbi 14 .lss 11 13]),(.cond 14 .skip (.exit 0))]),(.block 1 (zsq [(.draw [zmv 17 0,zmv 18 5,zia 19 17 18 [(.sl [TI])],zfa 20 19 0,zld 21 20 1,zmv 22 1,zmv 23 5,zia 24 22 23 [(.sl [TI])],zfa 25 24 0,zld 26 25 1,zca 27 102 [21,26],zno 28 27] []),(.cond 28 (zsq [(.reg [zmv 4 (zkb false)]),.ret]) .skip)])),(.reg [zmv 15 5,zbi 16 .add 15 (zki 1),zmv 5 16])])
def QBz:List (Nat × Md):=zdl [0,1,5]
def QDk:TCode :=
 (zsq [(.reg [zmv 4 (zkb true)]),.ret])
def QMf:TCode :=
 (zsq [(.reg [zmv 4 (zkb false)]),(zsq [(.reg [zmv 6 0,zle 7 6,zmv 8 1,zle 9 8,zbi 10 .neq 7 9]),(.cond 10 (zsq [(.reg [zmv 4 (zkb false)]),.ret]) .skip)]),(zsq [(.reg [zmv 5 (zki 0)]),(.block 0 (.loop QBz QqE))]),QDk])
def Qra:List (ARv × Md):=[(.t 4,.one .d)]
def QqU:Qb:=TQ 0 0 Qra K
def QTL:Qb:=Qseq (tawp QoY 0 QDk (QqU K)) (QqU K)
def QPu:Qb:=Qblk 0 (QTL K)
def Qm4 (a:List (List Int)) (b:List (List Int)) (i:Int):Prop:=Loop QoY 0 QBz QqE (QPu K) ⟨[(0,(zcs [(.sl [TI])] a)),(1,(zcs [(.sl [TI])] b)),(5,(zci i))],[],0⟩
theorem QG9 (a:List (List Int)) (b:List (List Int)) (i:Int) (h :
 (zif (decide (i<(a.length:Int))) ((((0:Int)≤i∧Int.toNat i<a.length)∧((0:Int)≤i∧Int.toNat i<b.length))∧(zif (!(m_eq (α:=List Int) (gtd ([]:List Int) a (Int.toNat i)) (gtd ([]:List Int) b (Int.toNat i)))) (K (Qcd false)) (Qm4 K a b (w64 (i+(1:Int)))))) (K (Qcd true)))):Qm4 K a b i :=
 Loop.of (by kernel_rfl) h
theorem QRw (a:List (List Int)) (b:List (List Int)) (h :
 (zif ((a.length:Int) != (b.length:Int)) (K (Qcd false)) (Qm4 K a b 0))):Hold (tawp QoY (0+0) QMf (TQ 0 0 Qra K) (Qi [(.c (.sl [(.sl [TI])]) a),(.c (.sl [(.sl [TI])]) b)])) :=
 Hold.of (by kernel_rfl) h
theorem QKh (a:List (List Int)) (b:List (List Int)):TCon Tryz.prog 47 [(.c (.sl [(.sl [TI])]) a),(.c (.sl [(.sl [TI])]) b)] (Qcd (m_eq (α:=List (List Int)) a b)):=by
 refine Qo rfl fun hb=>tcg (n:=29) (sg:=Qg7.sg) Qm (TOk.cons Qe2 TOk.nil) (by kernel_rfl) (by kernel_rfl) (QRw _ a b ?_)
 have hl_a:a.length≤9223372036854775807:=hb.1.1
 have hl_b:b.length≤9223372036854775807:=hb.2.1.1
 exact QC6 [] (E:=m_eq) (fun _ _=>rfl) hb.1.1 (fun i h=>QG9 (fun r'=>r'=Qcd (m_eq (α:=List (List Int)) a b)) a b i h) (Q:=fun x=>Qcd x=Qcd (m_eq (α:=List (List Int)) a b)) rfl
theorem QyM:Ql Tryz.prog Qg7:=Qn fun x _=>QKh x.1 x.2.1
def Qp5 (t:Bool):TRes:=zre (zcb t)
def QpY:TRow:=Qk 24 [(.a Zg),(.a Zg)] fun x=>(none,Qp5 (m_eq (α:=Q1) x.1 x.2.1))
def QLF:List TRow:=[Qg7]
def QWw:TCode :=
 (zsq [(.reg [zop 2 (.box 46 0 3),zop 3 (.box 46 1 3),zmv 4 (zkb false)]),(.reg [zfa 5 2 1,zld 6 5 1,zfa 7 3 1,zld 8 7 1,zbi 9 .eql 6 8,zmv 10 9,.grp 10 true [zfa 11 2 2,zld 12 11 1,zfa 13 3 2,zld 14 13 1,zop 15 (.eqb false 12 14)] 16 15,zmv 17 16,.grp 17 true [zfa 18 2 0,zld 19 18 1,zfa 20 3 0,zld 21 20 1,zca 22 47 [19,21]] 23 22,zmv 4 23]),.ret])
def QS8:List (ARv × Md):=[(.t 4,.one .d)]
theorem QEH (a:Q1) (b:Q1) (h :
 K (Qp5 (((a.2.1==b.2.1)&&((a.2.2==b.2.2)))&&(m_eq (α:=List (List Int)) a.1 b.1)))):Hold (tawp QLF (0+0) QWw (TQ 0 0 QS8 K) (Qi [(.a (Tup.cells Zg a)),(.a (Tup.cells Zg b))])) :=
 Hold.of (by kernel_rfl) h
theorem QIr (a:Q1) (b:Q1):TCon Tryz.prog 24 [(.a (Tup.cells Zg a)),(.a (Tup.cells Zg b))] (Qp5 (m_eq (α:=Q1) a b)):=by
 refine Qo rfl fun hb=>tcg (n:=24) (sg:=QpY.sg) Qm (TOk.cons QyM TOk.nil) (by kernel_rfl) (by kernel_rfl) (QEH _ a b ?_)
 have hl_a_0:(a.1).length≤9223372036854775807:=hb.1.1.1
 have hl_b_0:(b.1).length≤9223372036854775807:=hb.2.1.1.1
 refine R_eq ?_
 rw [Bool.eq_iff_iff]
 simp [m_eq,Prod.ext_iff]
 constructor
 ·rintro ⟨⟨h1,h2⟩,h3⟩;exact ⟨h3,h1,h2⟩
 ·rintro ⟨h3,h1,h2⟩;exact ⟨⟨h1,h2⟩,h3⟩
theorem QPs:Ql Tryz.prog QpY:=Qn fun x _=>QIr x.1 x.2.1
def QpL (t:Bool):TRes:=zre (zcb t)
def Qpq:TRow:=Qk 179 [(.a ctOp),(.a ctOp)] fun x=>(none,QpL (m_eq (α:=TOp') x.1 x.2.1))
def QGE:List TRow:=[Qcr]
def QN1:TCode :=
 (zsq [(.reg [zop 2 (.box 69 0 4),zop 3 (.box 69 1 4),zmv 4 (zkb false)]),(.reg [zfa 5 2 0,zld 6 5 1,zfa 7 3 0,zld 8 7 1,zbi 9 .eql 6 8,zmv 10 9,.grp 10 true [zfa 11 2 1,zld 12 11 1,zfa 13 3 1,zld 14 13 1,zbi 15 .eql 12 14] 16 15,zmv 17 16,.grp 17 true [zfa 18 2 2,zld 19 18 1,zfa 20 3 2,zld 21 20 1,zbi 22 .eql 19 21] 23 22,zmv 24 23,.grp 24 true [zfa 25 2 3,zld 26 25 1,zfa 27 3 3,zld 28 27 1,zca 29 102 [26,28]] 30 29,zmv 4 30]),.ret])
def QNd:List (ARv × Md):=[(.t 4,.one .d)]
theorem QLs (a:TOp') (b:TOp') (h :
 K (QpL ((((a.1==b.1)&&(a.2.1==b.2.1))&&(a.2.2.1==b.2.2.1))&&(m_eq (α:=List Int) a.2.2.2 b.2.2.2)))):Hold (tawp QGE (0+0) QN1 (TQ 0 0 QNd K) (Qi [(.a (Tup.cells ctOp a)),(.a (Tup.cells ctOp b))])) :=
 Hold.of (by kernel_rfl) h
theorem QHG (a:TOp') (b:TOp'):TCon Tryz.prog 179 [(.a (Tup.cells ctOp a)),(.a (Tup.cells ctOp b))] (QpL (m_eq (α:=TOp') a b)):=by
 refine Qo rfl fun hb=>tcg (n:=31) (sg:=Qpq.sg) Qm (TOk.cons Qe2 TOk.nil) (by kernel_rfl) (by kernel_rfl) (QLs _ a b ?_)
 have hl_a_3:(a.2.2.2).length≤9223372036854775807:=hb.1.2.2.2.1.1
 have hl_b_3:(b.2.2.2).length≤9223372036854775807:=hb.2.1.2.2.2.1.1
 refine R_eq ?_
 rw [Bool.eq_iff_iff]
 simp [m_eq,Prod.ext_iff,and_assoc]
theorem QFo:Ql Tryz.prog Qpq:=Qn fun x _=>QHG x.1 x.2.1
end
end Go.Proofs.YtjbdljkhbglnhaaGreat.Am

