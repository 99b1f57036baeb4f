/- -/
import Derived.Test.YtjbdljkhbglnhaaGreatZFGE
namespace Go.Proofs.YtjbdljkhbglnhaaGreat.Am
open Go Go.RowKit Go.Proofs.YtjbdljkhbglnhaaGreat
set_option linter.all false
noncomputable section
variable (K:TRes→Prop)
def Qb2 (t:Bool):TRes:=zre (zcb t)
def Qc8:TRow:=Qh 102 [(.c (.sl [TI])),(.c (.sl [TI]))] fun x=>(none,Qb2 (m_eq (α:=List Int) x.1 x.2.1))
def Qnx:List TRow:=[]
def QFz:TCode :=
 (zsq [(zsq [(.reg [zmv 11 5,zmv 12 0,zle 13 12,zbi 14 .lss 11 13]),(.cond 14 .skip (.exit 0))]),(.block 1 (zsq [(.draw [zmv 17 0,zmv 18 5,zia 19 17 18 [TI],zld 20 19 1,zmv 21 1,zmv 22 5,zia 23 21 22 [TI],zld 24 23 1,zbi 25 .neq 20 24] []),(.cond 25 (zsq [(.reg [zmv 4 (zkb false)]),.ret]) .skip)])),(.reg [zmv 15 5,zbi 16 .add 15 (zki 1),zmv 5 16])])
def Qwm:List (Nat × Md):=zdl [0,1,5]
def QtP:TCode :=
 (zsq [(.reg [zmv 4 (zkb true)]),.ret])
def Q0w:TCode :=
 (zsq [(.reg [zmv 4 (zkb false)]),(zsq [(.reg [zmv 6 0,zle 7 6,zmv 8 1,zle 9 8,zbi 10 .neq 7 9]),(.cond 10 (zsq [(.reg [zmv 4 (zkb false)]),.ret]) .skip)]),(zsq [(.reg [zmv 5 (zki 0)]),(.block 0 (.loop Qwm QFz))]),QtP])
def Qt8:List (ARv × Md):=[(.t 4,.one .d)]
def QzK:Qb:=TQ 0 0 Qt8 K
def QPs:Qb:=Qseq (tawp Qnx 0 QtP (QzK K)) (QzK K)
def Q0H:Qb:=Qblk 0 (QPs K)
def Qom (a:List Int) (b:List Int) (i:Int):Prop:=Loop Qnx 0 Qwm QFz (Q0H K) ⟨[(0,(zcs [TI] a)),(1,(zcs [TI] b)),(5,(zci i))],[],0⟩
theorem QIw (a:List Int) (b:List Int) (i:Int) (h :
 (zif (decide (i<(a.length:Int))) ((((0:Int)≤i∧Int.toNat i<a.length)∧((0:Int)≤i∧Int.toNat i<b.length))∧(zif ((gtd (0:Int) a (Int.toNat i)) != (gtd (0:Int) b (Int.toNat i))) (K (Qb2 false)) (Qom K a b (w64 (i+(1:Int)))))) (K (Qb2 true)))):Qom K a b i :=
 Loop.of (by kernel_rfl) h
theorem QHA (a:List Int) (b:List Int) (h :
 (zif ((a.length:Int) != (b.length:Int)) (K (Qb2 false)) (Qom K a b 0))):Hold (tawp Qnx (0+0) Q0w (TQ 0 0 Qt8 K) (Qf [(.c (.sl [TI]) a),(.c (.sl [TI]) b)])) :=
 Hold.of (by kernel_rfl) h
theorem QHp (a:List Int) (b:List Int):TCon Tryz.prog 102 [(.c (.sl [TI]) a),(.c (.sl [TI]) b)] (Qb2 (m_eq (α:=List Int) a b)):=by
 refine Qo rfl fun hb=>tcg (n:=26) (sg:=Qc8.sg) Qj TOk.nil (by kernel_rfl) (by kernel_rfl) (QHA _ a b ?_)
 have hl_a:a.length≤9223372036854775807:=hb.1.1
 have hl_b:b.length≤9223372036854775807:=hb.2.1.1
 exact Q3b hb.1.1 (fun i h=>QIw (fun r'=>r'=Qb2 (m_eq (α:=List Int) a b)) a b i h) (Q:=fun x=>Qb2 x=Qb2 (m_eq (α:=List Int) a b)) rfl
theorem Qfv:Qg Tryz.prog Qc8:=Qk fun x _=>QHp x.1 x.2.1
def QbU (t:Bool):TRes:=zre (zcb t)
def Qic:TRow:=Qh 47 [(.c (.sl [(.sl [TI])])),(.c (.sl [(.sl [TI])]))] fun x=>(none,QbU (m_eq (α:=List (List Int)) x.1 x.2.1))
def QoH:List TRow:=[Qc8]
def Qth:TCode :=
 (zsq [(zsq [(.reg [zmv 11 5,zmv 12 0,zle 13 12,zbi 14 .lss 11 13]),(.cond 14 .skip (.exit 0))]),(.block 1 (zsq [(.draw [zmv 17 0,zmv 18 5,zia 19 17 18 [(.sl [TI])],zfa 20 19 0,zld 21 20 1,zmv 22 1,zmv 23 5,zia 24 22 23 [(.sl [TI])],zfa 25 24 0,zld 26 25 1,zca 27 102 [21,26],zno 28 27] []),(.cond 28 (zsq [(.reg [zmv 4 (zkb false)]),.ret]) .skip)])),(.reg [zmv 15 5,zbi 16 .add 15 (zki 1),zmv 5 16])])
def QCo:List (Nat × Md):=zdl [0,1,5]
def Qvj:TCode :=
 (zsq [(.reg [zmv 4 (zkb true)]),.ret])
def QMH:TCode :=
 (zsq [(.reg [zmv 4 (zkb false)]),(zsq [(.reg [zmv 6 0,zle 7 6,zmv 8 1,zle 9 8,zbi 10 .neq 7 9]),(.cond 10 (zsq [(.reg [zmv 4 (zkb false)]),.ret]) .skip)]),(zsq [(.reg [zmv 5 (zki 0)]),(.block 0 (.loop QCo Qth))]),Qvj])
def Qsf:List (ARv × Md):=[(.t 4,.one .d)]
def Qso:Qb:=TQ 0 0 Qsf K
def Q3t:Qb:=Qseq (tawp QoH 0 Qvj (Qso K)) (Qso K)
def QMl:Qb:=Qblk 0 (Q3t K)
def Qpm (a:List (List Int)) (b:List (List Int)) (i:Int):Prop:=Loop QoH 0 QCo Qth (QMl K) ⟨[(0,(zcs [(.sl [TI])] a)),(1,(zcs [(.sl [TI])] b)),(5,(zci i))],[],0⟩
theorem QYB (a:List (List Int)) (b:List (List Int)) (i:Int) (h :
 (zif (decide (i<(a.length:Int))) ((((0:Int)≤i∧Int.toNat i<a.length)∧((0:Int)≤i∧Int.toNat i<b.length))∧(zif (!(m_eq (α:=List Int) (gtd ([]:List Int) a (Int.toNat i)) (gtd ([]:List Int) b (Int.toNat i)))) (K (QbU false)) (Qpm K a b (w64 (i+(1:Int)))))) (K (QbU true)))):Qpm K a b i :=
 Loop.of (by kernel_rfl) h
theorem QVI (a:List (List Int)) (b:List (List Int)) (h :
 (zif ((a.length:Int) != (b.length:Int)) (K (QbU false)) (Qpm K a b 0))):Hold (tawp QoH (0+0) QMH (TQ 0 0 Qsf K) (Qf [(.c (.sl [(.sl [TI])]) a),(.c (.sl [(.sl [TI])]) b)])) :=
 Hold.of (by kernel_rfl) h
theorem Q3h (a:List (List Int)) (b:List (List Int)):TCon Tryz.prog 47 [(.c (.sl [(.sl [TI])]) a),(.c (.sl [(.sl [TI])]) b)] (QbU (m_eq (α:=List (List Int)) a b)):=by
 refine Qo rfl fun hb=>tcg (n:=29) (sg:=Qic.sg) Qj (TOk.cons Qfv TOk.nil) (by kernel_rfl) (by kernel_rfl) (QVI _ a b ?_)
 have hl_a:a.length≤9223372036854775807:=hb.1.1
 have hl_b:b.length≤9223372036854775807:=hb.2.1.1
 exact QsY [] (E:=m_eq) (fun _ _=>rfl) hb.1.1 (fun i h=>QYB (fun r'=>r'=QbU (m_eq (α:=List (List Int)) a b)) a b i h) (Q:=fun x=>QbU x=QbU (m_eq (α:=List (List Int)) a b)) rfl
theorem QGl:Qg Tryz.prog Qic:=Qk fun x _=>Q3h x.1 x.2.1
def Qmz (t:Bool):TRes:=zre (zcb t)
def Qrh:TRow:=Qh 24 [(.a Ze),(.a Ze)] fun x=>(none,Qmz (m_eq (α:=Q2) x.1 x.2.1))
def QIW:List TRow:=[Qic]
def QKF:TCode :=
 (zsq [(.reg [zop 2 (.box 46 0 3),zop 3 (.box 46 1 3),zmv 4 (zkb false)]),(.reg [zfa 5 2 1,zld 6 5 1,zfa 7 3 1,zld 8 7 1,zbi 9 .eql 6 8,zmv 10 9,.grp 10 true [zfa 11 2 2,zld 12 11 1,zfa 13 3 2,zld 14 13 1,zop 15 (.eqb false 12 14)] 16 15,zmv 17 16,.grp 17 true [zfa 18 2 0,zld 19 18 1,zfa 20 3 0,zld 21 20 1,zca 22 47 [19,21]] 23 22,zmv 4 23]),.ret])
def QMs:List (ARv × Md):=[(.t 4,.one .d)]
theorem QT9 (a:Q2) (b:Q2) (h :
 K (Qmz (((a.2.1==b.2.1)&&((a.2.2==b.2.2)))&&(m_eq (α:=List (List Int)) a.1 b.1)))):Hold (tawp QIW (0+0) QKF (TQ 0 0 QMs K) (Qf [(.a (Tup.cells Ze a)),(.a (Tup.cells Ze b))])) :=
 Hold.of (by kernel_rfl) h
theorem QIT (a:Q2) (b:Q2):TCon Tryz.prog 24 [(.a (Tup.cells Ze a)),(.a (Tup.cells Ze b))] (Qmz (m_eq (α:=Q2) a b)):=by
 refine Qo rfl fun hb=>tcg (n:=24) (sg:=Qrh.sg) Qj (TOk.cons QGl TOk.nil) (by kernel_rfl) (by kernel_rfl) (QT9 _ a b ?_)
 have hl_a_0:(a.1).length≤9223372036854775807:=hb.1.1.1
 have hl_b_0:(b.1).length≤9223372036854775807:=hb.2.1.1.1
 refine R_eq ?_
 rw [Bool.eq_iff_iff]
 simp [m_eq,Prod.ext_iff]
 constructor
 ·rintro ⟨⟨h1,h2⟩,h3⟩;exact ⟨h3,h1,h2⟩
 ·rintro ⟨h3,h1,h2⟩;exact ⟨⟨h1,h2⟩,h3⟩
theorem Q0U:Qg Tryz.prog Qrh:=Qk fun x _=>QIT x.1 x.2.1
def QmT (t:Bool):TRes:=zre (zcb t)
def Qr1:TRow:=Qh 179 [(.a ctOp),(.a ctOp)] fun x=>(none,QmT (m_eq (α:=TOp') x.1 x.2.1))
def QNP:List TRow:=[Qc8]
def QHO:TCode :=
 (zsq [(.reg [zop 2 (.box 69 0 4),zop 3 (.box 69 1 4),zmv 4 (zkb false)]),(.reg [zfa 5 2 0,zld 6 5 1,zfa 7 3 0,zld 8 7 1,zbi 9 .eql 6 8,zmv 10 9,.grp 10 true [zfa 11 2 1,zld 12 11 1,zfa 13 3 1,zld 14 13 1,zbi 15 .eql 12 14] 16 15,zmv 17 16,.grp 17 true [zfa 18 2 2,zld 19 18 1,zfa 20 3 2,zld 21 20 1,zbi 22 .eql 19 21] 23 22,zmv 24 23,.grp 24 true [zfa 25 2 3,zld 26 25 1,zfa 27 3 3,zld 28 27 1,zca 29 102 [26,28]] 30 29,zmv 4 30]),.ret])
def Q21:List (ARv × Md):=[(.t 4,.one .d)]
theorem QK5 (a:TOp') (b:TOp') (h :
 K (QmT ((((a.1==b.1)&&(a.2.1==b.2.1))&&(a.2.2.1==b.2.2.1))&&(m_eq (α:=List Int) a.2.2.2 b.2.2.2)))):Hold (tawp QNP (0+0) QHO (TQ 0 0 Q21 K) (Qf [(.a (Tup.cells ctOp a)),(.a (Tup.cells ctOp b))])) :=
 Hold.of (by kernel_rfl) h
theorem QQ5 (a:TOp') (b:TOp'):TCon Tryz.prog 179 [(.a (Tup.cells ctOp a)),(.a (Tup.cells ctOp b))] (QmT (m_eq (α:=TOp') a b)):=by
 refine Qo rfl fun hb=>tcg (n:=31) (sg:=Qr1.sg) Qj (TOk.cons Qfv TOk.nil) (by kernel_rfl) (by kernel_rfl) (QK5 _ a b ?_)
 have hl_a_3:(a.2.2.2).length≤9223372036854775807:=hb.1.2.2.2.1.1
 have hl_b_3:(b.2.2.2).length≤9223372036854775807:=hb.2.1.2.2.2.1.1
 refine R_eq ?_
 rw [Bool.eq_iff_iff]
 simp [m_eq,Prod.ext_iff,and_assoc]
theorem QUt:Qg Tryz.prog Qr1:=Qk fun x _=>QQ5 x.1 x.2.1
end
end Go.Proofs.YtjbdljkhbglnhaaGreat.Am

