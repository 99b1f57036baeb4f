/- -/
import Derived.Test.YtjbdljkhbglnhaaGreatZCGE
namespace Go.Proofs.YtjbdljkhbglnhaaGreat.Am
open Go Go.RowKit Go.Proofs.YtjbdljkhbglnhaaGreat
set_option linter.all false
noncomputable section
variable (K:TRes→Prop)
def Qcc (t:Bool):TRes:=zre (zcb t)
def Qli:TRow:=Qf 102 [(.c (.sl [TI])),(.c (.sl [TI]))] fun x=>(none,Qcc (m_eq (α:=List Int) x.1 x.2.1))
def Qp6:List TRow:=[]
def Qwo:TCode :=
 (zsq [(zsq [(.reg [zmv 11 5,zmv 12 0,zle 13 12,zbi 14 .lss 11 13]),(.cond 14 .skip (.exit 0))]),(.block 1 (zsq [(.draw [zmv 17 0,zmv 18 5,zia 19 17 18 [TI],zld 20 19 1,zmv 21 1,zmv 22 5,zia 23 21 22 [TI],zld 24 23 1,zbi 25 .neq 20 24] []),(.cond 25 (zsq [(.reg [zmv 4 (zkb false)]),.ret]) .skip)])),(.reg [zmv 15 5,zbi 16 .add 15 (zki 1),zmv 5 16])])
def Qyc:List (Nat × Md):=zdl [0,1,5]
def QtE:TCode :=
 (zsq [(.reg [zmv 4 (zkb true)]),.ret])
def QXX:TCode :=
 (zsq [(.reg [zmv 4 (zkb false)]),(zsq [(.reg [zmv 6 0,zle 7 6,zmv 8 1,zle 9 8,zbi 10 .neq 7 9]),(.cond 10 (zsq [(.reg [zmv 4 (zkb false)]),.ret]) .skip)]),(zsq [(.reg [zmv 5 (zki 0)]),(.block 0 (.loop Qyc Qwo))]),QtE])
def Qwr:List (ARv × Md):=[(.t 4,.one .d)]
def Qz8:Qb:=TQ 0 0 Qwr K
def QIb:Qb:=Qseq (tawp Qp6 0 QtE (Qz8 K)) (Qz8 K)
def QGt:Qb:=Qblk 0 (QIb K)
def Qpg (a:List Int) (b:List Int) (i:Int):Prop:=Loop Qp6 0 Qyc Qwo (QGt K) ⟨[(0,(zcs [TI] a)),(1,(zcs [TI] b)),(5,(zci i))],[],0⟩
theorem QUv (a:List Int) (b:List Int) (i:Int) (h :
 (zif (decide (i<(a.length:Int))) ((((0:Int)≤i∧Int.toNat i<a.length)∧((0:Int)≤i∧Int.toNat i<b.length))∧(zif ((gtd (0:Int) a (Int.toNat i)) != (gtd (0:Int) b (Int.toNat i))) (K (Qcc false)) (Qpg K a b (w64 (i+(1:Int)))))) (K (Qcc true)))):Qpg K a b i :=
 Loop.of (by kernel_rfl) h
theorem QU0 (a:List Int) (b:List Int) (h :
 (zif ((a.length:Int) != (b.length:Int)) (K (Qcc false)) (Qpg K a b 0))):Hold (tawp Qp6 (0+0) QXX (TQ 0 0 Qwr K) (Qd [(.c (.sl [TI]) a),(.c (.sl [TI]) b)])) :=
 Hold.of (by kernel_rfl) h
theorem QIq (a:List Int) (b:List Int):TCon Tryz.prog 102 [(.c (.sl [TI]) a),(.c (.sl [TI]) b)] (Qcc (m_eq (α:=List Int) a b)):=by
 refine Qj rfl fun hb=>tcg (n:=26) (sg:=Qli.sg) Qg TOk.nil (by kernel_rfl) (by kernel_rfl) (QU0 _ a b ?_)
 have hl_a:a.length≤9223372036854775807:=hb.1.1
 have hl_b:b.length≤9223372036854775807:=hb.2.1.1
 exact QEu hb.1.1 (fun i h=>QUv (fun r'=>r'=Qcc (m_eq (α:=List Int) a b)) a b i h) (Q:=fun x=>Qcc x=Qcc (m_eq (α:=List Int) a b)) rfl
theorem QRV:Qe Tryz.prog Qli:=Qh fun x _=>QIq x.1 x.2.1
def QbM (t:Bool):TRes:=zre (zcb t)
def Qpp:TRow:=Qf 47 [(.c (.sl [(.sl [TI])])),(.c (.sl [(.sl [TI])]))] fun x=>(none,QbM (m_eq (α:=List (List Int)) x.1 x.2.1))
def QpY:List TRow:=[Qli]
def QsI:TCode :=
 (zsq [(zsq [(.reg [zmv 11 5,zmv 12 0,zle 13 12,zbi 14 .lss 11 13]),(.cond 14 .skip (.exit 0))]),(.block 1 (zsq [(.draw [zmv 17 0,zmv 18 5,zia 19 17 18 [(.sl [TI])],zfa 20 19 0,zld 21 20 1,zmv 22 1,zmv 23 5,zia 24 22 23 [(.sl [TI])],zfa 25 24 0,zld 26 25 1,zca 27 102 [21,26],zno 28 27] []),(.cond 28 (zsq [(.reg [zmv 4 (zkb false)]),.ret]) .skip)])),(.reg [zmv 15 5,zbi 16 .add 15 (zki 1),zmv 5 16])])
def QyM:List (Nat × Md):=zdl [0,1,5]
def QuH:TCode :=
 (zsq [(.reg [zmv 4 (zkb true)]),.ret])
def QVf:TCode :=
 (zsq [(.reg [zmv 4 (zkb false)]),(zsq [(.reg [zmv 6 0,zle 7 6,zmv 8 1,zle 9 8,zbi 10 .neq 7 9]),(.cond 10 (zsq [(.reg [zmv 4 (zkb false)]),.ret]) .skip)]),(zsq [(.reg [zmv 5 (zki 0)]),(.block 0 (.loop QyM QsI))]),QuH])
def Quq:List (ARv × Md):=[(.t 4,.one .d)]
def Qt0:Qb:=TQ 0 0 Quq K
def QLc:Qb:=Qseq (tawp QpY 0 QuH (Qt0 K)) (Qt0 K)
def QWF:Qb:=Qblk 0 (QLc K)
def QpQ (a:List (List Int)) (b:List (List Int)) (i:Int):Prop:=Loop QpY 0 QyM QsI (QWF K) ⟨[(0,(zcs [(.sl [TI])] a)),(1,(zcs [(.sl [TI])] b)),(5,(zci i))],[],0⟩
theorem QWO (a:List (List Int)) (b:List (List Int)) (i:Int) (h :
 (zif (decide (i<(a.length:Int))) ((((0:Int)≤i∧Int.toNat i<a.length)∧((0:Int)≤i∧Int.toNat i<b.length))∧(zif (!(m_eq (α:=List Int) (gtd ([]:List Int) a (Int.toNat i)) (gtd ([]:List Int) b (Int.toNat i)))) (K (QbM false)) (QpQ K a b (w64 (i+(1:Int)))))) (K (QbM true)))):QpQ K a b i :=
 Loop.of (by kernel_rfl) h
theorem QYo (a:List (List Int)) (b:List (List Int)) (h :
 (zif ((a.length:Int) != (b.length:Int)) (K (QbM false)) (QpQ K a b 0))):Hold (tawp QpY (0+0) QVf (TQ 0 0 Quq K) (Qd [(.c (.sl [(.sl [TI])]) a),(.c (.sl [(.sl [TI])]) b)])) :=
 Hold.of (by kernel_rfl) h
theorem QFF (a:List (List Int)) (b:List (List Int)):TCon Tryz.prog 47 [(.c (.sl [(.sl [TI])]) a),(.c (.sl [(.sl [TI])]) b)] (QbM (m_eq (α:=List (List Int)) a b)):=by
 refine Qj rfl fun hb=>tcg (n:=29) (sg:=Qpp.sg) Qg (TOk.cons QRV TOk.nil) (by kernel_rfl) (by kernel_rfl) (QYo _ a b ?_)
 have hl_a:a.length≤9223372036854775807:=hb.1.1
 have hl_b:b.length≤9223372036854775807:=hb.2.1.1
 exact Qvl [] (E:=m_eq) (fun _ _=>rfl) hb.1.1 (fun i h=>QWO (fun r'=>r'=QbM (m_eq (α:=List (List Int)) a b)) a b i h) (Q:=fun x=>QbM x=QbM (m_eq (α:=List (List Int)) a b)) rfl
theorem QVs:Qe Tryz.prog Qpp:=Qh fun x _=>QFF x.1 x.2.1
def Qmj (t:Bool):TRes:=zre (zcb t)
def QmU:TRow:=Qf 24 [(.a QK),(.a QK)] fun x=>(none,Qmj (m_eq (α:=QG) x.1 x.2.1))
def QP8:List TRow:=[Qpp]
def QKT:TCode :=
 (zsq [(.reg [zop 2 (.box 46 0 3),zop 3 (.box 46 1 3),zmv 4 (zkb false)]),(.reg [zfa 5 2 1,zld 6 5 1,zfa 7 3 1,zld 8 7 1,zbi 9 .eql 6 8,zmv 10 9,.grp 10 true [zfa 11 2 2,zld 12 11 1,zfa 13 3 2,zld 14 13 1,zop 15 (.eqb false 12 14)] 16 15,zmv 17 16,.grp 17 true [zfa 18 2 0,zld 19 18 1,zfa 20 3 0,zld 21 20 1,zca 22 47 [19,21]] 23 22,zmv 4 23]),.ret])
def QSF:List (ARv × Md):=[(.t 4,.one .d)]
theorem QQ3 (a:QG) (b:QG) (h :
 K (Qmj (((a.2.1==b.2.1)&&((a.2.2==b.2.2)))&&(m_eq (α:=List (List Int)) a.1 b.1)))):Hold (tawp QP8 (0+0) QKT (TQ 0 0 QSF K) (Qd [(.a (Tup.cells QK a)),(.a (Tup.cells QK b))])) :=
 Hold.of (by kernel_rfl) h
theorem QWi (a:QG) (b:QG):TCon Tryz.prog 24 [(.a (Tup.cells QK a)),(.a (Tup.cells QK b))] (Qmj (m_eq (α:=QG) a b)):=by
 refine Qj rfl fun hb=>tcg (n:=24) (sg:=QmU.sg) Qg (TOk.cons QVs TOk.nil) (by kernel_rfl) (by kernel_rfl) (QQ3 _ a b ?_)
 have hl_a_0:(a.1).length≤9223372036854775807:=hb.1.1.1
 have hl_b_0:(b.1).length≤9223372036854775807:=hb.2.1.1.1
 refine R_eq ?_
 rw [Bool.eq_iff_iff]
 simp [m_eq,Prod.ext_iff]
 constructor
 ·rintro ⟨⟨h1,h2⟩,h3⟩;exact ⟨h3,h1,h2⟩
 ·rintro ⟨h3,h1,h2⟩;exact ⟨⟨h1,h2⟩,h3⟩
theorem QXh:Qe Tryz.prog QmU:=Qh fun x _=>QWi x.1 x.2.1
end
end Go.Proofs.YtjbdljkhbglnhaaGreat.Am

