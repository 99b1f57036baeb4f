/- -/
import Derived.Test.YtjbdljkhbglnhaaGreatZHGE
namespace Go.Proofs.YtjbdljkhbglnhaaGreat.Am
open Go Go.RowKit Go.Proofs.YtjbdljkhbglnhaaGreat
set_option linter.all false
noncomputable section
variable (K:TRes→Prop)
def QbW (t:Bool):TRes:=zre (zcb t)
def QnO:TRow:=Qg 102 [(.c (.sl [TI])),(.c (.sl [TI]))] fun x=>(none,QbW (m_eq (α:=List Int) x.1 x.2.1))
def QkK:List TRow:=[]
def QvU:TCode :=
 (zsq [(zsq [(.reg [zmv 11 5,zmv 12 0,zle 13 12,zbi 14 .lss 11 13]),(.cond 14 .skip (.exit 0))]),(.block 1 (zsq [(.draw [zmv 17 0,zmv 18 5,zia 19 17 18 [TI],zld 20 19 1,zmv 21 1,zmv 22 5,zia 23 21 22 [TI],zld 24 23 1,zbi 25 .neq 20 24] []),(.cond 25 (zsq [(.reg [zmv 4 (zkb false)]),.ret]) .skip)])),(.reg [zmv 15 5,zbi 16 .add 15 (zki 1),zmv 5 16])])
def Qz3:List (Nat × Md):=zdl [0,1,5]
def Qs7:TCode :=
 (zsq [(.reg [zmv 4 (zkb true)]),.ret])
def QKv:TCode :=
 (zsq [(.reg [zmv 4 (zkb false)]),(zsq [(.reg [zmv 6 0,zle 7 6,zmv 8 1,zle 9 8,zbi 10 .neq 7 9]),(.cond 10 (zsq [(.reg [zmv 4 (zkb false)]),.ret]) .skip)]),(zsq [(.reg [zmv 5 (zki 0)]),(.block 0 (.loop Qz3 QvU))]),Qs7])
def QqE:List (ARv × Md):=[(.t 4,.one .d)]
def Qx4:Qb:=TQ 0 0 QqE K
def QLU:Qb:=Qseq (tawp QkK 0 Qs7 (Qx4 K)) (Qx4 K)
def QPR:Qb:=Qblk 0 (QLU K)
def Qn1 (a:List Int) (b:List Int) (i:Int):Prop:=Loop QkK 0 Qz3 QvU (QPR K) ⟨[(0,(zcs [TI] a)),(1,(zcs [TI] b)),(5,(zci i))],[],0⟩
theorem QFV (a:List Int) (b:List Int) (i:Int) (h :
 (zif (decide (i<(a.length:Int))) ((((0:Int)≤i∧Int.toNat i<a.length)∧((0:Int)≤i∧Int.toNat i<b.length))∧(zif ((gtd (0:Int) a (Int.toNat i)) != (gtd (0:Int) b (Int.toNat i))) (K (QbW false)) (Qn1 K a b (w64 (i+(1:Int)))))) (K (QbW true)))):Qn1 K a b i :=
 Loop.of (by kernel_rfl) h
theorem QOk (a:List Int) (b:List Int) (h :
 (zif ((a.length:Int) != (b.length:Int)) (K (QbW false)) (Qn1 K a b 0))):Hold (tawp QkK (0+0) QKv (TQ 0 0 QqE K) (Qf [(.c (.sl [TI]) a),(.c (.sl [TI]) b)])) :=
 Hold.of (by kernel_rfl) h
theorem QOb (a:List Int) (b:List Int):TCon Tryz.prog 102 [(.c (.sl [TI]) a),(.c (.sl [TI]) b)] (QbW (m_eq (α:=List Int) a b)):=by
 refine Qq rfl fun hb=>tcg (n:=26) (sg:=QnO.sg) Qj TOk.nil (by kernel_rfl) (by kernel_rfl) (QOk _ a b ?_)
 have hl_a:a.length≤9223372036854775807:=hb.1.1
 have hl_b:b.length≤9223372036854775807:=hb.2.1.1
 exact QHs hb.1.1 (fun i h=>QFV (fun r'=>r'=QbW (m_eq (α:=List Int) a b)) a b i h) (Q:=fun x=>QbW x=QbW (m_eq (α:=List Int) a b)) rfl
theorem QC0:Qh Tryz.prog QnO:=Qk fun x _=>QOb x.1 x.2.1
def QbZ (t:Bool):TRes:=zre (zcb t)
def Qlc:TRow:=Qg 47 [(.c (.sl [(.sl [TI])])),(.c (.sl [(.sl [TI])]))] fun x=>(none,QbZ (m_eq (α:=List (List Int)) x.1 x.2.1))
def Ql8:List TRow:=[QnO]
def Qq5:TCode :=
 (zsq [(zsq [(.reg [zmv 11 5,zmv 12 0,zle 13 12,zbi 14 .lss 11 13]),(.cond 14 .skip (.exit 0))]),(.block 1 (zsq [(.draw [zmv 17 0,zmv 18 5,zia 19 17 18 [(.sl [TI])],zfa 20 19 0,zld 21 20 1,zmv 22 1,zmv 23 5,zia 24 22 23 [(.sl [TI])],zfa 25 24 0,zld 26 25 1,zca 27 102 [21,26],zno 28 27] []),(.cond 28 (zsq [(.reg [zmv 4 (zkb false)]),.ret]) .skip)])),(.reg [zmv 15 5,zbi 16 .add 15 (zki 1),zmv 5 16])])
def QpC:List (Nat × Md):=zdl [0,1,5]
def QuN:TCode :=
 (zsq [(.reg [zmv 4 (zkb true)]),.ret])
def QFm:TCode :=
 (zsq [(.reg [zmv 4 (zkb false)]),(zsq [(.reg [zmv 6 0,zle 7 6,zmv 8 1,zle 9 8,zbi 10 .neq 7 9]),(.cond 10 (zsq [(.reg [zmv 4 (zkb false)]),.ret]) .skip)]),(zsq [(.reg [zmv 5 (zki 0)]),(.block 0 (.loop QpC Qq5))]),QuN])
def Qzu:List (ARv × Md):=[(.t 4,.one .d)]
def QuF:Qb:=TQ 0 0 Qzu K
def QDl:Qb:=Qseq (tawp Ql8 0 QuN (QuF K)) (QuF K)
def QEg:Qb:=Qblk 0 (QDl K)
def QnK (a:List (List Int)) (b:List (List Int)) (i:Int):Prop:=Loop Ql8 0 QpC Qq5 (QEg K) ⟨[(0,(zcs [(.sl [TI])] a)),(1,(zcs [(.sl [TI])] b)),(5,(zci i))],[],0⟩
theorem QEd (a:List (List Int)) (b:List (List Int)) (i:Int) (h :
 (zif (decide (i<(a.length:Int))) ((((0:Int)≤i∧Int.toNat i<a.length)∧((0:Int)≤i∧Int.toNat i<b.length))∧(zif (!(m_eq (α:=List Int) (gtd ([]:List Int) a (Int.toNat i)) (gtd ([]:List Int) b (Int.toNat i)))) (K (QbZ false)) (QnK K a b (w64 (i+(1:Int)))))) (K (QbZ true)))):QnK K a b i :=
 Loop.of (by kernel_rfl) h
theorem QBM (a:List (List Int)) (b:List (List Int)) (h :
 (zif ((a.length:Int) != (b.length:Int)) (K (QbZ false)) (QnK K a b 0))):Hold (tawp Ql8 (0+0) QFm (TQ 0 0 Qzu K) (Qf [(.c (.sl [(.sl [TI])]) a),(.c (.sl [(.sl [TI])]) b)])) :=
 Hold.of (by kernel_rfl) h
theorem QRi (a:List (List Int)) (b:List (List Int)):TCon Tryz.prog 47 [(.c (.sl [(.sl [TI])]) a),(.c (.sl [(.sl [TI])]) b)] (QbZ (m_eq (α:=List (List Int)) a b)):=by
 refine Qq rfl fun hb=>tcg (n:=29) (sg:=Qlc.sg) Qj (TOk.cons QC0 TOk.nil) (by kernel_rfl) (by kernel_rfl) (QBM _ a b ?_)
 have hl_a:a.length≤9223372036854775807:=hb.1.1
 have hl_b:b.length≤9223372036854775807:=hb.2.1.1
 exact QpU [] (E:=m_eq) (fun _ _=>rfl) hb.1.1 (fun i h=>QEd (fun r'=>r'=QbZ (m_eq (α:=List (List Int)) a b)) a b i h) (Q:=fun x=>QbZ x=QbZ (m_eq (α:=List (List Int)) a b)) rfl
theorem QNq:Qh Tryz.prog Qlc:=Qk fun x _=>QRi x.1 x.2.1
def Qjo (t:Bool):TRes:=zre (zcb t)
def Qnj:TRow:=Qg 24 [(.a Zd),(.a Zd)] fun x=>(none,Qjo (m_eq (α:=QZ) x.1 x.2.1))
def QPu:List TRow:=[Qlc]
def QJc:TCode :=
 (zsq [(.reg [zop 2 (.box 46 0 3),zop 3 (.box 46 1 3),zmv 4 (zkb false)]),(.reg [zfa 5 2 1,zld 6 5 1,zfa 7 3 1,zld 8 7 1,zbi 9 .eql 6 8,zmv 10 9,.grp 10 true [zfa 11 2 2,zld 12 11 1,zfa 13 3 2,zld 14 13 1,zop 15 (.eqb false 12 14)] 16 15,zmv 17 16,.grp 17 true [zfa 18 2 0,zld 19 18 1,zfa 20 3 0,zld 21 20 1,zca 22 47 [19,21]] 23 22,zmv 4 23]),.ret])
def QPz:List (ARv × Md):=[(.t 4,.one .d)]
theorem QEH (a:QZ) (b:QZ) (h :
 K (Qjo (((a.2.1==b.2.1)&&((a.2.2==b.2.2)))&&(m_eq (α:=List (List Int)) a.1 b.1)))):Hold (tawp QPu (0+0) QJc (TQ 0 0 QPz K) (Qf [(.a (Tup.cells Zd a)),(.a (Tup.cells Zd b))])) :=
 Hold.of (by kernel_rfl) h
theorem QLd (a:QZ) (b:QZ):TCon Tryz.prog 24 [(.a (Tup.cells Zd a)),(.a (Tup.cells Zd b))] (Qjo (m_eq (α:=QZ) a b)):=by
 refine Qq rfl fun hb=>tcg (n:=24) (sg:=Qnj.sg) Qj (TOk.cons QNq TOk.nil) (by kernel_rfl) (by kernel_rfl) (QEH _ a b ?_)
 have hl_a_0:(a.1).length≤9223372036854775807:=hb.1.1.1
 have hl_b_0:(b.1).length≤9223372036854775807:=hb.2.1.1.1
 refine R_eq ?_
 rw [Bool.eq_iff_iff]
 simp [m_eq,Prod.ext_iff]
 constructor
 ·rintro ⟨⟨h1,h2⟩,h3⟩;exact ⟨h3,h1,h2⟩
 ·rintro ⟨h3,h1,h2⟩;exact ⟨⟨h1,h2⟩,h3⟩
theorem QM1:Qh Tryz.prog Qnj:=Qk fun x _=>QLd x.1 x.2.1
end
end Go.Proofs.YtjbdljkhbglnhaaGreat.Am

