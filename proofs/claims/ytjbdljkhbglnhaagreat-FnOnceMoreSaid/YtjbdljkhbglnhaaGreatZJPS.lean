/- -/
import Derived.Test.YtjbdljkhbglnhaaGreatZJGD
namespace Go.Proofs.YtjbdljkhbglnhaaGreat.Am
open Go Go.RowKit Go.Proofs.YtjbdljkhbglnhaaGreat
set_option linter.all false
noncomputable section
variable (K:TRes→Prop)
def J4 (t:Bool):TRes:=zre (zcb t)
def Qla:TRow:=Qg 102 [(.c (.sl [TI])),(.c (.sl [TI]))] fun x=>(none,J4 (m_eq (α:=List Int) x.1 x.2.1))
def QgC:List TRow:=[]
def Qu3:TCode :=
 (zsq [(zsq [(.reg [zmv 11 5,zmv 12 0,zle 13 12,zbi 14 .lss 11 13]),(.cond 14 .skip (.exit 0))]),(.block 1 (zsq [(.draw [zmv 17 0,zmv 18 5,zia 19 17 18 [TI],zld 20 19 1,zmv 21 1,zmv 22 5,zia 23 21 22 [TI],zld 24 23 1,zbi 25 .neq 20 24] []),(.cond 25 (zsq [(.reg [zmv 4 (zkb false)]),.ret]) .skip)])),(.reg [zmv 15 5,zbi 16 .add 15 (zki 1),zmv 5 16])])
def Qpb:List (Nat × Md):=zdl [0,1,5]
def QoV:TCode :=
 (zsq [(.reg [zmv 4 (zkb true)]),.ret])
def QDE:TCode :=
 (zsq [(.reg [zmv 4 (zkb false)]),(zsq [(.reg [zmv 6 0,zle 7 6,zmv 8 1,zle 9 8,zbi 10 .neq 7 9]),(.cond 10 (zsq [(.reg [zmv 4 (zkb false)]),.ret]) .skip)]),(zsq [(.reg [zmv 5 (zki 0)]),(.block 0 (.loop Qpb Qu3))]),QoV])
def Qsy:List (ARv × Md):=[(.t 4,.one .d)]
def Qo5:Qc:=TQ 0 0 Qsy K
def Qym:Qc:=Qseq (tawp QgC 0 QoV (Qo5 K)) (Qo5 K)
def Qv7:Qc:=Qblk 0 (Qym K)
def Qk5 (a:List Int) (b:List Int) (i:Int):Prop:=Loop QgC 0 Qpb Qu3 (Qv7 K) ⟨[(0,(zcs [TI] a)),(1,(zcs [TI] b)),(5,(zci i))],[],0⟩
theorem Qyl (a:List Int) (b:List Int) (i:Int) (h :
 (zif (decide (i<(a.length:Int))) ((((0:Int)≤i∧Int.toNat i<a.length)∧((0:Int)≤i∧Int.toNat i<b.length))∧(zif ((gtd (0:Int) a (Int.toNat i)) != (gtd (0:Int) b (Int.toNat i))) (K (J4 false)) (Qk5 K a b (w64 (i+(1:Int)))))) (K (J4 true)))):Qk5 K a b i :=
 Loop.of (by kernel_rfl) h
theorem QxN (a:List Int) (b:List Int) (h :
 (zif ((a.length:Int) != (b.length:Int)) (K (J4 false)) (Qk5 K a b 0))):Hold (tawp QgC (0+0) QDE (TQ 0 0 Qsy K) (Qe [(.c (.sl [TI]) a),(.c (.sl [TI]) b)])) :=
 Hold.of (by kernel_rfl) h
theorem QIN (a:List Int) (b:List Int):TCon Tryz.prog 102 [(.c (.sl [TI]) a),(.c (.sl [TI]) b)] (J4 (m_eq (α:=List Int) a b)):=by
 refine Ql rfl fun hb=>tcg (n:=26) (sg:=Qla.sg) Qi TOk.nil (by kernel_rfl) (by kernel_rfl) (QxN _ a b ?_)
 have hl_a:a.length≤9223372036854775807:=hb.1.1
 have hl_b:b.length≤9223372036854775807:=hb.2.1.1
 exact QlI hb.1.1 (fun i h=>Qyl (fun r'=>r'=J4 (m_eq (α:=List Int) a b)) a b i h) (Q:=fun x=>J4 x=J4 (m_eq (α:=List Int) a b)) rfl
theorem QF9:Qh Tryz.prog Qla:=Qk fun x _=>QIN x.1 x.2.1
def JS (t:Bool):TRes:=zre (zcb t)
def Qfj:TRow:=Qg 47 [(.c (.sl [(.sl [TI])])),(.c (.sl [(.sl [TI])]))] fun x=>(none,JS (m_eq (α:=List (List Int)) x.1 x.2.1))
def Qkh:List TRow:=[Qla]
def QmU:TCode :=
 (zsq [(zsq [(.reg [zmv 11 5,zmv 12 0,zle 13 12,zbi 14 .lss 11 13]),(.cond 14 .skip (.exit 0))]),(.block 1 (zsq [(.draw [zmv 17 0,zmv 18 5,zia 19 17 18 [(.sl [TI])],zfa 20 19 0,zld 21 20 1,zmv 22 1,zmv 23 5,zia 24 22 23 [(.sl [TI])],zfa 25 24 0,zld 26 25 1,zca 27 102 [21,26],zno 28 27] []),(.cond 28 (zsq [(.reg [zmv 4 (zkb false)]),.ret]) .skip)])),(.reg [zmv 15 5,zbi 16 .add 15 (zki 1),zmv 5 16])])
def Qs2:List (Nat × Md):=zdl [0,1,5]
def Qnp:TCode :=
 (zsq [(.reg [zmv 4 (zkb true)]),.ret])
def Qxn:TCode :=
 (zsq [(.reg [zmv 4 (zkb false)]),(zsq [(.reg [zmv 6 0,zle 7 6,zmv 8 1,zle 9 8,zbi 10 .neq 7 9]),(.cond 10 (zsq [(.reg [zmv 4 (zkb false)]),.ret]) .skip)]),(zsq [(.reg [zmv 5 (zki 0)]),(.block 0 (.loop Qs2 QmU))]),Qnp])
def Qn5:List (ARv × Md):=[(.t 4,.one .d)]
def Qm5:Qc:=TQ 0 0 Qn5 K
def QEU:Qc:=Qseq (tawp Qkh 0 Qnp (Qm5 K)) (Qm5 K)
def QFB:Qc:=Qblk 0 (QEU K)
def QhF (a:List (List Int)) (b:List (List Int)) (i:Int):Prop:=Loop Qkh 0 Qs2 QmU (QFB K) ⟨[(0,(zcs [(.sl [TI])] a)),(1,(zcs [(.sl [TI])] b)),(5,(zci i))],[],0⟩
theorem QHE (a:List (List Int)) (b:List (List Int)) (i:Int) (h :
 (zif (decide (i<(a.length:Int))) ((((0:Int)≤i∧Int.toNat i<a.length)∧((0:Int)≤i∧Int.toNat i<b.length))∧(zif (!(m_eq (α:=List Int) (gtd ([]:List Int) a (Int.toNat i)) (gtd ([]:List Int) b (Int.toNat i)))) (K (JS false)) (QhF K a b (w64 (i+(1:Int)))))) (K (JS true)))):QhF K a b i :=
 Loop.of (by kernel_rfl) h
theorem QJs (a:List (List Int)) (b:List (List Int)) (h :
 (zif ((a.length:Int) != (b.length:Int)) (K (JS false)) (QhF K a b 0))):Hold (tawp Qkh (0+0) Qxn (TQ 0 0 Qn5 K) (Qe [(.c (.sl [(.sl [TI])]) a),(.c (.sl [(.sl [TI])]) b)])) :=
 Hold.of (by kernel_rfl) h
theorem QGr (a:List (List Int)) (b:List (List Int)):TCon Tryz.prog 47 [(.c (.sl [(.sl [TI])]) a),(.c (.sl [(.sl [TI])]) b)] (JS (m_eq (α:=List (List Int)) a b)):=by
 refine Ql rfl fun hb=>tcg (n:=29) (sg:=Qfj.sg) Qi (TOk.cons QF9 TOk.nil) (by kernel_rfl) (by kernel_rfl) (QJs _ a b ?_)
 have hl_a:a.length≤9223372036854775807:=hb.1.1
 have hl_b:b.length≤9223372036854775807:=hb.2.1.1
 exact Qob [] (E:=m_eq) (fun _ _=>rfl) hb.1.1 (fun i h=>QHE (fun r'=>r'=JS (m_eq (α:=List (List Int)) a b)) a b i h) (Q:=fun x=>JS x=JS (m_eq (α:=List (List Int)) a b)) rfl
theorem QtH:Qh Tryz.prog Qfj:=Qk fun x _=>QGr x.1 x.2.1
def QjD (t:Bool):TRes:=zre (zcb t)
def Qjp:TRow:=Qg 24 [(.a QW),(.a QW)] fun x=>(none,QjD (m_eq (α:=QK) x.1 x.2.1))
def QBI:List TRow:=[Qfj]
def QE1:TCode :=
 (zsq [(.reg [zop 2 (.box 46 0 3),zop 3 (.box 46 1 3),zmv 4 (zkb false)]),(.reg [zfa 5 2 1,zld 6 5 1,zfa 7 3 1,zld 8 7 1,zbi 9 .eql 6 8,zmv 10 9,.grp 10 true [zfa 11 2 2,zld 12 11 1,zfa 13 3 2,zld 14 13 1,zop 15 (.eqb false 12 14)] 16 15,zmv 17 16,.grp 17 true [zfa 18 2 0,zld 19 18 1,zfa 20 3 0,zld 21 20 1,zca 22 47 [19,21]] 23 22,zmv 4 23]),.ret])
def QD4:List (ARv × Md):=[(.t 4,.one .d)]
theorem Qxg (a:QK) (b:QK) (h :
 K (QjD (((a.2.1==b.2.1)&&((a.2.2==b.2.2)))&&(m_eq (α:=List (List Int)) a.1 b.1)))):Hold (tawp QBI (0+0) QE1 (TQ 0 0 QD4 K) (Qe [(.a (Tup.cells QW a)),(.a (Tup.cells QW b))])) :=
 Hold.of (by kernel_rfl) h
theorem QIC (a:QK) (b:QK):TCon Tryz.prog 24 [(.a (Tup.cells QW a)),(.a (Tup.cells QW b))] (QjD (m_eq (α:=QK) a b)):=by
 refine Ql rfl fun hb=>tcg (n:=24) (sg:=Qjp.sg) Qi (TOk.cons QtH TOk.nil) (by kernel_rfl) (by kernel_rfl) (Qxg _ a b ?_)
 have hl_a_0:(a.1).length≤9223372036854775807:=hb.1.1.1
 have hl_b_0:(b.1).length≤9223372036854775807:=hb.2.1.1.1
 refine R_eq ?_
 rw [Bool.eq_iff_iff]
 simp [m_eq,Prod.ext_iff]
 constructor
 ·rintro ⟨⟨h1,h2⟩,h3⟩;exact ⟨h3,h1,h2⟩
 ·rintro ⟨h3,h1,h2⟩;exact ⟨⟨h1,h2⟩,h3⟩
theorem QEb:Qh Tryz.prog Qjp:=Qk fun x _=>QIC x.1 x.2.1
end
end Go.Proofs.YtjbdljkhbglnhaaGreat.Am

