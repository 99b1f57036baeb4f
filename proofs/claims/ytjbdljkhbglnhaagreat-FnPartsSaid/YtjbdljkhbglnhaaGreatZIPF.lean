/- -/
import Derived.Test.YtjbdljkhbglnhaaGreatZIP1
namespace Go.Proofs.YtjbdljkhbglnhaaGreat.Am
open Go Go.RowKit Go.Proofs.YtjbdljkhbglnhaaGreat
set_option linter.all false
noncomputable section
variable (K:TRes→Prop)
def Qnx (t:Int):TRes:=zre (zci t)
def QcL:TRow:=Qk 190 [(.c TI)] fun x=>(none,Qnx (QU x.1))
def QPV:List TRow:=[]
def QOt:TCode :=
 (zsq [(.reg [zmv 2 (zki 0)]),(.reg [zmv 3 0,zop 4 (.mm true 3 (zki (-2147483647))),zop 5 (.mm false 4 (zki 2147483647)),zmv 2 5]),.ret])
def QUm:List (ARv × Md):=[(.t 2,.one .d)]
theorem QQB (x:Int) (h :
 K (Qnx (if (2147483647:Int)<(if x<(-2147483647:Int) then (-2147483647:Int) else x) then (2147483647:Int) else (if x<(-2147483647:Int) then (-2147483647:Int) else x)))):Hold (tawp QPV (0+0) QOt (TQ 0 0 QUm K) (Qi [(.c TI x)])) :=
 Hold.of (by kernel_rfl) h
theorem QMH (x:Int):TCon Tryz.prog 190 [(.c TI x)] (Qnx (QU x)):=by
 refine Qo rfl fun hb=>tcg (n:=6) (sg:=QcL.sg) Qm TOk.nil (by kernel_rfl) (by kernel_rfl) (QQB _ x ?_)
 exact R_eq (QVH x)
theorem Qfm:Ql Tryz.prog QcL:=Qn fun x _=>QMH x.1
def QpK (t:Int × Bool):TRes:=zre (.tp [(zci t.1),(zcb t.2)])
def Qgj:TRow:=Qk 189 [(.c TI)] fun x=>(none,QpK (Yz x.1))
def QVh:List TRow:=[QcL,Qe4]
def QNz:TCode :=
 (zsq [(.reg [zmv 2 (zki 0),zmv 3 (zkb false)]),(.reg [zmv 4 0,zca 5 190 [4],zmv 6 0,zca 7 217 [6],zno 8 7,zmv 2 5,zmv 3 8]),.ret])
def QUq:List (ARv × Md):=[(.t 2,.one .d),(.t 3,.one .d)]
theorem QS1 (x:Int) (h :
 K (QpK ((QU x),(!(Zb x))))):Hold (tawp QVh (0+0) QNz (TQ 0 0 QUq K) (Qi [(.c TI x)])) :=
 Hold.of (by kernel_rfl) h
theorem QLD (x:Int):TCon Tryz.prog 189 [(.c TI x)] (QpK (Yz x)):=by
 refine Qo rfl fun hb=>tcg (n:=9) (sg:=Qgj.sg) Qm (TOk.cons Qfm (TOk.cons Qp0 TOk.nil)) (by kernel_rfl) (by kernel_rfl) (QS1 _ x ?_)
 exact R_eq rfl
theorem QoI:Ql Tryz.prog Qgj:=Qn fun x _=>QLD x.1
def Qfi (t:Int × Bool):TRes:=zre (.tp [(zci t.1),(zcb t.2)])
def Qd7:TRow:=Qk 203 [(.c TI)] fun x=>(none,Qfi (Yz x.1))
def QME:List TRow:=[]
def QIQ:TCode :=
 (zsq [(.reg [zmv 2 (zki 0),zmv 3 (zkb false)]),(zsq [(.reg [zmv 4 0,zbi 5 .gtr 4 (zki 2147483647)]),(.cond 5 (zsq [(.reg [zmv 2 (zki 2147483647),zmv 3 (zkb true)]),.ret]) .skip)]),(zsq [(.reg [zmv 6 0,zbi 7 .lss 6 (zki (-2147483647))]),(.cond 7 (zsq [(.reg [zmv 2 (zki (-2147483647)),zmv 3 (zkb true)]),.ret]) .skip)]),(.reg [zmv 8 0,zmv 2 8,zmv 3 (zkb false)]),.ret])
def QEq:List (ARv × Md):=[(.t 2,.one .d),(.t 3,.one .d)]
theorem QWC (x:Int) (h :
 (zif (decide (x>(2147483647:Int))) (K (Qfi ((2147483647:Int),true))) (zif (decide (x<(-2147483647:Int))) (K (Qfi ((-2147483647:Int),true))) (K (Qfi (x,false)))))):Hold (tawp QME (0+0) QIQ (TQ 0 0 QEq K) (Qi [(.c TI x)])) :=
 Hold.of (by kernel_rfl) h
theorem QFf (x:Int):TCon Tryz.prog 203 [(.c TI x)] (Qfi (Yz x)):=by
 refine Qo rfl fun hb=>tcg (n:=9) (sg:=Qd7.sg) Qm TOk.nil (by kernel_rfl) (by kernel_rfl) (QWC _ x ?_)
 refine ⟨fun h=>R_eq ?_,fun h=>⟨fun h2=>R_eq ?_,fun h2=>R_eq ?_⟩⟩
 all_goals (simp at *;simp [Yz,QU,Zb,iMin,iMax];omega)
theorem QhV:Ql Tryz.prog Qd7:=Qn fun x _=>QFf x.1
def QpF (t:Int):TRes:=zre (zci t)
def QeB:TRow:=Qk 204 [(.c TI)] fun x=>(none,QpF (QU x.1))
def QS7:List TRow:=[Qd7]
def QIz:TCode :=
 (zsq [(.reg [zmv 2 (zki 0)]),(.reg [zmv 6 0,zca 7 203 [6],zmv 5 7,zex 8 5 0,zex 9 5 1,zmv 3 8,zmv 4 9]),(.reg [zmv 10 3,zmv 2 10]),.ret])
def QVe:List (ARv × Md):=[(.t 2,.one .d)]
theorem QL6 (x:Int) (h :
 K (QpF ((Yz x).1))):Hold (tawp QS7 (0+0) QIz (TQ 0 0 QVe K) (Qi [(.c TI x)])) :=
 Hold.of (by kernel_rfl) h
theorem QFy (x:Int):TCon Tryz.prog 204 [(.c TI x)] (QpF (QU x)):=by
 refine Qo rfl fun hb=>tcg (n:=11) (sg:=QeB.sg) Qm (TOk.cons QhV TOk.nil) (by kernel_rfl) (by kernel_rfl) (QL6 _ x ?_)
 exact R_eq rfl
theorem QjK:Ql Tryz.prog QeB:=Qn fun x _=>QFy x.1
def Qhy (t:Int):TRes:=zre (zci t)
def Qpa:TRow:=Qk 239 [(.c TI),(.c TI)] fun x=>(some (Ql8 x.1 x.2.1),Qhy (Qiz x.1 x.2.1))
def QL8:List TRow:=[]
def QXu:TCode :=
 (zsq [(.reg [zmv 4 (zki 0)]),(.reg [zmv 6 0,zmv 7 1,zbi 8 .quo 6 7,zmv 5 8]),(zsq [(.reg [zmv 9 0,zmv 10 1,zbi 11 .rem 9 10,zbi 12 .neq 11 (zki 0),zmv 13 12,.grp 13 true [zmv 14 0,zbi 15 .lss 14 (zki 0),zmv 16 1,zbi 17 .lss 16 (zki 0),zop 18 (.eqb true 15 17)] 19 18]),(.cond 19 (.reg [zmv 20 5,zbi 21 .sub 20 (zki 1),zmv 5 21]) .skip)]),(.reg [zmv 22 5,zmv 4 22]),.ret])
def QUM:List (ARv × Md):=[(.t 4,.one .d)]
theorem QGv (a:Int) (b:Int) (h :
 ((¬ (b:Int)=0)∧((¬ (b:Int)=0)∧(zif (((Int.tmod a b) != (0:Int))&&(!((decide (a<(0:Int)))==(decide (b<(0:Int)))))) (K (Qhy (w64 ((w64 (Int.tdiv a b))-(1:Int))))) (K (Qhy (w64 (Int.tdiv a b)))))))):Hold (tawp QL8 (0+0) QXu (TQ 0 0 QUM K) (Qi [(.c TI a),(.c TI b)])) :=
 Hold.of (by kernel_rfl) h
theorem QLg (a:Int) (b:Int) (hp:Ql8 a b):TCon Tryz.prog 239 [(.c TI a),(.c TI b)] (Qhy (Qiz a b)):=by
 refine Qo rfl fun hb=>tcg (n:=23) (sg:=Qpa.sg) Qm TOk.nil (by kernel_rfl) (by kernel_rfl) (QGv _ a b ?_)
 obtain ⟨h1,h2,rfl⟩:=hp
 have hq:w64 (Int.tdiv a 65536)=Int.tdiv a 65536:=by
  rw [Int.tdiv_eq_ediv];have:Int.sign 65536=1:=rfl;rw [this];exact Qp (by split <;> omega) (by split <;> omega)
 have hq1:w64 (Int.tdiv a 65536-1)=Int.tdiv a 65536-1:=by
  rw [Int.tdiv_eq_ediv];have:Int.sign 65536=1:=rfl;rw [this];exact Qp (by split <;> omega) (by split <;> omega)
 have hf:=QW3 a
 rw [hq,hq1]
 refine ⟨by omega,by omega,fun h=>R_eq ?_,fun h=>R_eq ?_⟩
 ·rw [if_pos h] at hf;exact hf
 ·rw [if_neg (by rw [h];simp)] at hf;exact hf
theorem QHU:Ql Tryz.prog Qpa:=Qn fun x h=>QLg x.1 x.2.1 h
def Qmi (t:Int × Bool):TRes:=zre (.tp [(zci t.1),(zcb t.2)])
def QdW:TRow:=Qk 121 [(.c TI),(.c TI)] fun x=>(none,Qmi (Q7 x.1 x.2.1))
def QSp:List TRow:=[QcL,Qgj]
def QFq:TCode :=
 (zsq [(.reg [zmv 4 (zki 0),zmv 5 (zkb false)]),(.reg [zmv 6 0,zca 7 190 [6],zmv 8 1,zca 9 190 [8],zbi 10 .add 7 9,zca 11 189 [10],zex 12 11 0,zex 13 11 1,zmv 4 12,zmv 5 13]),.ret])
def QEj:List (ARv × Md):=[(.t 4,.one .d),(.t 5,.one .d)]
theorem QSR (a:Int) (b:Int) (h :
 K (Qmi ((Yz (w64 ((QU a)+(QU b)))).1,(Yz (w64 ((QU a)+(QU b)))).2))):Hold (tawp QSp (0+0) QFq (TQ 0 0 QEj K) (Qi [(.c TI a),(.c TI b)])) :=
 Hold.of (by kernel_rfl) h
theorem QKF (a:Int) (b:Int):TCon Tryz.prog 121 [(.c TI a),(.c TI b)] (Qmi (Q7 a b)):=by
 refine Qo rfl fun hb=>tcg (n:=14) (sg:=QdW.sg) Qm (TOk.cons Qfm (TOk.cons QoI TOk.nil)) (by kernel_rfl) (by kernel_rfl) (QSR _ a b ?_)
 have h1:=Qah a
 have h2:=Qah b
 rw [Qp (x:=QU a+QU b) (by omega) (by omega)]
 exact R_eq rfl
theorem Qhk:Ql Tryz.prog QdW:=Qn fun x _=>QKF x.1 x.2.1
def QlI (t:Int × Bool):TRes:=zre (.tp [(zci t.1),(zcb t.2)])
def Qcs:TRow:=Qk 162 [(.c TI),(.c TI)] fun x=>(none,QlI (Q7 x.1 x.2.1))
def QLQ:List TRow:=[QeB,Qd7]
def QVC:TCode :=
 (zsq [(.reg [zmv 4 (zki 0),zmv 5 (zkb false)]),(.reg [zmv 6 0,zca 7 204 [6],zmv 8 1,zca 9 204 [8],zbi 10 .add 7 9,zca 11 203 [10],zex 12 11 0,zex 13 11 1,zmv 4 12,zmv 5 13]),.ret])
def QKB:List (ARv × Md):=[(.t 4,.one .d),(.t 5,.one .d)]
theorem QPn (a:Int) (b:Int) (h :
 K (QlI ((Yz (w64 ((QU a)+(QU b)))).1,(Yz (w64 ((QU a)+(QU b)))).2))):Hold (tawp QLQ (0+0) QVC (TQ 0 0 QKB K) (Qi [(.c TI a),(.c TI b)])) :=
 Hold.of (by kernel_rfl) h
theorem QMa (a:Int) (b:Int):TCon Tryz.prog 162 [(.c TI a),(.c TI b)] (QlI (Q7 a b)):=by
 refine Qo rfl fun hb=>tcg (n:=14) (sg:=Qcs.sg) Qm (TOk.cons QjK (TOk.cons QhV TOk.nil)) (by kernel_rfl) (by kernel_rfl) (QPn _ a b ?_)
 have h1:=Qah a
 have h2:=Qah b
 rw [Qp (x:=QU a+QU b) (by omega) (by omega)]
 exact R_eq rfl
theorem Qe3:Ql Tryz.prog Qcs:=Qn fun x _=>QMa x.1 x.2.1
def Qqr (t:Int × Bool):TRes:=zre (.tp [(zci t.1),(zcb t.2)])
def QoM:TRow:=Qk 192 [(.c TI),(.c TI)] fun x=>(none,Qqr (JN x.1 x.2.1))
def QMs:List TRow:=[QcL,Qgj]
def QOP:TCode :=
 (zsq [(.reg [zmv 4 (zki 0),zmv 5 (zkb false)]),(.reg [zmv 6 0,zca 7 190 [6],zmv 8 1,zca 9 190 [8],zbi 10 .sub 7 9,zca 11 189 [10],zex 12 11 0,zex 13 11 1,zmv 4 12,zmv 5 13]),.ret])
def QOo:List (ARv × Md):=[(.t 4,.one .d),(.t 5,.one .d)]
theorem QI1 (a:Int) (b:Int) (h :
 K (Qqr ((Yz (w64 ((QU a)-(QU b)))).1,(Yz (w64 ((QU a)-(QU b)))).2))):Hold (tawp QMs (0+0) QOP (TQ 0 0 QOo K) (Qi [(.c TI a),(.c TI b)])) :=
 Hold.of (by kernel_rfl) h
theorem QQ1 (a:Int) (b:Int):TCon Tryz.prog 192 [(.c TI a),(.c TI b)] (Qqr (JN a b)):=by
 refine Qo rfl fun hb=>tcg (n:=14) (sg:=QoM.sg) Qm (TOk.cons Qfm (TOk.cons QoI TOk.nil)) (by kernel_rfl) (by kernel_rfl) (QI1 _ a b ?_)
 have h1:=Qah a
 have h2:=Qah b
 rw [Qp (x:=QU a-QU b) (by omega) (by omega)]
 exact R_eq rfl
theorem QLA:Ql Tryz.prog QoM:=Qn fun x _=>QQ1 x.1 x.2.1
def Qnr (t:Int × Bool):TRes:=zre (.tp [(zci t.1),(zcb t.2)])
def Qqc:TRow:=Qk 208 [(.c TI),(.c TI)] fun x=>(none,Qnr (JN x.1 x.2.1))
def QUD:List TRow:=[QeB,Qd7]
def QRs:TCode :=
 (zsq [(.reg [zmv 4 (zki 0),zmv 5 (zkb false)]),(.reg [zmv 6 0,zca 7 204 [6],zmv 8 1,zca 9 204 [8],zbi 10 .sub 7 9,zca 11 203 [10],zex 12 11 0,zex 13 11 1,zmv 4 12,zmv 5 13]),.ret])
def QMX:List (ARv × Md):=[(.t 4,.one .d),(.t 5,.one .d)]
theorem QVR (a:Int) (b:Int) (h :
 K (Qnr ((Yz (w64 ((QU a)-(QU b)))).1,(Yz (w64 ((QU a)-(QU b)))).2))):Hold (tawp QUD (0+0) QRs (TQ 0 0 QMX K) (Qi [(.c TI a),(.c TI b)])) :=
 Hold.of (by kernel_rfl) h
theorem QMe (a:Int) (b:Int):TCon Tryz.prog 208 [(.c TI a),(.c TI b)] (Qnr (JN a b)):=by
 refine Qo rfl fun hb=>tcg (n:=14) (sg:=Qqc.sg) Qm (TOk.cons QjK (TOk.cons QhV TOk.nil)) (by kernel_rfl) (by kernel_rfl) (QVR _ a b ?_)
 have h1:=Qah a
 have h2:=Qah b
 rw [Qp (x:=QU a-QU b) (by omega) (by omega)]
 exact R_eq rfl
theorem QNI:Ql Tryz.prog Qqc:=Qn fun x _=>QMe x.1 x.2.1
def QmI (t:Int × Bool):TRes:=zre (.tp [(zci t.1),(zcb t.2)])
def QeH:TRow:=Qk 216 [(.c TI),(.c TI)] fun x=>(none,QmI (Zm x.1 x.2.1))
def QKj:List TRow:=[QcL,Qgj]
def QRy:TCode :=
 (zsq [(.reg [zmv 4 (zki 0),zmv 5 (zkb false)]),(.reg [zmv 6 0,zca 7 190 [6],zmv 8 1,zca 9 190 [8],zbi 10 .mul 7 9,zbi 11 .shr 10 (.k (.c (.int .u64) (16:Int))),zca 12 189 [11],zex 13 12 0,zex 14 12 1,zmv 4 13,zmv 5 14]),.ret])
def QRS:List (ARv × Md):=[(.t 4,.one .d),(.t 5,.one .d)]
theorem QV6 (a:Int) (b:Int) (h :
 (((0:Int)≤(16:Int))∧K (QmI ((Yz (Int.fdiv (w64 ((QU a)*(QU b))) (2 ^ (min (Int.toNat (16:Int)) (IntKind.i64.bits))))).1,(Yz (Int.fdiv (w64 ((QU a)*(QU b))) (2 ^ (min (Int.toNat (16:Int)) (IntKind.i64.bits))))).2)))):Hold (tawp QKj (0+0) QRy (TQ 0 0 QRS K) (Qi [(.c TI a),(.c TI b)])) :=
 Hold.of (by kernel_rfl) h
theorem QND (a:Int) (b:Int):TCon Tryz.prog 216 [(.c TI a),(.c TI b)] (QmI (Zm a b)):=by
 refine Qo rfl fun hb=>tcg (n:=15) (sg:=QeH.sg) Qm (TOk.cons Qfm (TOk.cons QoI TOk.nil)) (by kernel_rfl) (by kernel_rfl) (QV6 _ a b ?_)
 have h:=QCE a b
 rw [Qp (x:=QU a*QU b) (by omega) (by omega)]
 exact ⟨by omega,R_eq rfl⟩
theorem QlM:Ql Tryz.prog QeH:=Qn fun x _=>QND x.1 x.2.1
def QkK (t:Int × Bool):TRes:=zre (.tp [(zci t.1),(zcb t.2)])
def Qe5:TRow:=Qk 229 [(.c TI),(.c TI)] fun x=>(none,QkK (Zm x.1 x.2.1))
def QXK:List TRow:=[QeB,Qpa,Qd7]
def QEV:TCode :=
 (zsq [(.reg [zmv 4 (zki 0),zmv 5 (zkb false)]),(.reg [zmv 6 0,zca 7 204 [6],zmv 8 1,zca 9 204 [8],zbi 10 .mul 7 9,zca 11 239 [10,(zki 65536)],zca 12 203 [11],zex 13 12 0,zex 14 12 1,zmv 4 13,zmv 5 14]),.ret])
def QWq:List (ARv × Md):=[(.t 4,.one .d),(.t 5,.one .d)]
theorem QXi (a:Int) (b:Int) (h :
 ((Ql8 (w64 ((QU a)*(QU b))) (65536:Int))∧K (QkK ((Yz (Qiz (w64 ((QU a)*(QU b))) (65536:Int))).1,(Yz (Qiz (w64 ((QU a)*(QU b))) (65536:Int))).2)))):Hold (tawp QXK (0+0) QEV (TQ 0 0 QWq K) (Qi [(.c TI a),(.c TI b)])) :=
 Hold.of (by kernel_rfl) h
theorem QR8 (a:Int) (b:Int):TCon Tryz.prog 229 [(.c TI a),(.c TI b)] (QkK (Zm a b)):=by
 refine Qo rfl fun hb=>tcg (n:=15) (sg:=Qe5.sg) Qm (TOk.cons QjK (TOk.cons QHU (TOk.cons QhV TOk.nil))) (by kernel_rfl) (by kernel_rfl) (QXi _ a b ?_)
 have h:=QCE a b
 rw [Qp (x:=QU a*QU b) (by omega) (by omega)]
 exact ⟨⟨h.1,h.2,rfl⟩,R_eq rfl⟩
theorem Qlo:Ql Tryz.prog Qe5:=Qn fun x _=>QR8 x.1 x.2.1
def Qk8 (t:Int):TRes:=zre (zci t)
def Qm9:TRow:=Qk 234 [(.c TI)] fun x=>(none,Qk8 (Qan x.1))
def QQ0:List TRow:=[QcL]
def QJx:TCode :=
 (zsq [(.reg [zmv 2 (zki 0)]),(.reg [zmv 3 0,zca 4 190 [3],zop 5 (.mm true (zki 0) 4),zmv 2 5]),.ret])
def QYg:List (ARv × Md):=[(.t 2,.one .d)]
theorem QPP (a:Int) (h :
 K (Qk8 (if (0:Int)<(QU a) then (QU a) else (0:Int)))):Hold (tawp QQ0 (0+0) QJx (TQ 0 0 QYg K) (Qi [(.c TI a)])) :=
 Hold.of (by kernel_rfl) h
theorem QYb (a:Int):TCon Tryz.prog 234 [(.c TI a)] (Qk8 (Qan a)):=by
 refine Qo rfl fun hb=>tcg (n:=6) (sg:=Qm9.sg) Qm (TOk.cons Qfm TOk.nil) (by kernel_rfl) (by kernel_rfl) (QPP _ a ?_)
 exact R_eq rfl
theorem QW2:Ql Tryz.prog Qm9:=Qn fun x _=>QYb x.1
def QpR (t:Int):TRes:=zre (zci t)
def Qk4:TRow:=Qk 238 [(.c TI)] fun x=>(none,QpR (Qan x.1))
def QQk:List TRow:=[QeB]
def QEB:TCode :=
 (zsq [(.reg [zmv 2 (zki 0)]),(.reg [zmv 3 0,zca 4 204 [3],zop 5 (.mm true (zki 0) 4),zmv 2 5]),.ret])
def QKk:List (ARv × Md):=[(.t 2,.one .d)]
theorem QRx (a:Int) (h :
 K (QpR (if (0:Int)<(QU a) then (QU a) else (0:Int)))):Hold (tawp QQk (0+0) QEB (TQ 0 0 QKk K) (Qi [(.c TI a)])) :=
 Hold.of (by kernel_rfl) h
theorem QWO (a:Int):TCon Tryz.prog 238 [(.c TI a)] (QpR (Qan a)):=by
 refine Qo rfl fun hb=>tcg (n:=6) (sg:=Qk4.sg) Qm (TOk.cons QjK TOk.nil) (by kernel_rfl) (by kernel_rfl) (QRx _ a ?_)
 exact R_eq rfl
theorem QJF:Ql Tryz.prog Qk4:=Qn fun x _=>QWO x.1
def QlZ (t:(List Int)):TRes:=⟨(.r [TI] 0 0 t.length),[(.sl 3 [TI] true t)],[],true,[]⟩
def Qax:TRow:=Qk 119 [(.c (.sl [TI]))] fun x=>(some (Qx (α:=List Int) x.1),QlZ (id (α:=List Int) x.1))
def QFG:List TRow:=[]
def QJX:TCode :=
 (zsq [(.reg [zmv 2 (.k (.n [TI]))]),(.reg [zop 3 (.bsl 3 [TI] []),zmv 4 0,zop 5 (.app 3 4 3 [TI]),zmv 2 5]),.ret])
def QMo:List (ARv × Md):=[(.t 2,.one (.o 3))]
theorem QHF (l:List Int) (h :
 (((0=0∨0+l.length≤0)∧0+l.length≤big)∧K (QlZ (List.take (0+l.length) (l:List Int))))):Hold (tawp QFG (0+0) QJX (TQ 0 0 QMo K) (Qi [(.c (.sl [TI]) l)])) :=
 Hold.of (by kernel_rfl) h
theorem QXE (l:List Int) (hp:Qx (α:=List Int) l):TCon Tryz.prog 119 [(.c (.sl [TI]) l)] (QlZ (id (α:=List Int) l)):=by
 refine Qo rfl fun hb=>tcg (n:=6) (sg:=Qax.sg) Qm TOk.nil (by kernel_rfl) (by kernel_rfl) (QHF _ l ?_)
 have hl_l:l.length≤9223372036854775807:=hb.1.1
 have hl:=ZN l
 unfold Qx at hp
 exact ⟨⟨.inl rfl,by rw [Q9];omega⟩,R_eq (by simp)⟩
theorem Qbg:Ql Tryz.prog Qax:=Qn fun x h=>QXE x.1 h
end
end Go.Proofs.YtjbdljkhbglnhaaGreat.Am

