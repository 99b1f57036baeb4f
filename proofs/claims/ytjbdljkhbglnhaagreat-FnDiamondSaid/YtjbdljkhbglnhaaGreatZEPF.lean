/- -/
import Derived.Test.YtjbdljkhbglnhaaGreatZEP1
namespace Go.Proofs.YtjbdljkhbglnhaaGreat.Am
open Go Go.RowKit Go.Proofs.YtjbdljkhbglnhaaGreat
set_option linter.all false
noncomputable section
variable (K:TRes→Prop)
def QoY (t:Int):TRes:=zre (zci t)
def Qcw:TRow:=Qk 190 [(.c TI)] fun x=>(none,QoY (QS x.1))
def QP6:List TRow:=[]
def QKH:TCode :=
 (zsq [(.reg [zmv 2 (zki 0)]),(.reg [zmv 3 0,zop 4 (.mm true 3 (zki (-2147483647))),zop 5 (.mm false 4 (zki 2147483647)),zmv 2 5]),.ret])
def QO8:List (ARv × Md):=[(.t 2,.one .d)]
theorem QVZ (x:Int) (h :
 K (QoY (if (2147483647:Int)<(if x<(-2147483647:Int) then (-2147483647:Int) else x) then (2147483647:Int) else (if x<(-2147483647:Int) then (-2147483647:Int) else x)))):Hold (tawp QP6 (0+0) QKH (TQ 0 0 QO8 K) (Qg [(.c TI x)])) :=
 Hold.of (by kernel_rfl) h
theorem QLQ (x:Int):TCon Tryz.prog 190 [(.c TI x)] (QoY (QS x)):=by
 refine Qo rfl fun hb=>tcg (n:=6) (sg:=Qcw.sg) Qm TOk.nil (by kernel_rfl) (by kernel_rfl) (QVZ _ x ?_)
 exact R_eq (QYs x)
theorem Qe4:Qj Tryz.prog Qcw:=Qn fun x _=>QLQ x.1
def Qlx (t:Int × Bool):TRes:=zre (.tp [(zci t.1),(zcb t.2)])
def Qgp:TRow:=Qk 189 [(.c TI)] fun x=>(none,Qlx (YE x.1))
def QWj:List TRow:=[Qcw,Qgq]
def QO3:TCode :=
 (zsq [(.reg [zmv 2 (zki 0),zmv 3 (zkb false)]),(.reg [zmv 4 0,zca 5 190 [4],zmv 6 0,zca 7 217 [6],zno 8 7,zmv 2 5,zmv 3 8]),.ret])
def QT3:List (ARv × Md):=[(.t 2,.one .d),(.t 3,.one .d)]
theorem QLF (x:Int) (h :
 K (Qlx ((QS x),(!(Zc x))))):Hold (tawp QWj (0+0) QO3 (TQ 0 0 QT3 K) (Qg [(.c TI x)])) :=
 Hold.of (by kernel_rfl) h
theorem QKJ (x:Int):TCon Tryz.prog 189 [(.c TI x)] (Qlx (YE x)):=by
 refine Qo rfl fun hb=>tcg (n:=9) (sg:=Qgp.sg) Qm (TOk.cons Qe4 (TOk.cons QnW TOk.nil)) (by kernel_rfl) (by kernel_rfl) (QLF _ x ?_)
 exact R_eq rfl
theorem QlE:Qj Tryz.prog Qgp:=Qn fun x _=>QKJ x.1
def Qgo (t:Int × Bool):TRes:=zre (.tp [(zci t.1),(zcb t.2)])
def Qd8:TRow:=Qk 203 [(.c TI)] fun x=>(none,Qgo (YE x.1))
def QYT:List TRow:=[]
def QM2:TCode :=
 (zsq [(.reg [zmv 2 (zki 0),zmv 3 (zkb false)]),(zsq [(.reg [zmv 4 0,zbi 5 .gtr 4 (zki 2147483647)]),(.cond 5 (zsq [(.reg [zmv 2 (zki 2147483647),zmv 3 (zkb true)]),.ret]) .skip)]),(zsq [(.reg [zmv 6 0,zbi 7 .lss 6 (zki (-2147483647))]),(.cond 7 (zsq [(.reg [zmv 2 (zki (-2147483647)),zmv 3 (zkb true)]),.ret]) .skip)]),(.reg [zmv 8 0,zmv 2 8,zmv 3 (zkb false)]),.ret])
def QVP:List (ARv × Md):=[(.t 2,.one .d),(.t 3,.one .d)]
theorem QV5 (x:Int) (h :
 (zif (decide (x>(2147483647:Int))) (K (Qgo ((2147483647:Int),true))) (zif (decide (x<(-2147483647:Int))) (K (Qgo ((-2147483647:Int),true))) (K (Qgo (x,false)))))):Hold (tawp QYT (0+0) QM2 (TQ 0 0 QVP K) (Qg [(.c TI x)])) :=
 Hold.of (by kernel_rfl) h
theorem QR3 (x:Int):TCon Tryz.prog 203 [(.c TI x)] (Qgo (YE x)):=by
 refine Qo rfl fun hb=>tcg (n:=9) (sg:=Qd8.sg) Qm TOk.nil (by kernel_rfl) (by kernel_rfl) (QV5 _ x ?_)
 refine ⟨fun h=>R_eq ?_,fun h=>⟨fun h2=>R_eq ?_,fun h2=>R_eq ?_⟩⟩
 all_goals (simp at *;simp [YE,QS,Zc,iMin,iMax];omega)
theorem QiR:Qj Tryz.prog Qd8:=Qn fun x _=>QR3 x.1
def QmO (t:Int):TRes:=zre (zci t)
def Qec:TRow:=Qk 204 [(.c TI)] fun x=>(none,QmO (QS x.1))
def QGo:List TRow:=[Qd8]
def QSB:TCode :=
 (zsq [(.reg [zmv 2 (zki 0)]),(.reg [zmv 6 0,zca 7 203 [6],zmv 5 7,zex 8 5 0,zex 9 5 1,zmv 3 8,zmv 4 9]),(.reg [zmv 10 3,zmv 2 10]),.ret])
def QWx:List (ARv × Md):=[(.t 2,.one .d)]
theorem QYP (x:Int) (h :
 K (QmO ((YE x).1))):Hold (tawp QGo (0+0) QSB (TQ 0 0 QWx K) (Qg [(.c TI x)])) :=
 Hold.of (by kernel_rfl) h
theorem QKG (x:Int):TCon Tryz.prog 204 [(.c TI x)] (QmO (QS x)):=by
 refine Qo rfl fun hb=>tcg (n:=11) (sg:=Qec.sg) Qm (TOk.cons QiR TOk.nil) (by kernel_rfl) (by kernel_rfl) (QYP _ x ?_)
 exact R_eq rfl
theorem Qke:Qj Tryz.prog Qec:=Qn fun x _=>QKG x.1
def Qj8 (t:Int):TRes:=zre (zci t)
def QlU:TRow:=Qk 239 [(.c TI),(.c TI)] fun x=>(some (QoU x.1 x.2.1),Qj8 (Qjo x.1 x.2.1))
def QNf:List TRow:=[]
def QOX:TCode :=
 (zsq [(.reg [zmv 4 (zki 0)]),(.reg [zmv 6 0,zmv 7 1,zbi 8 .quo 6 7,zmv 5 8]),(zsq [(.reg [zmv 9 0,zmv 10 1,zbi 11 .rem 9 10,zbi 12 .neq 11 (zki 0),zmv 13 12,.grp 13 true [zmv 14 0,zbi 15 .lss 14 (zki 0),zmv 16 1,zbi 17 .lss 16 (zki 0),zop 18 (.eqb true 15 17)] 19 18]),(.cond 19 (.reg [zmv 20 5,zbi 21 .sub 20 (zki 1),zmv 5 21]) .skip)]),(.reg [zmv 22 5,zmv 4 22]),.ret])
def QFM:List (ARv × Md):=[(.t 4,.one .d)]
theorem QYW (a:Int) (b:Int) (h :
 ((¬ (b:Int)=0)∧((¬ (b:Int)=0)∧(zif (((Int.tmod a b) != (0:Int))&&(!((decide (a<(0:Int)))==(decide (b<(0:Int)))))) (K (Qj8 (w64 ((w64 (Int.tdiv a b))-(1:Int))))) (K (Qj8 (w64 (Int.tdiv a b)))))))):Hold (tawp QNf (0+0) QOX (TQ 0 0 QFM K) (Qg [(.c TI a),(.c TI b)])) :=
 Hold.of (by kernel_rfl) h
theorem QFp (a:Int) (b:Int) (hp:QoU a b):TCon Tryz.prog 239 [(.c TI a),(.c TI b)] (Qj8 (Qjo a b)):=by
 refine Qo rfl fun hb=>tcg (n:=23) (sg:=QlU.sg) Qm TOk.nil (by kernel_rfl) (by kernel_rfl) (QYW _ a b ?_)
 obtain ⟨h1,h2,rfl⟩:=hp
 have hq:w64 (Int.tdiv a 65536)=Int.tdiv a 65536:=by
  rw [Int.tdiv_eq_ediv];have:Int.sign 65536=1:=rfl;rw [this];exact Qr (by split <;> omega) (by split <;> omega)
 have hq1:w64 (Int.tdiv a 65536-1)=Int.tdiv a 65536-1:=by
  rw [Int.tdiv_eq_ediv];have:Int.sign 65536=1:=rfl;rw [this];exact Qr (by split <;> omega) (by split <;> omega)
 have hf:=QH8 a
 rw [hq,hq1]
 refine ⟨by omega,by omega,fun h=>R_eq ?_,fun h=>R_eq ?_⟩
 ·rw [if_pos h] at hf;exact hf
 ·rw [if_neg (by rw [h];simp)] at hf;exact hf
theorem QE8:Qj Tryz.prog QlU:=Qn fun x h=>QFp x.1 x.2.1 h
def Qox (t:Int × Bool):TRes:=zre (.tp [(zci t.1),(zcb t.2)])
def QeF:TRow:=Qk 121 [(.c TI),(.c TI)] fun x=>(none,Qox (Q4 x.1 x.2.1))
def QKC:List TRow:=[Qcw,Qgp]
def QSn:TCode :=
 (zsq [(.reg [zmv 4 (zki 0),zmv 5 (zkb false)]),(.reg [zmv 6 0,zca 7 190 [6],zmv 8 1,zca 9 190 [8],zbi 10 .add 7 9,zca 11 189 [10],zex 12 11 0,zex 13 11 1,zmv 4 12,zmv 5 13]),.ret])
def QSY:List (ARv × Md):=[(.t 4,.one .d),(.t 5,.one .d)]
theorem QFg (a:Int) (b:Int) (h :
 K (Qox ((YE (w64 ((QS a)+(QS b)))).1,(YE (w64 ((QS a)+(QS b)))).2))):Hold (tawp QKC (0+0) QSn (TQ 0 0 QSY K) (Qg [(.c TI a),(.c TI b)])) :=
 Hold.of (by kernel_rfl) h
theorem QTc (a:Int) (b:Int):TCon Tryz.prog 121 [(.c TI a),(.c TI b)] (Qox (Q4 a b)):=by
 refine Qo rfl fun hb=>tcg (n:=14) (sg:=QeF.sg) Qm (TOk.cons Qe4 (TOk.cons QlE TOk.nil)) (by kernel_rfl) (by kernel_rfl) (QFg _ a b ?_)
 have h1:=Qab a
 have h2:=Qab b
 rw [Qr (x:=QS a+QS b) (by omega) (by omega)]
 exact R_eq rfl
theorem QgO:Qj Tryz.prog QeF:=Qn fun x _=>QTc x.1 x.2.1
def QkK (t:Int × Bool):TRes:=zre (.tp [(zci t.1),(zcb t.2)])
def Qdp:TRow:=Qk 162 [(.c TI),(.c TI)] fun x=>(none,QkK (Q4 x.1 x.2.1))
def QJB:List TRow:=[Qec,Qd8]
def QFf:TCode :=
 (zsq [(.reg [zmv 4 (zki 0),zmv 5 (zkb false)]),(.reg [zmv 6 0,zca 7 204 [6],zmv 8 1,zca 9 204 [8],zbi 10 .add 7 9,zca 11 203 [10],zex 12 11 0,zex 13 11 1,zmv 4 12,zmv 5 13]),.ret])
def QRq:List (ARv × Md):=[(.t 4,.one .d),(.t 5,.one .d)]
theorem QIp (a:Int) (b:Int) (h :
 K (QkK ((YE (w64 ((QS a)+(QS b)))).1,(YE (w64 ((QS a)+(QS b)))).2))):Hold (tawp QJB (0+0) QFf (TQ 0 0 QRq K) (Qg [(.c TI a),(.c TI b)])) :=
 Hold.of (by kernel_rfl) h
theorem QWT (a:Int) (b:Int):TCon Tryz.prog 162 [(.c TI a),(.c TI b)] (QkK (Q4 a b)):=by
 refine Qo rfl fun hb=>tcg (n:=14) (sg:=Qdp.sg) Qm (TOk.cons Qke (TOk.cons QiR TOk.nil)) (by kernel_rfl) (by kernel_rfl) (QIp _ a b ?_)
 have h1:=Qab a
 have h2:=Qab b
 rw [Qr (x:=QS a+QS b) (by omega) (by omega)]
 exact R_eq rfl
theorem Qfd:Qj Tryz.prog Qdp:=Qn fun x _=>QWT x.1 x.2.1
def Qqh (t:Int × Bool):TRes:=zre (.tp [(zci t.1),(zcb t.2)])
def Qmc:TRow:=Qk 192 [(.c TI),(.c TI)] fun x=>(none,Qqh (JB x.1 x.2.1))
def QFQ:List TRow:=[Qcw,Qgp]
def QQD:TCode :=
 (zsq [(.reg [zmv 4 (zki 0),zmv 5 (zkb false)]),(.reg [zmv 6 0,zca 7 190 [6],zmv 8 1,zca 9 190 [8],zbi 10 .sub 7 9,zca 11 189 [10],zex 12 11 0,zex 13 11 1,zmv 4 12,zmv 5 13]),.ret])
def QVD:List (ARv × Md):=[(.t 4,.one .d),(.t 5,.one .d)]
theorem QV0 (a:Int) (b:Int) (h :
 K (Qqh ((YE (w64 ((QS a)-(QS b)))).1,(YE (w64 ((QS a)-(QS b)))).2))):Hold (tawp QFQ (0+0) QQD (TQ 0 0 QVD K) (Qg [(.c TI a),(.c TI b)])) :=
 Hold.of (by kernel_rfl) h
theorem QSG (a:Int) (b:Int):TCon Tryz.prog 192 [(.c TI a),(.c TI b)] (Qqh (JB a b)):=by
 refine Qo rfl fun hb=>tcg (n:=14) (sg:=Qmc.sg) Qm (TOk.cons Qe4 (TOk.cons QlE TOk.nil)) (by kernel_rfl) (by kernel_rfl) (QV0 _ a b ?_)
 have h1:=Qab a
 have h2:=Qab b
 rw [Qr (x:=QS a-QS b) (by omega) (by omega)]
 exact R_eq rfl
theorem QTo:Qj Tryz.prog Qmc:=Qn fun x _=>QSG x.1 x.2.1
def QnK (t:Int × Bool):TRes:=zre (.tp [(zci t.1),(zcb t.2)])
def Qpg:TRow:=Qk 208 [(.c TI),(.c TI)] fun x=>(none,QnK (JB x.1 x.2.1))
def QFU:List TRow:=[Qec,Qd8]
def QFh:TCode :=
 (zsq [(.reg [zmv 4 (zki 0),zmv 5 (zkb false)]),(.reg [zmv 6 0,zca 7 204 [6],zmv 8 1,zca 9 204 [8],zbi 10 .sub 7 9,zca 11 203 [10],zex 12 11 0,zex 13 11 1,zmv 4 12,zmv 5 13]),.ret])
def QUA:List (ARv × Md):=[(.t 4,.one .d),(.t 5,.one .d)]
theorem QTy (a:Int) (b:Int) (h :
 K (QnK ((YE (w64 ((QS a)-(QS b)))).1,(YE (w64 ((QS a)-(QS b)))).2))):Hold (tawp QFU (0+0) QFh (TQ 0 0 QUA K) (Qg [(.c TI a),(.c TI b)])) :=
 Hold.of (by kernel_rfl) h
theorem QFX (a:Int) (b:Int):TCon Tryz.prog 208 [(.c TI a),(.c TI b)] (QnK (JB a b)):=by
 refine Qo rfl fun hb=>tcg (n:=14) (sg:=Qpg.sg) Qm (TOk.cons Qke (TOk.cons QiR TOk.nil)) (by kernel_rfl) (by kernel_rfl) (QTy _ a b ?_)
 have h1:=Qab a
 have h2:=Qab b
 rw [Qr (x:=QS a-QS b) (by omega) (by omega)]
 exact R_eq rfl
theorem QOi:Qj Tryz.prog Qpg:=Qn fun x _=>QFX x.1 x.2.1
def QlS (t:Int × Bool):TRes:=zre (.tp [(zci t.1),(zcb t.2)])
def QfL:TRow:=Qk 216 [(.c TI),(.c TI)] fun x=>(none,QlS (Zr x.1 x.2.1))
def QRc:List TRow:=[Qcw,Qgp]
def QLW:TCode :=
 (zsq [(.reg [zmv 4 (zki 0),zmv 5 (zkb false)]),(.reg [zmv 6 0,zca 7 190 [6],zmv 8 1,zca 9 190 [8],zbi 10 .mul 7 9,zbi 11 .shr 10 (.k (.c (.int .u64) (16:Int))),zca 12 189 [11],zex 13 12 0,zex 14 12 1,zmv 4 13,zmv 5 14]),.ret])
def QQu:List (ARv × Md):=[(.t 4,.one .d),(.t 5,.one .d)]
theorem QVs (a:Int) (b:Int) (h :
 (((0:Int)≤(16:Int))∧K (QlS ((YE (Int.fdiv (w64 ((QS a)*(QS b))) (2 ^ (min (Int.toNat (16:Int)) (IntKind.i64.bits))))).1,(YE (Int.fdiv (w64 ((QS a)*(QS b))) (2 ^ (min (Int.toNat (16:Int)) (IntKind.i64.bits))))).2)))):Hold (tawp QRc (0+0) QLW (TQ 0 0 QQu K) (Qg [(.c TI a),(.c TI b)])) :=
 Hold.of (by kernel_rfl) h
theorem QMA (a:Int) (b:Int):TCon Tryz.prog 216 [(.c TI a),(.c TI b)] (QlS (Zr a b)):=by
 refine Qo rfl fun hb=>tcg (n:=15) (sg:=QfL.sg) Qm (TOk.cons Qe4 (TOk.cons QlE TOk.nil)) (by kernel_rfl) (by kernel_rfl) (QVs _ a b ?_)
 have h:=QDU a b
 rw [Qr (x:=QS a*QS b) (by omega) (by omega)]
 exact ⟨by omega,R_eq rfl⟩
theorem Qmk:Qj Tryz.prog QfL:=Qn fun x _=>QMA x.1 x.2.1
def Qpt (t:Int × Bool):TRes:=zre (.tp [(zci t.1),(zcb t.2)])
def QfU:TRow:=Qk 229 [(.c TI),(.c TI)] fun x=>(none,Qpt (Zr x.1 x.2.1))
def QNw:List TRow:=[Qec,QlU,Qd8]
def QG4:TCode :=
 (zsq [(.reg [zmv 4 (zki 0),zmv 5 (zkb false)]),(.reg [zmv 6 0,zca 7 204 [6],zmv 8 1,zca 9 204 [8],zbi 10 .mul 7 9,zca 11 239 [10,(zki 65536)],zca 12 203 [11],zex 13 12 0,zex 14 12 1,zmv 4 13,zmv 5 14]),.ret])
def QPX:List (ARv × Md):=[(.t 4,.one .d),(.t 5,.one .d)]
theorem QFE (a:Int) (b:Int) (h :
 ((QoU (w64 ((QS a)*(QS b))) (65536:Int))∧K (Qpt ((YE (Qjo (w64 ((QS a)*(QS b))) (65536:Int))).1,(YE (Qjo (w64 ((QS a)*(QS b))) (65536:Int))).2)))):Hold (tawp QNw (0+0) QG4 (TQ 0 0 QPX K) (Qg [(.c TI a),(.c TI b)])) :=
 Hold.of (by kernel_rfl) h
theorem QTF (a:Int) (b:Int):TCon Tryz.prog 229 [(.c TI a),(.c TI b)] (Qpt (Zr a b)):=by
 refine Qo rfl fun hb=>tcg (n:=15) (sg:=QfU.sg) Qm (TOk.cons Qke (TOk.cons QE8 (TOk.cons QiR TOk.nil))) (by kernel_rfl) (by kernel_rfl) (QFE _ a b ?_)
 have h:=QDU a b
 rw [Qr (x:=QS a*QS b) (by omega) (by omega)]
 exact ⟨⟨h.1,h.2,rfl⟩,R_eq rfl⟩
theorem QkU:Qj Tryz.prog QfU:=Qn fun x _=>QTF x.1 x.2.1
def Qk0 (t:Int):TRes:=zre (zci t)
def QmY:TRow:=Qk 234 [(.c TI)] fun x=>(none,Qk0 (Qan x.1))
def QFO:List TRow:=[Qcw]
def QU6:TCode :=
 (zsq [(.reg [zmv 2 (zki 0)]),(.reg [zmv 3 0,zca 4 190 [3],zop 5 (.mm true (zki 0) 4),zmv 2 5]),.ret])
def QQg:List (ARv × Md):=[(.t 2,.one .d)]
theorem QN8 (a:Int) (h :
 K (Qk0 (if (0:Int)<(QS a) then (QS a) else (0:Int)))):Hold (tawp QFO (0+0) QU6 (TQ 0 0 QQg K) (Qg [(.c TI a)])) :=
 Hold.of (by kernel_rfl) h
theorem QQP (a:Int):TCon Tryz.prog 234 [(.c TI a)] (Qk0 (Qan a)):=by
 refine Qo rfl fun hb=>tcg (n:=6) (sg:=QmY.sg) Qm (TOk.cons Qe4 TOk.nil) (by kernel_rfl) (by kernel_rfl) (QN8 _ a ?_)
 exact R_eq rfl
theorem QIk:Qj Tryz.prog QmY:=Qn fun x _=>QQP x.1
def Qmb (t:Int):TRes:=zre (zci t)
def QmH:TRow:=Qk 238 [(.c TI)] fun x=>(none,Qmb (Qan x.1))
def QWi:List TRow:=[Qec]
def QGU:TCode :=
 (zsq [(.reg [zmv 2 (zki 0)]),(.reg [zmv 3 0,zca 4 204 [3],zop 5 (.mm true (zki 0) 4),zmv 2 5]),.ret])
def QSq:List (ARv × Md):=[(.t 2,.one .d)]
theorem QWY (a:Int) (h :
 K (Qmb (if (0:Int)<(QS a) then (QS a) else (0:Int)))):Hold (tawp QWi (0+0) QGU (TQ 0 0 QSq K) (Qg [(.c TI a)])) :=
 Hold.of (by kernel_rfl) h
theorem QHg (a:Int):TCon Tryz.prog 238 [(.c TI a)] (Qmb (Qan a)):=by
 refine Qo rfl fun hb=>tcg (n:=6) (sg:=QmH.sg) Qm (TOk.cons Qke TOk.nil) (by kernel_rfl) (by kernel_rfl) (QWY _ a ?_)
 exact R_eq rfl
theorem QVG:Qj Tryz.prog QmH:=Qn fun x _=>QHg x.1
def QpL (t:(List Int)):TRes:=⟨(.r [TI] 0 0 t.length),[(.sl 3 [TI] true t)],[],true,[]⟩
def Qao:TRow:=Qk 119 [(.c (.sl [TI]))] fun x=>(some (Qu (α:=List Int) x.1),QpL (id (α:=List Int) x.1))
def QF7:List TRow:=[]
def QGd:TCode :=
 (zsq [(.reg [zmv 2 (.k (.n [TI]))]),(.reg [zop 3 (.bsl 3 [TI] []),zmv 4 0,zop 5 (.app 3 4 3 [TI]),zmv 2 5]),.ret])
def QO7:List (ARv × Md):=[(.t 2,.one (.o 3))]
theorem QHY (l:List Int) (h :
 (((0=0∨0+l.length≤0)∧0+l.length≤big)∧K (QpL (List.take (0+l.length) (l:List Int))))):Hold (tawp QF7 (0+0) QGd (TQ 0 0 QO7 K) (Qg [(.c (.sl [TI]) l)])) :=
 Hold.of (by kernel_rfl) h
theorem QQw (l:List Int) (hp:Qu (α:=List Int) l):TCon Tryz.prog 119 [(.c (.sl [TI]) l)] (QpL (id (α:=List Int) l)):=by
 refine Qo rfl fun hb=>tcg (n:=6) (sg:=Qao.sg) Qm TOk.nil (by kernel_rfl) (by kernel_rfl) (QHY _ l ?_)
 have hl_l:l.length≤9223372036854775807:=hb.1.1
 have hl:=ZS l
 unfold Qu at hp
 exact ⟨⟨.inl rfl,by rw [Q9];omega⟩,R_eq (by simp)⟩
theorem Qa8:Qj Tryz.prog Qao:=Qn fun x h=>QQw x.1 h
end
end Go.Proofs.YtjbdljkhbglnhaaGreat.Am

