/- -/
import Derived.Test.YtjbdljkhbglnhaaGreatZCP1
namespace Go.Proofs.YtjbdljkhbglnhaaGreat.Am
open Go Go.RowKit Go.Proofs.YtjbdljkhbglnhaaGreat
set_option linter.all false
noncomputable section
variable (K:TRes→Prop)
def Qqf (t:Int):TRes:=zre (zci t)
def Qcw:TRow:=Qf 190 [(.c TI)] fun x=>(none,Qqf (QQ x.1))
def QWp:List TRow:=[]
def QUc:TCode :=
 (zsq [(.reg [zmv 2 (zki 0)]),(.reg [zmv 3 0,zop 4 (.mm true 3 (zki (-2147483647))),zop 5 (.mm false 4 (zki 2147483647)),zmv 2 5]),.ret])
def QMo:List (ARv × Md):=[(.t 2,.one .d)]
theorem QHP (x:Int) (h :
 K (Qqf (if (2147483647:Int)<(if x<(-2147483647:Int) then (-2147483647:Int) else x) then (2147483647:Int) else (if x<(-2147483647:Int) then (-2147483647:Int) else x)))):Hold (tawp QWp (0+0) QUc (TQ 0 0 QMo K) (Qd [(.c TI x)])) :=
 Hold.of (by kernel_rfl) h
theorem QTd (x:Int):TCon Tryz.prog 190 [(.c TI x)] (Qqf (QQ x)):=by
 refine Qj rfl fun hb=>tcg (n:=6) (sg:=Qcw.sg) Qg TOk.nil (by kernel_rfl) (by kernel_rfl) (QHP _ x ?_)
 exact R_eq (QNQ x)
theorem Qgb:Qe Tryz.prog Qcw:=Qh fun x _=>QTd x.1
def QqI (t:Int × Bool):TRes:=zre (.tp [(zci t.1),(zcb t.2)])
def Qe7:TRow:=Qf 189 [(.c TI)] fun x=>(none,QqI (Yx x.1))
def QGk:List TRow:=[Qcw,Qgc]
def QFs:TCode :=
 (zsq [(.reg [zmv 2 (zki 0),zmv 3 (zkb false)]),(.reg [zmv 4 0,zca 5 190 [4],zmv 6 0,zca 7 217 [6],zno 8 7,zmv 2 5,zmv 3 8]),.ret])
def QEx:List (ARv × Md):=[(.t 2,.one .d),(.t 3,.one .d)]
theorem QX4 (x:Int) (h :
 K (QqI ((QQ x),(!(Q8 x))))):Hold (tawp QGk (0+0) QFs (TQ 0 0 QEx K) (Qd [(.c TI x)])) :=
 Hold.of (by kernel_rfl) h
theorem QWd (x:Int):TCon Tryz.prog 189 [(.c TI x)] (QqI (Yx x)):=by
 refine Qj rfl fun hb=>tcg (n:=9) (sg:=Qe7.sg) Qg (TOk.cons Qgb (TOk.cons Qlr TOk.nil)) (by kernel_rfl) (by kernel_rfl) (QX4 _ x ?_)
 exact R_eq rfl
theorem Qml:Qe Tryz.prog Qe7:=Qh fun x _=>QWd x.1
def Qgi (t:Int × Bool):TRes:=zre (.tp [(zci t.1),(zcb t.2)])
def QdK:TRow:=Qf 203 [(.c TI)] fun x=>(none,Qgi (Yx x.1))
def QME:List TRow:=[]
def QFu:TCode :=
 (zsq [(.reg [zmv 2 (zki 0),zmv 3 (zkb false)]),(zsq [(.reg [zmv 4 0,zbi 5 .gtr 4 (zki 2147483647)]),(.cond 5 (zsq [(.reg [zmv 2 (zki 2147483647),zmv 3 (zkb true)]),.ret]) .skip)]),(zsq [(.reg [zmv 6 0,zbi 7 .lss 6 (zki (-2147483647))]),(.cond 7 (zsq [(.reg [zmv 2 (zki (-2147483647)),zmv 3 (zkb true)]),.ret]) .skip)]),(.reg [zmv 8 0,zmv 2 8,zmv 3 (zkb false)]),.ret])
def QMq:List (ARv × Md):=[(.t 2,.one .d),(.t 3,.one .d)]
theorem QEo (x:Int) (h :
 (zif (decide (x>(2147483647:Int))) (K (Qgi ((2147483647:Int),true))) (zif (decide (x<(-2147483647:Int))) (K (Qgi ((-2147483647:Int),true))) (K (Qgi (x,false)))))):Hold (tawp QME (0+0) QFu (TQ 0 0 QMq K) (Qd [(.c TI x)])) :=
 Hold.of (by kernel_rfl) h
theorem QIB (x:Int):TCon Tryz.prog 203 [(.c TI x)] (Qgi (Yx x)):=by
 refine Qj rfl fun hb=>tcg (n:=9) (sg:=QdK.sg) Qg TOk.nil (by kernel_rfl) (by kernel_rfl) (QEo _ x ?_)
 refine ⟨fun h=>R_eq ?_,fun h=>⟨fun h2=>R_eq ?_,fun h2=>R_eq ?_⟩⟩
 all_goals (simp at *;simp [Yx,QQ,Q8,iMin,iMax];omega)
theorem Qh6:Qe Tryz.prog QdK:=Qh fun x _=>QIB x.1
def QmW (t:Int):TRes:=zre (zci t)
def QdH:TRow:=Qf 204 [(.c TI)] fun x=>(none,QmW (QQ x.1))
def QPZ:List TRow:=[QdK]
def QXb:TCode :=
 (zsq [(.reg [zmv 2 (zki 0)]),(.reg [zmv 6 0,zca 7 203 [6],zmv 5 7,zex 8 5 0,zex 9 5 1,zmv 3 8,zmv 4 9]),(.reg [zmv 10 3,zmv 2 10]),.ret])
def QP0:List (ARv × Md):=[(.t 2,.one .d)]
theorem QF3 (x:Int) (h :
 K (QmW ((Yx x).1))):Hold (tawp QPZ (0+0) QXb (TQ 0 0 QP0 K) (Qd [(.c TI x)])) :=
 Hold.of (by kernel_rfl) h
theorem QYh (x:Int):TCon Tryz.prog 204 [(.c TI x)] (QmW (QQ x)):=by
 refine Qj rfl fun hb=>tcg (n:=11) (sg:=QdH.sg) Qg (TOk.cons Qh6 TOk.nil) (by kernel_rfl) (by kernel_rfl) (QF3 _ x ?_)
 exact R_eq rfl
theorem Qj6:Qe Tryz.prog QdH:=Qh fun x _=>QYh x.1
def QiL (t:Int):TRes:=zre (zci t)
def Qmz:TRow:=Qf 239 [(.c TI),(.c TI)] fun x=>(some (Qok x.1 x.2.1),QiL (QkA x.1 x.2.1))
def QNF:List TRow:=[]
def QHf:TCode :=
 (zsq [(.reg [zmv 4 (zki 0)]),(.reg [zmv 6 0,zmv 7 1,zbi 8 .quo 6 7,zmv 5 8]),(zsq [(.reg [zmv 9 0,zmv 10 1,zbi 11 .rem 9 10,zbi 12 .neq 11 (zki 0),zmv 13 12,.grp 13 true [zmv 14 0,zbi 15 .lss 14 (zki 0),zmv 16 1,zbi 17 .lss 16 (zki 0),zop 18 (.eqb true 15 17)] 19 18]),(.cond 19 (.reg [zmv 20 5,zbi 21 .sub 20 (zki 1),zmv 5 21]) .skip)]),(.reg [zmv 22 5,zmv 4 22]),.ret])
def QQw:List (ARv × Md):=[(.t 4,.one .d)]
theorem QGp (a:Int) (b:Int) (h :
 ((¬ (b:Int)=0)∧((¬ (b:Int)=0)∧(zif (((Int.tmod a b) != (0:Int))&&(!((decide (a<(0:Int)))==(decide (b<(0:Int)))))) (K (QiL (w64 ((w64 (Int.tdiv a b))-(1:Int))))) (K (QiL (w64 (Int.tdiv a b)))))))):Hold (tawp QNF (0+0) QHf (TQ 0 0 QQw K) (Qd [(.c TI a),(.c TI b)])) :=
 Hold.of (by kernel_rfl) h
theorem QTw (a:Int) (b:Int) (hp:Qok a b):TCon Tryz.prog 239 [(.c TI a),(.c TI b)] (QiL (QkA a b)):=by
 refine Qj rfl fun hb=>tcg (n:=23) (sg:=Qmz.sg) Qg TOk.nil (by kernel_rfl) (by kernel_rfl) (QGp _ a b ?_)
 obtain ⟨h1,h2,rfl⟩:=hp
 have hq:w64 (Int.tdiv a 65536)=Int.tdiv a 65536:=by
  rw [Int.tdiv_eq_ediv];have:Int.sign 65536=1:=rfl;rw [this];exact Qq (by split <;> omega) (by split <;> omega)
 have hq1:w64 (Int.tdiv a 65536-1)=Int.tdiv a 65536-1:=by
  rw [Int.tdiv_eq_ediv];have:Int.sign 65536=1:=rfl;rw [this];exact Qq (by split <;> omega) (by split <;> omega)
 have hf:=QQx a
 rw [hq,hq1]
 refine ⟨by omega,by omega,fun h=>R_eq ?_,fun h=>R_eq ?_⟩
 ·rw [if_pos h] at hf;exact hf
 ·rw [if_neg (by rw [h];simp)] at hf;exact hf
theorem QSj:Qe Tryz.prog Qmz:=Qh fun x h=>QTw x.1 x.2.1 h
def Qmn (t:Int × Bool):TRes:=zre (.tp [(zci t.1),(zcb t.2)])
def QeH:TRow:=Qf 121 [(.c TI),(.c TI)] fun x=>(none,Qmn (Q4 x.1 x.2.1))
def QMm:List TRow:=[Qcw,Qe7]
def QMy:TCode :=
 (zsq [(.reg [zmv 4 (zki 0),zmv 5 (zkb false)]),(.reg [zmv 6 0,zca 7 190 [6],zmv 8 1,zca 9 190 [8],zbi 10 .add 7 9,zca 11 189 [10],zex 12 11 0,zex 13 11 1,zmv 4 12,zmv 5 13]),.ret])
def QF4:List (ARv × Md):=[(.t 4,.one .d),(.t 5,.one .d)]
theorem QTk (a:Int) (b:Int) (h :
 K (Qmn ((Yx (w64 ((QQ a)+(QQ b)))).1,(Yx (w64 ((QQ a)+(QQ b)))).2))):Hold (tawp QMm (0+0) QMy (TQ 0 0 QF4 K) (Qd [(.c TI a),(.c TI b)])) :=
 Hold.of (by kernel_rfl) h
theorem QKW (a:Int) (b:Int):TCon Tryz.prog 121 [(.c TI a),(.c TI b)] (Qmn (Q4 a b)):=by
 refine Qj rfl fun hb=>tcg (n:=14) (sg:=QeH.sg) Qg (TOk.cons Qgb (TOk.cons Qml TOk.nil)) (by kernel_rfl) (by kernel_rfl) (QTk _ a b ?_)
 have h1:=Qag a
 have h2:=Qag b
 rw [Qq (x:=QQ a+QQ b) (by omega) (by omega)]
 exact R_eq rfl
theorem Qjs:Qe Tryz.prog QeH:=Qh fun x _=>QKW x.1 x.2.1
def QnD (t:Int × Bool):TRes:=zre (.tp [(zci t.1),(zcb t.2)])
def QdF:TRow:=Qf 162 [(.c TI),(.c TI)] fun x=>(none,QnD (Q4 x.1 x.2.1))
def QWP:List TRow:=[QdH,QdK]
def QSD:TCode :=
 (zsq [(.reg [zmv 4 (zki 0),zmv 5 (zkb false)]),(.reg [zmv 6 0,zca 7 204 [6],zmv 8 1,zca 9 204 [8],zbi 10 .add 7 9,zca 11 203 [10],zex 12 11 0,zex 13 11 1,zmv 4 12,zmv 5 13]),.ret])
def QPW:List (ARv × Md):=[(.t 4,.one .d),(.t 5,.one .d)]
theorem QW7 (a:Int) (b:Int) (h :
 K (QnD ((Yx (w64 ((QQ a)+(QQ b)))).1,(Yx (w64 ((QQ a)+(QQ b)))).2))):Hold (tawp QWP (0+0) QSD (TQ 0 0 QPW K) (Qd [(.c TI a),(.c TI b)])) :=
 Hold.of (by kernel_rfl) h
theorem QOy (a:Int) (b:Int):TCon Tryz.prog 162 [(.c TI a),(.c TI b)] (QnD (Q4 a b)):=by
 refine Qj rfl fun hb=>tcg (n:=14) (sg:=QdF.sg) Qg (TOk.cons Qj6 (TOk.cons Qh6 TOk.nil)) (by kernel_rfl) (by kernel_rfl) (QW7 _ a b ?_)
 have h1:=Qag a
 have h2:=Qag b
 rw [Qq (x:=QQ a+QQ b) (by omega) (by omega)]
 exact R_eq rfl
theorem QjM:Qe Tryz.prog QdF:=Qh fun x _=>QOy x.1 x.2.1
def QoY (t:Int × Bool):TRes:=zre (.tp [(zci t.1),(zcb t.2)])
def Qqb:TRow:=Qf 192 [(.c TI),(.c TI)] fun x=>(none,QoY (JE x.1 x.2.1))
def QM7:List TRow:=[Qcw,Qe7]
def QMF:TCode :=
 (zsq [(.reg [zmv 4 (zki 0),zmv 5 (zkb false)]),(.reg [zmv 6 0,zca 7 190 [6],zmv 8 1,zca 9 190 [8],zbi 10 .sub 7 9,zca 11 189 [10],zex 12 11 0,zex 13 11 1,zmv 4 12,zmv 5 13]),.ret])
def QLQ:List (ARv × Md):=[(.t 4,.one .d),(.t 5,.one .d)]
theorem QFO (a:Int) (b:Int) (h :
 K (QoY ((Yx (w64 ((QQ a)-(QQ b)))).1,(Yx (w64 ((QQ a)-(QQ b)))).2))):Hold (tawp QM7 (0+0) QMF (TQ 0 0 QLQ K) (Qd [(.c TI a),(.c TI b)])) :=
 Hold.of (by kernel_rfl) h
theorem QUb (a:Int) (b:Int):TCon Tryz.prog 192 [(.c TI a),(.c TI b)] (QoY (JE a b)):=by
 refine Qj rfl fun hb=>tcg (n:=14) (sg:=Qqb.sg) Qg (TOk.cons Qgb (TOk.cons Qml TOk.nil)) (by kernel_rfl) (by kernel_rfl) (QFO _ a b ?_)
 have h1:=Qag a
 have h2:=Qag b
 rw [Qq (x:=QQ a-QQ b) (by omega) (by omega)]
 exact R_eq rfl
theorem QRP:Qe Tryz.prog Qqb:=Qh fun x _=>QUb x.1 x.2.1
def QnI (t:Int × Bool):TRes:=zre (.tp [(zci t.1),(zcb t.2)])
def QkK:TRow:=Qf 208 [(.c TI),(.c TI)] fun x=>(none,QnI (JE x.1 x.2.1))
def QX9:List TRow:=[QdH,QdK]
def QKk:TCode :=
 (zsq [(.reg [zmv 4 (zki 0),zmv 5 (zkb false)]),(.reg [zmv 6 0,zca 7 204 [6],zmv 8 1,zca 9 204 [8],zbi 10 .sub 7 9,zca 11 203 [10],zex 12 11 0,zex 13 11 1,zmv 4 12,zmv 5 13]),.ret])
def QTJ:List (ARv × Md):=[(.t 4,.one .d),(.t 5,.one .d)]
theorem QMA (a:Int) (b:Int) (h :
 K (QnI ((Yx (w64 ((QQ a)-(QQ b)))).1,(Yx (w64 ((QQ a)-(QQ b)))).2))):Hold (tawp QX9 (0+0) QKk (TQ 0 0 QTJ K) (Qd [(.c TI a),(.c TI b)])) :=
 Hold.of (by kernel_rfl) h
theorem QMK (a:Int) (b:Int):TCon Tryz.prog 208 [(.c TI a),(.c TI b)] (QnI (JE a b)):=by
 refine Qj rfl fun hb=>tcg (n:=14) (sg:=QkK.sg) Qg (TOk.cons Qj6 (TOk.cons Qh6 TOk.nil)) (by kernel_rfl) (by kernel_rfl) (QMA _ a b ?_)
 have h1:=Qag a
 have h2:=Qag b
 rw [Qq (x:=QQ a-QQ b) (by omega) (by omega)]
 exact R_eq rfl
theorem QRY:Qe Tryz.prog QkK:=Qh fun x _=>QMK x.1 x.2.1
def QmG (t:Int × Bool):TRes:=zre (.tp [(zci t.1),(zcb t.2)])
def Qfh:TRow:=Qf 216 [(.c TI),(.c TI)] fun x=>(none,QmG (Zo x.1 x.2.1))
def QNX:List TRow:=[Qcw,Qe7]
def QU8:TCode :=
 (zsq [(.reg [zmv 4 (zki 0),zmv 5 (zkb false)]),(.reg [zmv 6 0,zca 7 190 [6],zmv 8 1,zca 9 190 [8],zbi 10 .mul 7 9,zbi 11 .shr 10 (.k (.c (.int .u64) (16:Int))),zca 12 189 [11],zex 13 12 0,zex 14 12 1,zmv 4 13,zmv 5 14]),.ret])
def QWr:List (ARv × Md):=[(.t 4,.one .d),(.t 5,.one .d)]
theorem QOJ (a:Int) (b:Int) (h :
 (((0:Int)≤(16:Int))∧K (QmG ((Yx (Int.fdiv (w64 ((QQ a)*(QQ b))) (2 ^ (min (Int.toNat (16:Int)) (IntKind.i64.bits))))).1,(Yx (Int.fdiv (w64 ((QQ a)*(QQ b))) (2 ^ (min (Int.toNat (16:Int)) (IntKind.i64.bits))))).2)))):Hold (tawp QNX (0+0) QU8 (TQ 0 0 QWr K) (Qd [(.c TI a),(.c TI b)])) :=
 Hold.of (by kernel_rfl) h
theorem QFd (a:Int) (b:Int):TCon Tryz.prog 216 [(.c TI a),(.c TI b)] (QmG (Zo a b)):=by
 refine Qj rfl fun hb=>tcg (n:=15) (sg:=Qfh.sg) Qg (TOk.cons Qgb (TOk.cons Qml TOk.nil)) (by kernel_rfl) (by kernel_rfl) (QOJ _ a b ?_)
 have h:=QAY a b
 rw [Qq (x:=QQ a*QQ b) (by omega) (by omega)]
 exact ⟨by omega,R_eq rfl⟩
theorem QlI:Qe Tryz.prog Qfh:=Qh fun x _=>QFd x.1 x.2.1
def QpL (t:Int × Bool):TRes:=zre (.tp [(zci t.1),(zcb t.2)])
def Qe2:TRow:=Qf 229 [(.c TI),(.c TI)] fun x=>(none,QpL (Zo x.1 x.2.1))
def QI2:List TRow:=[QdH,Qmz,QdK]
def QWV:TCode :=
 (zsq [(.reg [zmv 4 (zki 0),zmv 5 (zkb false)]),(.reg [zmv 6 0,zca 7 204 [6],zmv 8 1,zca 9 204 [8],zbi 10 .mul 7 9,zca 11 239 [10,(zki 65536)],zca 12 203 [11],zex 13 12 0,zex 14 12 1,zmv 4 13,zmv 5 14]),.ret])
def QUS:List (ARv × Md):=[(.t 4,.one .d),(.t 5,.one .d)]
theorem QTq (a:Int) (b:Int) (h :
 ((Qok (w64 ((QQ a)*(QQ b))) (65536:Int))∧K (QpL ((Yx (QkA (w64 ((QQ a)*(QQ b))) (65536:Int))).1,(Yx (QkA (w64 ((QQ a)*(QQ b))) (65536:Int))).2)))):Hold (tawp QI2 (0+0) QWV (TQ 0 0 QUS K) (Qd [(.c TI a),(.c TI b)])) :=
 Hold.of (by kernel_rfl) h
theorem QV8 (a:Int) (b:Int):TCon Tryz.prog 229 [(.c TI a),(.c TI b)] (QpL (Zo a b)):=by
 refine Qj rfl fun hb=>tcg (n:=15) (sg:=Qe2.sg) Qg (TOk.cons Qj6 (TOk.cons QSj (TOk.cons Qh6 TOk.nil))) (by kernel_rfl) (by kernel_rfl) (QTq _ a b ?_)
 have h:=QAY a b
 rw [Qq (x:=QQ a*QQ b) (by omega) (by omega)]
 exact ⟨⟨h.1,h.2,rfl⟩,R_eq rfl⟩
theorem Qor:Qe Tryz.prog Qe2:=Qh fun x _=>QV8 x.1 x.2.1
def QkN (t:Int):TRes:=zre (zci t)
def Qqu:TRow:=Qf 234 [(.c TI)] fun x=>(none,QkN (Qao x.1))
def QJD:List TRow:=[Qcw]
def QOP:TCode :=
 (zsq [(.reg [zmv 2 (zki 0)]),(.reg [zmv 3 0,zca 4 190 [3],zop 5 (.mm true (zki 0) 4),zmv 2 5]),.ret])
def QOZ:List (ARv × Md):=[(.t 2,.one .d)]
theorem QP7 (a:Int) (h :
 K (QkN (if (0:Int)<(QQ a) then (QQ a) else (0:Int)))):Hold (tawp QJD (0+0) QOP (TQ 0 0 QOZ K) (Qd [(.c TI a)])) :=
 Hold.of (by kernel_rfl) h
theorem QJ3 (a:Int):TCon Tryz.prog 234 [(.c TI a)] (QkN (Qao a)):=by
 refine Qj rfl fun hb=>tcg (n:=6) (sg:=Qqu.sg) Qg (TOk.cons Qgb TOk.nil) (by kernel_rfl) (by kernel_rfl) (QP7 _ a ?_)
 exact R_eq rfl
theorem QW6:Qe Tryz.prog Qqu:=Qh fun x _=>QJ3 x.1
def Qoj (t:Int):TRes:=zre (zci t)
def QmL:TRow:=Qf 238 [(.c TI)] fun x=>(none,Qoj (Qao x.1))
def QVx:List TRow:=[QdH]
def QLE:TCode :=
 (zsq [(.reg [zmv 2 (zki 0)]),(.reg [zmv 3 0,zca 4 204 [3],zop 5 (.mm true (zki 0) 4),zmv 2 5]),.ret])
def QFE:List (ARv × Md):=[(.t 2,.one .d)]
theorem QLs (a:Int) (h :
 K (Qoj (if (0:Int)<(QQ a) then (QQ a) else (0:Int)))):Hold (tawp QVx (0+0) QLE (TQ 0 0 QFE K) (Qd [(.c TI a)])) :=
 Hold.of (by kernel_rfl) h
theorem QNl (a:Int):TCon Tryz.prog 238 [(.c TI a)] (Qoj (Qao a)):=by
 refine Qj rfl fun hb=>tcg (n:=6) (sg:=QmL.sg) Qg (TOk.cons Qj6 TOk.nil) (by kernel_rfl) (by kernel_rfl) (QLs _ a ?_)
 exact R_eq rfl
theorem QVI:Qe Tryz.prog QmL:=Qh fun x _=>QNl x.1
def Qqg (t:(List Int)):TRes:=⟨(.r [TI] 0 0 t.length),[(.sl 3 [TI] true t)],[],true,[]⟩
def Qay:TRow:=Qf 119 [(.c (.sl [TI]))] fun x=>(some (QJ (α:=List Int) x.1),Qqg (id (α:=List Int) x.1))
def QOT:List TRow:=[]
def QPX:TCode :=
 (zsq [(.reg [zmv 2 (.k (.n [TI]))]),(.reg [zop 3 (.bsl 3 [TI] []),zmv 4 0,zop 5 (.app 3 4 3 [TI]),zmv 2 5]),.ret])
def QGO:List (ARv × Md):=[(.t 2,.one (.o 3))]
theorem QL3 (l:List Int) (h :
 (((0=0∨0+l.length≤0)∧0+l.length≤big)∧K (Qqg (List.take (0+l.length) (l:List Int))))):Hold (tawp QOT (0+0) QPX (TQ 0 0 QGO K) (Qd [(.c (.sl [TI]) l)])) :=
 Hold.of (by kernel_rfl) h
theorem QOW (l:List Int) (hp:QJ (α:=List Int) l):TCon Tryz.prog 119 [(.c (.sl [TI]) l)] (Qqg (id (α:=List Int) l)):=by
 refine Qj rfl fun hb=>tcg (n:=6) (sg:=Qay.sg) Qg TOk.nil (by kernel_rfl) (by kernel_rfl) (QL3 _ l ?_)
 have hl_l:l.length≤9223372036854775807:=hb.1.1
 have hl:=Y6 l
 unfold QJ at hp
 exact ⟨⟨.inl rfl,by rw [Zu];omega⟩,R_eq (by simp)⟩
theorem Qbo:Qe Tryz.prog Qay:=Qh fun x h=>QOW x.1 h
end
end Go.Proofs.YtjbdljkhbglnhaaGreat.Am

