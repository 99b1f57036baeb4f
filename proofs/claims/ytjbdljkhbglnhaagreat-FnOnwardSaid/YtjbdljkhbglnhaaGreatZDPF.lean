/- -/
import Derived.Test.YtjbdljkhbglnhaaGreatZDP1
namespace Go.Proofs.YtjbdljkhbglnhaaGreat.Am
open Go Go.RowKit Go.Proofs.YtjbdljkhbglnhaaGreat
set_option linter.all false
noncomputable section
variable (K:TRes→Prop)
def QnZ (t:Int):TRes:=zre (zci t)
def QcN:TRow:=Qj 190 [(.c TI)] fun x=>(none,QnZ (QT x.1))
def QXk:List TRow:=[]
def QLt:TCode :=
 (zsq [(.reg [zmv 2 (zki 0)]),(.reg [zmv 3 0,zop 4 (.mm true 3 (zki (-2147483647))),zop 5 (.mm false 4 (zki 2147483647)),zmv 2 5]),.ret])
def QJ6:List (ARv × Md):=[(.t 2,.one .d)]
theorem QJp (x:Int) (h :
 K (QnZ (if (2147483647:Int)<(if x<(-2147483647:Int) then (-2147483647:Int) else x) then (2147483647:Int) else (if x<(-2147483647:Int) then (-2147483647:Int) else x)))):Hold (tawp QXk (0+0) QLt (TQ 0 0 QJ6 K) (Qh [(.c TI x)])) :=
 Hold.of (by kernel_rfl) h
theorem QNF (x:Int):TCon Tryz.prog 190 [(.c TI x)] (QnZ (QT x)):=by
 refine Qo rfl fun hb=>tcg (n:=6) (sg:=QcN.sg) Ql TOk.nil (by kernel_rfl) (by kernel_rfl) (QJp _ x ?_)
 exact R_eq (QG1 x)
theorem Qfj:Qi Tryz.prog QcN:=Qm fun x _=>QNF x.1
def Qnq (t:Int × Bool):TRes:=zre (.tp [(zci t.1),(zcb t.2)])
def QfH:TRow:=Qj 189 [(.c TI)] fun x=>(none,Qnq (YA x.1))
def QZC:List TRow:=[QcN,Qe1]
def QT1:TCode :=
 (zsq [(.reg [zmv 2 (zki 0),zmv 3 (zkb false)]),(.reg [zmv 4 0,zca 5 190 [4],zmv 6 0,zca 7 217 [6],zno 8 7,zmv 2 5,zmv 3 8]),.ret])
def QNi:List (ARv × Md):=[(.t 2,.one .d),(.t 3,.one .d)]
theorem QU3 (x:Int) (h :
 K (Qnq ((QT x),(!(Zb x))))):Hold (tawp QZC (0+0) QT1 (TQ 0 0 QNi K) (Qh [(.c TI x)])) :=
 Hold.of (by kernel_rfl) h
theorem QPv (x:Int):TCon Tryz.prog 189 [(.c TI x)] (Qnq (YA x)):=by
 refine Qo rfl fun hb=>tcg (n:=9) (sg:=QfH.sg) Ql (TOk.cons Qfj (TOk.cons Qno TOk.nil)) (by kernel_rfl) (by kernel_rfl) (QU3 _ x ?_)
 exact R_eq rfl
theorem Qn3:Qi Tryz.prog QfH:=Qm fun x _=>QPv x.1
def Qe3 (t:Int × Bool):TRes:=zre (.tp [(zci t.1),(zcb t.2)])
def QdV:TRow:=Qj 203 [(.c TI)] fun x=>(none,Qe3 (YA x.1))
def QSN:List TRow:=[]
def QVF:TCode :=
 (zsq [(.reg [zmv 2 (zki 0),zmv 3 (zkb false)]),(zsq [(.reg [zmv 4 0,zbi 5 .gtr 4 (zki 2147483647)]),(.cond 5 (zsq [(.reg [zmv 2 (zki 2147483647),zmv 3 (zkb true)]),.ret]) .skip)]),(zsq [(.reg [zmv 6 0,zbi 7 .lss 6 (zki (-2147483647))]),(.cond 7 (zsq [(.reg [zmv 2 (zki (-2147483647)),zmv 3 (zkb true)]),.ret]) .skip)]),(.reg [zmv 8 0,zmv 2 8,zmv 3 (zkb false)]),.ret])
def QLX:List (ARv × Md):=[(.t 2,.one .d),(.t 3,.one .d)]
theorem QJt (x:Int) (h :
 (zif (decide (x>(2147483647:Int))) (K (Qe3 ((2147483647:Int),true))) (zif (decide (x<(-2147483647:Int))) (K (Qe3 ((-2147483647:Int),true))) (K (Qe3 (x,false)))))):Hold (tawp QSN (0+0) QVF (TQ 0 0 QLX K) (Qh [(.c TI x)])) :=
 Hold.of (by kernel_rfl) h
theorem QJn (x:Int):TCon Tryz.prog 203 [(.c TI x)] (Qe3 (YA x)):=by
 refine Qo rfl fun hb=>tcg (n:=9) (sg:=QdV.sg) Ql TOk.nil (by kernel_rfl) (by kernel_rfl) (QJt _ x ?_)
 refine ⟨fun h=>R_eq ?_,fun h=>⟨fun h2=>R_eq ?_,fun h2=>R_eq ?_⟩⟩
 all_goals (simp at *;simp [YA,QT,Zb,iMin,iMax];omega)
theorem QgK:Qi Tryz.prog QdV:=Qm fun x _=>QJn x.1
def QoD (t:Int):TRes:=zre (zci t)
def Qev:TRow:=Qj 204 [(.c TI)] fun x=>(none,QoD (QT x.1))
def QOa:List TRow:=[QdV]
def QJg:TCode :=
 (zsq [(.reg [zmv 2 (zki 0)]),(.reg [zmv 6 0,zca 7 203 [6],zmv 5 7,zex 8 5 0,zex 9 5 1,zmv 3 8,zmv 4 9]),(.reg [zmv 10 3,zmv 2 10]),.ret])
def QXJ:List (ARv × Md):=[(.t 2,.one .d)]
theorem QWh (x:Int) (h :
 K (QoD ((YA x).1))):Hold (tawp QOa (0+0) QJg (TQ 0 0 QXJ K) (Qh [(.c TI x)])) :=
 Hold.of (by kernel_rfl) h
theorem QKR (x:Int):TCon Tryz.prog 204 [(.c TI x)] (QoD (QT x)):=by
 refine Qo rfl fun hb=>tcg (n:=11) (sg:=Qev.sg) Ql (TOk.cons QgK TOk.nil) (by kernel_rfl) (by kernel_rfl) (QWh _ x ?_)
 exact R_eq rfl
theorem Qht:Qi Tryz.prog Qev:=Qm fun x _=>QKR x.1
def QiL (t:Int):TRes:=zre (zci t)
def QnY:TRow:=Qj 239 [(.c TI),(.c TI)] fun x=>(some (Qnr x.1 x.2.1),QiL (QiE x.1 x.2.1))
def QGZ:List TRow:=[]
def QYq:TCode :=
 (zsq [(.reg [zmv 4 (zki 0)]),(.reg [zmv 6 0,zmv 7 1,zbi 8 .quo 6 7,zmv 5 8]),(zsq [(.reg [zmv 9 0,zmv 10 1,zbi 11 .rem 9 10,zbi 12 .neq 11 (zki 0),zmv 13 12,.grp 13 true [zmv 14 0,zbi 15 .lss 14 (zki 0),zmv 16 1,zbi 17 .lss 16 (zki 0),zop 18 (.eqb true 15 17)] 19 18]),(.cond 19 (.reg [zmv 20 5,zbi 21 .sub 20 (zki 1),zmv 5 21]) .skip)]),(.reg [zmv 22 5,zmv 4 22]),.ret])
def QL9:List (ARv × Md):=[(.t 4,.one .d)]
theorem QRK (a:Int) (b:Int) (h :
 ((¬ (b:Int)=0)∧((¬ (b:Int)=0)∧(zif (((Int.tmod a b) != (0:Int))&&(!((decide (a<(0:Int)))==(decide (b<(0:Int)))))) (K (QiL (w64 ((w64 (Int.tdiv a b))-(1:Int))))) (K (QiL (w64 (Int.tdiv a b)))))))):Hold (tawp QGZ (0+0) QYq (TQ 0 0 QL9 K) (Qh [(.c TI a),(.c TI b)])) :=
 Hold.of (by kernel_rfl) h
theorem QVf (a:Int) (b:Int) (hp:Qnr a b):TCon Tryz.prog 239 [(.c TI a),(.c TI b)] (QiL (QiE a b)):=by
 refine Qo rfl fun hb=>tcg (n:=23) (sg:=QnY.sg) Ql TOk.nil (by kernel_rfl) (by kernel_rfl) (QRK _ a b ?_)
 obtain ⟨h1,h2,rfl⟩:=hp
 have hq:w64 (Int.tdiv a 65536)=Int.tdiv a 65536:=by
  rw [Int.tdiv_eq_ediv];have:Int.sign 65536=1:=rfl;rw [this];exact Qt (by split <;> omega) (by split <;> omega)
 have hq1:w64 (Int.tdiv a 65536-1)=Int.tdiv a 65536-1:=by
  rw [Int.tdiv_eq_ediv];have:Int.sign 65536=1:=rfl;rw [this];exact Qt (by split <;> omega) (by split <;> omega)
 have hf:=QVK a
 rw [hq,hq1]
 refine ⟨by omega,by omega,fun h=>R_eq ?_,fun h=>R_eq ?_⟩
 ·rw [if_pos h] at hf;exact hf
 ·rw [if_neg (by rw [h];simp)] at hf;exact hf
theorem QTG:Qi Tryz.prog QnY:=Qm fun x h=>QVf x.1 x.2.1 h
def Qpy (t:Int × Bool):TRes:=zre (.tp [(zci t.1),(zcb t.2)])
def Qd4:TRow:=Qj 121 [(.c TI),(.c TI)] fun x=>(none,Qpy (Q4 x.1 x.2.1))
def QH5:List TRow:=[QcN,QfH]
def QOV:TCode :=
 (zsq [(.reg [zmv 4 (zki 0),zmv 5 (zkb false)]),(.reg [zmv 6 0,zca 7 190 [6],zmv 8 1,zca 9 190 [8],zbi 10 .add 7 9,zca 11 189 [10],zex 12 11 0,zex 13 11 1,zmv 4 12,zmv 5 13]),.ret])
def QKi:List (ARv × Md):=[(.t 4,.one .d),(.t 5,.one .d)]
theorem QO3 (a:Int) (b:Int) (h :
 K (Qpy ((YA (w64 ((QT a)+(QT b)))).1,(YA (w64 ((QT a)+(QT b)))).2))):Hold (tawp QH5 (0+0) QOV (TQ 0 0 QKi K) (Qh [(.c TI a),(.c TI b)])) :=
 Hold.of (by kernel_rfl) h
theorem QSS (a:Int) (b:Int):TCon Tryz.prog 121 [(.c TI a),(.c TI b)] (Qpy (Q4 a b)):=by
 refine Qo rfl fun hb=>tcg (n:=14) (sg:=Qd4.sg) Ql (TOk.cons Qfj (TOk.cons Qn3 TOk.nil)) (by kernel_rfl) (by kernel_rfl) (QO3 _ a b ?_)
 have h1:=J8 a
 have h2:=J8 b
 rw [Qt (x:=QT a+QT b) (by omega) (by omega)]
 exact R_eq rfl
theorem QjY:Qi Tryz.prog Qd4:=Qm fun x _=>QSS x.1 x.2.1
def Qol (t:Int × Bool):TRes:=zre (.tp [(zci t.1),(zcb t.2)])
def Qdi:TRow:=Qj 162 [(.c TI),(.c TI)] fun x=>(none,Qol (Q4 x.1 x.2.1))
def QVS:List TRow:=[Qev,QdV]
def QV4:TCode :=
 (zsq [(.reg [zmv 4 (zki 0),zmv 5 (zkb false)]),(.reg [zmv 6 0,zca 7 204 [6],zmv 8 1,zca 9 204 [8],zbi 10 .add 7 9,zca 11 203 [10],zex 12 11 0,zex 13 11 1,zmv 4 12,zmv 5 13]),.ret])
def QIN:List (ARv × Md):=[(.t 4,.one .d),(.t 5,.one .d)]
theorem QOk (a:Int) (b:Int) (h :
 K (Qol ((YA (w64 ((QT a)+(QT b)))).1,(YA (w64 ((QT a)+(QT b)))).2))):Hold (tawp QVS (0+0) QV4 (TQ 0 0 QIN K) (Qh [(.c TI a),(.c TI b)])) :=
 Hold.of (by kernel_rfl) h
theorem QN8 (a:Int) (b:Int):TCon Tryz.prog 162 [(.c TI a),(.c TI b)] (Qol (Q4 a b)):=by
 refine Qo rfl fun hb=>tcg (n:=14) (sg:=Qdi.sg) Ql (TOk.cons Qht (TOk.cons QgK TOk.nil)) (by kernel_rfl) (by kernel_rfl) (QOk _ a b ?_)
 have h1:=J8 a
 have h2:=J8 b
 rw [Qt (x:=QT a+QT b) (by omega) (by omega)]
 exact R_eq rfl
theorem Qfs:Qi Tryz.prog Qdi:=Qm fun x _=>QN8 x.1 x.2.1
def QmO (t:Int × Bool):TRes:=zre (.tp [(zci t.1),(zcb t.2)])
def QmY:TRow:=Qj 192 [(.c TI),(.c TI)] fun x=>(none,QmO (JF x.1 x.2.1))
def QR8:List TRow:=[QcN,QfH]
def QPV:TCode :=
 (zsq [(.reg [zmv 4 (zki 0),zmv 5 (zkb false)]),(.reg [zmv 6 0,zca 7 190 [6],zmv 8 1,zca 9 190 [8],zbi 10 .sub 7 9,zca 11 189 [10],zex 12 11 0,zex 13 11 1,zmv 4 12,zmv 5 13]),.ret])
def QWi:List (ARv × Md):=[(.t 4,.one .d),(.t 5,.one .d)]
theorem QNX (a:Int) (b:Int) (h :
 K (QmO ((YA (w64 ((QT a)-(QT b)))).1,(YA (w64 ((QT a)-(QT b)))).2))):Hold (tawp QR8 (0+0) QPV (TQ 0 0 QWi K) (Qh [(.c TI a),(.c TI b)])) :=
 Hold.of (by kernel_rfl) h
theorem QWG (a:Int) (b:Int):TCon Tryz.prog 192 [(.c TI a),(.c TI b)] (QmO (JF a b)):=by
 refine Qo rfl fun hb=>tcg (n:=14) (sg:=QmY.sg) Ql (TOk.cons Qfj (TOk.cons Qn3 TOk.nil)) (by kernel_rfl) (by kernel_rfl) (QNX _ a b ?_)
 have h1:=J8 a
 have h2:=J8 b
 rw [Qt (x:=QT a-QT b) (by omega) (by omega)]
 exact R_eq rfl
theorem QHj:Qi Tryz.prog QmY:=Qm fun x _=>QWG x.1 x.2.1
def Qp0 (t:Int × Bool):TRes:=zre (.tp [(zci t.1),(zcb t.2)])
def Qld:TRow:=Qj 208 [(.c TI),(.c TI)] fun x=>(none,Qp0 (JF x.1 x.2.1))
def QFS:List TRow:=[Qev,QdV]
def QMj:TCode :=
 (zsq [(.reg [zmv 4 (zki 0),zmv 5 (zkb false)]),(.reg [zmv 6 0,zca 7 204 [6],zmv 8 1,zca 9 204 [8],zbi 10 .sub 7 9,zca 11 203 [10],zex 12 11 0,zex 13 11 1,zmv 4 12,zmv 5 13]),.ret])
def QFZ:List (ARv × Md):=[(.t 4,.one .d),(.t 5,.one .d)]
theorem QOC (a:Int) (b:Int) (h :
 K (Qp0 ((YA (w64 ((QT a)-(QT b)))).1,(YA (w64 ((QT a)-(QT b)))).2))):Hold (tawp QFS (0+0) QMj (TQ 0 0 QFZ K) (Qh [(.c TI a),(.c TI b)])) :=
 Hold.of (by kernel_rfl) h
theorem QHF (a:Int) (b:Int):TCon Tryz.prog 208 [(.c TI a),(.c TI b)] (Qp0 (JF a b)):=by
 refine Qo rfl fun hb=>tcg (n:=14) (sg:=Qld.sg) Ql (TOk.cons Qht (TOk.cons QgK TOk.nil)) (by kernel_rfl) (by kernel_rfl) (QOC _ a b ?_)
 have h1:=J8 a
 have h2:=J8 b
 rw [Qt (x:=QT a-QT b) (by omega) (by omega)]
 exact R_eq rfl
theorem QRL:Qi Tryz.prog Qld:=Qm fun x _=>QHF x.1 x.2.1
def QqJ (t:Int × Bool):TRes:=zre (.tp [(zci t.1),(zcb t.2)])
def QfA:TRow:=Qj 216 [(.c TI),(.c TI)] fun x=>(none,QqJ (Zp x.1 x.2.1))
def QPc:List TRow:=[QcN,QfH]
def QU9:TCode :=
 (zsq [(.reg [zmv 4 (zki 0),zmv 5 (zkb false)]),(.reg [zmv 6 0,zca 7 190 [6],zmv 8 1,zca 9 190 [8],zbi 10 .mul 7 9,zbi 11 .shr 10 (.k (.c (.int .u64) (16:Int))),zca 12 189 [11],zex 13 12 0,zex 14 12 1,zmv 4 13,zmv 5 14]),.ret])
def QN1:List (ARv × Md):=[(.t 4,.one .d),(.t 5,.one .d)]
theorem QHs (a:Int) (b:Int) (h :
 (((0:Int)≤(16:Int))∧K (QqJ ((YA (Int.fdiv (w64 ((QT a)*(QT b))) (2 ^ (min (Int.toNat (16:Int)) (IntKind.i64.bits))))).1,(YA (Int.fdiv (w64 ((QT a)*(QT b))) (2 ^ (min (Int.toNat (16:Int)) (IntKind.i64.bits))))).2)))):Hold (tawp QPc (0+0) QU9 (TQ 0 0 QN1 K) (Qh [(.c TI a),(.c TI b)])) :=
 Hold.of (by kernel_rfl) h
theorem QW8 (a:Int) (b:Int):TCon Tryz.prog 216 [(.c TI a),(.c TI b)] (QqJ (Zp a b)):=by
 refine Qo rfl fun hb=>tcg (n:=15) (sg:=QfA.sg) Ql (TOk.cons Qfj (TOk.cons Qn3 TOk.nil)) (by kernel_rfl) (by kernel_rfl) (QHs _ a b ?_)
 have h:=QrT a b
 rw [Qt (x:=QT a*QT b) (by omega) (by omega)]
 exact ⟨by omega,R_eq rfl⟩
theorem QlX:Qi Tryz.prog QfA:=Qm fun x _=>QW8 x.1 x.2.1
def QnC (t:Int × Bool):TRes:=zre (.tp [(zci t.1),(zcb t.2)])
def QeZ:TRow:=Qj 229 [(.c TI),(.c TI)] fun x=>(none,QnC (Zp x.1 x.2.1))
def QPB:List TRow:=[Qev,QnY,QdV]
def QXa:TCode :=
 (zsq [(.reg [zmv 4 (zki 0),zmv 5 (zkb false)]),(.reg [zmv 6 0,zca 7 204 [6],zmv 8 1,zca 9 204 [8],zbi 10 .mul 7 9,zca 11 239 [10,(zki 65536)],zca 12 203 [11],zex 13 12 0,zex 14 12 1,zmv 4 13,zmv 5 14]),.ret])
def QQu:List (ARv × Md):=[(.t 4,.one .d),(.t 5,.one .d)]
theorem QQM (a:Int) (b:Int) (h :
 ((Qnr (w64 ((QT a)*(QT b))) (65536:Int))∧K (QnC ((YA (QiE (w64 ((QT a)*(QT b))) (65536:Int))).1,(YA (QiE (w64 ((QT a)*(QT b))) (65536:Int))).2)))):Hold (tawp QPB (0+0) QXa (TQ 0 0 QQu K) (Qh [(.c TI a),(.c TI b)])) :=
 Hold.of (by kernel_rfl) h
theorem QXZ (a:Int) (b:Int):TCon Tryz.prog 229 [(.c TI a),(.c TI b)] (QnC (Zp a b)):=by
 refine Qo rfl fun hb=>tcg (n:=15) (sg:=QeZ.sg) Ql (TOk.cons Qht (TOk.cons QTG (TOk.cons QgK TOk.nil))) (by kernel_rfl) (by kernel_rfl) (QQM _ a b ?_)
 have h:=QrT a b
 rw [Qt (x:=QT a*QT b) (by omega) (by omega)]
 exact ⟨⟨h.1,h.2,rfl⟩,R_eq rfl⟩
theorem QqW:Qi Tryz.prog QeZ:=Qm fun x _=>QXZ x.1 x.2.1
def Qqk (t:Int):TRes:=zre (zci t)
def QoR:TRow:=Qj 234 [(.c TI)] fun x=>(none,Qqk (Qai x.1))
def QQS:List TRow:=[QcN]
def QU4:TCode :=
 (zsq [(.reg [zmv 2 (zki 0)]),(.reg [zmv 3 0,zca 4 190 [3],zop 5 (.mm true (zki 0) 4),zmv 2 5]),.ret])
def QUy:List (ARv × Md):=[(.t 2,.one .d)]
theorem QNR (a:Int) (h :
 K (Qqk (if (0:Int)<(QT a) then (QT a) else (0:Int)))):Hold (tawp QQS (0+0) QU4 (TQ 0 0 QUy K) (Qh [(.c TI a)])) :=
 Hold.of (by kernel_rfl) h
theorem QGM (a:Int):TCon Tryz.prog 234 [(.c TI a)] (Qqk (Qai a)):=by
 refine Qo rfl fun hb=>tcg (n:=6) (sg:=QoR.sg) Ql (TOk.cons Qfj TOk.nil) (by kernel_rfl) (by kernel_rfl) (QNR _ a ?_)
 exact R_eq rfl
theorem QUl:Qi Tryz.prog QoR:=Qm fun x _=>QGM x.1
def QoF (t:Int):TRes:=zre (zci t)
def Qn0:TRow:=Qj 238 [(.c TI)] fun x=>(none,QoF (Qai x.1))
def QUj:List TRow:=[Qev]
def QFd:TCode :=
 (zsq [(.reg [zmv 2 (zki 0)]),(.reg [zmv 3 0,zca 4 204 [3],zop 5 (.mm true (zki 0) 4),zmv 2 5]),.ret])
def QXi:List (ARv × Md):=[(.t 2,.one .d)]
theorem QFb (a:Int) (h :
 K (QoF (if (0:Int)<(QT a) then (QT a) else (0:Int)))):Hold (tawp QUj (0+0) QFd (TQ 0 0 QXi K) (Qh [(.c TI a)])) :=
 Hold.of (by kernel_rfl) h
theorem QPn (a:Int):TCon Tryz.prog 238 [(.c TI a)] (QoF (Qai a)):=by
 refine Qo rfl fun hb=>tcg (n:=6) (sg:=Qn0.sg) Ql (TOk.cons Qht TOk.nil) (by kernel_rfl) (by kernel_rfl) (QFb _ a ?_)
 exact R_eq rfl
theorem QOf:Qi Tryz.prog Qn0:=Qm fun x _=>QPn x.1
def Qp4 (t:(List Int)):TRes:=⟨(.r [TI] 0 0 t.length),[(.sl 3 [TI] true t)],[],true,[]⟩
def Qaw:TRow:=Qj 119 [(.c (.sl [TI]))] fun x=>(some (Qu (α:=List Int) x.1),Qp4 (id (α:=List Int) x.1))
def QOO:List TRow:=[]
def QZq:TCode :=
 (zsq [(.reg [zmv 2 (.k (.n [TI]))]),(.reg [zop 3 (.bsl 3 [TI] []),zmv 4 0,zop 5 (.app 3 4 3 [TI]),zmv 2 5]),.ret])
def QXx:List (ARv × Md):=[(.t 2,.one (.o 3))]
theorem QUB (l:List Int) (h :
 (((0=0∨0+l.length≤0)∧0+l.length≤big)∧K (Qp4 (List.take (0+l.length) (l:List Int))))):Hold (tawp QOO (0+0) QZq (TQ 0 0 QXx K) (Qh [(.c (.sl [TI]) l)])) :=
 Hold.of (by kernel_rfl) h
theorem QG8 (l:List Int) (hp:Qu (α:=List Int) l):TCon Tryz.prog 119 [(.c (.sl [TI]) l)] (Qp4 (id (α:=List Int) l)):=by
 refine Qo rfl fun hb=>tcg (n:=6) (sg:=Qaw.sg) Ql TOk.nil (by kernel_rfl) (by kernel_rfl) (QUB _ l ?_)
 have hl_l:l.length≤9223372036854775807:=hb.1.1
 have hl:=ZR l
 unfold Qu at hp
 exact ⟨⟨.inl rfl,by rw [Q9];omega⟩,R_eq (by simp)⟩
theorem Qa7:Qi Tryz.prog Qaw:=Qm fun x h=>QG8 x.1 h
end
end Go.Proofs.YtjbdljkhbglnhaaGreat.Am

