/- -/
import Derived.Test.YtjbdljkhbglnhaaGreatZJP1
namespace Go.Proofs.YtjbdljkhbglnhaaGreat.Am
open Go Go.RowKit Go.Proofs.YtjbdljkhbglnhaaGreat
set_option linter.all false
noncomputable section
variable (K:TRes→Prop)
def Qj2 (t:Int):TRes:=zre (zci t)
def Qbp:TRow:=Qg 190 [(.c TI)] fun x=>(none,Qj2 (Qy x.1))
def QDb:List TRow:=[]
def QCl:TCode :=
 (zsq [(.reg [zmv 2 (zki 0)]),(.reg [zmv 3 0,zop 4 (.mm true 3 (zki (-2147483647))),zop 5 (.mm false 4 (zki 2147483647)),zmv 2 5]),.ret])
def QCs:List (ARv × Md):=[(.t 2,.one .d)]
theorem QJD (x:Int) (h :
 K (Qj2 (if (2147483647:Int)<(if x<(-2147483647:Int) then (-2147483647:Int) else x) then (2147483647:Int) else (if x<(-2147483647:Int) then (-2147483647:Int) else x)))):Hold (tawp QDb (0+0) QCl (TQ 0 0 QCs K) (Qe [(.c TI x)])) :=
 Hold.of (by kernel_rfl) h
theorem QFV (x:Int):TCon Tryz.prog 190 [(.c TI x)] (Qj2 (Qy x)):=by
 refine Ql rfl fun hb=>tcg (n:=6) (sg:=Qbp.sg) Qi TOk.nil (by kernel_rfl) (by kernel_rfl) (QJD _ x ?_)
 exact R_eq (QFS x)
theorem Qcr:Qh Tryz.prog Qbp:=Qk fun x _=>QFV x.1
def Qhx (t:Int × Bool):TRes:=zre (.tp [(zci t.1),(zcb t.2)])
def Qdj:TRow:=Qg 189 [(.c TI)] fun x=>(none,Qhx (ZU x.1))
def QJg:List TRow:=[Qbp,Qci]
def QG1:TCode :=
 (zsq [(.reg [zmv 2 (zki 0),zmv 3 (zkb false)]),(.reg [zmv 4 0,zca 5 190 [4],zmv 6 0,zca 7 217 [6],zno 8 7,zmv 2 5,zmv 3 8]),.ret])
def QB5:List (ARv × Md):=[(.t 2,.one .d),(.t 3,.one .d)]
theorem QCq (x:Int) (h :
 K (Qhx ((Qy x),(!(QU x))))):Hold (tawp QJg (0+0) QG1 (TQ 0 0 QB5 K) (Qe [(.c TI x)])) :=
 Hold.of (by kernel_rfl) h
theorem QJx (x:Int):TCon Tryz.prog 189 [(.c TI x)] (Qhx (ZU x)):=by
 refine Ql rfl fun hb=>tcg (n:=9) (sg:=Qdj.sg) Qi (TOk.cons Qcr (TOk.cons Qkk TOk.nil)) (by kernel_rfl) (by kernel_rfl) (QCq _ x ?_)
 exact R_eq rfl
theorem Qh9:Qh Tryz.prog Qdj:=Qk fun x _=>QJx x.1
def Qct (t:Int × Bool):TRes:=zre (.tp [(zci t.1),(zcb t.2)])
def QbU:TRow:=Qg 203 [(.c TI)] fun x=>(none,Qct (ZU x.1))
def QwY:List TRow:=[]
def Qvd:TCode :=
 (zsq [(.reg [zmv 2 (zki 0),zmv 3 (zkb false)]),(zsq [(.reg [zmv 4 0,zbi 5 .gtr 4 (zki 2147483647)]),(.cond 5 (zsq [(.reg [zmv 2 (zki 2147483647),zmv 3 (zkb true)]),.ret]) .skip)]),(zsq [(.reg [zmv 6 0,zbi 7 .lss 6 (zki (-2147483647))]),(.cond 7 (zsq [(.reg [zmv 2 (zki (-2147483647)),zmv 3 (zkb true)]),.ret]) .skip)]),(.reg [zmv 8 0,zmv 2 8,zmv 3 (zkb false)]),.ret])
def QC7:List (ARv × Md):=[(.t 2,.one .d),(.t 3,.one .d)]
theorem Qzp (x:Int) (h :
 (zif (decide (x>(2147483647:Int))) (K (Qct ((2147483647:Int),true))) (zif (decide (x<(-2147483647:Int))) (K (Qct ((-2147483647:Int),true))) (K (Qct (x,false)))))):Hold (tawp QwY (0+0) Qvd (TQ 0 0 QC7 K) (Qe [(.c TI x)])) :=
 Hold.of (by kernel_rfl) h
theorem QHt (x:Int):TCon Tryz.prog 203 [(.c TI x)] (Qct (ZU x)):=by
 refine Ql rfl fun hb=>tcg (n:=9) (sg:=QbU.sg) Qi TOk.nil (by kernel_rfl) (by kernel_rfl) (Qzp _ x ?_)
 refine ⟨fun h=>R_eq ?_,fun h=>⟨fun h2=>R_eq ?_,fun h2=>R_eq ?_⟩⟩
 all_goals (simp at *;simp [ZU,Qy,QU,iMin,iMax];omega)
theorem Qff:Qh Tryz.prog QbU:=Qk fun x _=>QHt x.1
def QkY (t:Int):TRes:=zre (zci t)
def QbJ:TRow:=Qg 204 [(.c TI)] fun x=>(none,QkY (Qy x.1))
def QBu:List TRow:=[QbU]
def QCa:TCode :=
 (zsq [(.reg [zmv 2 (zki 0)]),(.reg [zmv 6 0,zca 7 203 [6],zmv 5 7,zex 8 5 0,zex 9 5 1,zmv 3 8,zmv 4 9]),(.reg [zmv 10 3,zmv 2 10]),.ret])
def QG4:List (ARv × Md):=[(.t 2,.one .d)]
theorem QFG (x:Int) (h :
 K (QkY ((ZU x).1))):Hold (tawp QBu (0+0) QCa (TQ 0 0 QG4 K) (Qe [(.c TI x)])) :=
 Hold.of (by kernel_rfl) h
theorem QDW (x:Int):TCon Tryz.prog 204 [(.c TI x)] (QkY (Qy x)):=by
 refine Ql rfl fun hb=>tcg (n:=11) (sg:=QbJ.sg) Qi (TOk.cons Qff TOk.nil) (by kernel_rfl) (by kernel_rfl) (QFG _ x ?_)
 exact R_eq rfl
theorem QeF:Qh Tryz.prog QbJ:=Qk fun x _=>QDW x.1
def QdU (t:Int):TRes:=zre (zci t)
def QhT:TRow:=Qg 239 [(.c TI),(.c TI)] fun x=>(some (Qhr x.1 x.2.1),QdU (Qgg x.1 x.2.1))
def QHy:List TRow:=[]
def QAV:TCode :=
 (zsq [(.reg [zmv 4 (zki 0)]),(.reg [zmv 6 0,zmv 7 1,zbi 8 .quo 6 7,zmv 5 8]),(zsq [(.reg [zmv 9 0,zmv 10 1,zbi 11 .rem 9 10,zbi 12 .neq 11 (zki 0),zmv 13 12,.grp 13 true [zmv 14 0,zbi 15 .lss 14 (zki 0),zmv 16 1,zbi 17 .lss 16 (zki 0),zop 18 (.eqb true 15 17)] 19 18]),(.cond 19 (.reg [zmv 20 5,zbi 21 .sub 20 (zki 1),zmv 5 21]) .skip)]),(.reg [zmv 22 5,zmv 4 22]),.ret])
def Qxc:List (ARv × Md):=[(.t 4,.one .d)]
theorem QA0 (a:Int) (b:Int) (h :
 ((¬ (b:Int)=0)∧((¬ (b:Int)=0)∧(zif (((Int.tmod a b) != (0:Int))&&(!((decide (a<(0:Int)))==(decide (b<(0:Int)))))) (K (QdU (w64 ((w64 (Int.tdiv a b))-(1:Int))))) (K (QdU (w64 (Int.tdiv a b)))))))):Hold (tawp QHy (0+0) QAV (TQ 0 0 Qxc K) (Qe [(.c TI a),(.c TI b)])) :=
 Hold.of (by kernel_rfl) h
theorem Qve (a:Int) (b:Int) (hp:Qhr a b):TCon Tryz.prog 239 [(.c TI a),(.c TI b)] (QdU (Qgg a b)):=by
 refine Ql rfl fun hb=>tcg (n:=23) (sg:=QhT.sg) Qi TOk.nil (by kernel_rfl) (by kernel_rfl) (QA0 _ a b ?_)
 obtain ⟨h1,h2,rfl⟩:=hp
 have hq:w64 (Int.tdiv a 65536)=Int.tdiv a 65536:=by
  rw [Int.tdiv_eq_ediv];have:Int.sign 65536=1:=rfl;rw [this];exact Qs (by split <;> omega) (by split <;> omega)
 have hq1:w64 (Int.tdiv a 65536-1)=Int.tdiv a 65536-1:=by
  rw [Int.tdiv_eq_ediv];have:Int.sign 65536=1:=rfl;rw [this];exact Qs (by split <;> omega) (by split <;> omega)
 have hf:=QA6 a
 rw [hq,hq1]
 refine ⟨by omega,by omega,fun h=>R_eq ?_,fun h=>R_eq ?_⟩
 ·rw [if_pos h] at hf;exact hf
 ·rw [if_neg (by rw [h];simp)] at hf;exact hf
theorem QwF:Qh Tryz.prog QhT:=Qk fun x h=>Qve x.1 x.2.1 h
def QgW (t:Int × Bool):TRes:=zre (.tp [(zci t.1),(zcb t.2)])
def Qb0:TRow:=Qg 121 [(.c TI),(.c TI)] fun x=>(none,QgW (QT x.1 x.2.1))
def QBp:List TRow:=[Qbp,Qdj]
def QIv:TCode :=
 (zsq [(.reg [zmv 4 (zki 0),zmv 5 (zkb false)]),(.reg [zmv 6 0,zca 7 190 [6],zmv 8 1,zca 9 190 [8],zbi 10 .add 7 9,zca 11 189 [10],zex 12 11 0,zex 13 11 1,zmv 4 12,zmv 5 13]),.ret])
def QGt:List (ARv × Md):=[(.t 4,.one .d),(.t 5,.one .d)]
theorem QGT (a:Int) (b:Int) (h :
 K (QgW ((ZU (w64 ((Qy a)+(Qy b)))).1,(ZU (w64 ((Qy a)+(Qy b)))).2))):Hold (tawp QBp (0+0) QIv (TQ 0 0 QGt K) (Qe [(.c TI a),(.c TI b)])) :=
 Hold.of (by kernel_rfl) h
theorem Qzm (a:Int) (b:Int):TCon Tryz.prog 121 [(.c TI a),(.c TI b)] (QgW (QT a b)):=by
 refine Ql rfl fun hb=>tcg (n:=14) (sg:=Qb0.sg) Qi (TOk.cons Qcr (TOk.cons Qh9 TOk.nil)) (by kernel_rfl) (by kernel_rfl) (QGT _ a b ?_)
 have h1:=YU a
 have h2:=YU b
 rw [Qs (x:=Qy a+Qy b) (by omega) (by omega)]
 exact R_eq rfl
theorem Qfk:Qh Tryz.prog Qb0:=Qk fun x _=>Qzm x.1 x.2.1
def QiD (t:Int × Bool):TRes:=zre (.tp [(zci t.1),(zcb t.2)])
def QaB:TRow:=Qg 162 [(.c TI),(.c TI)] fun x=>(none,QiD (QT x.1 x.2.1))
def QCR:List TRow:=[QbJ,QbU]
def QyA:TCode :=
 (zsq [(.reg [zmv 4 (zki 0),zmv 5 (zkb false)]),(.reg [zmv 6 0,zca 7 204 [6],zmv 8 1,zca 9 204 [8],zbi 10 .add 7 9,zca 11 203 [10],zex 12 11 0,zex 13 11 1,zmv 4 12,zmv 5 13]),.ret])
def QxV:List (ARv × Md):=[(.t 4,.one .d),(.t 5,.one .d)]
theorem QDI (a:Int) (b:Int) (h :
 K (QiD ((ZU (w64 ((Qy a)+(Qy b)))).1,(ZU (w64 ((Qy a)+(Qy b)))).2))):Hold (tawp QCR (0+0) QyA (TQ 0 0 QxV K) (Qe [(.c TI a),(.c TI b)])) :=
 Hold.of (by kernel_rfl) h
theorem QJM (a:Int) (b:Int):TCon Tryz.prog 162 [(.c TI a),(.c TI b)] (QiD (QT a b)):=by
 refine Ql rfl fun hb=>tcg (n:=14) (sg:=QaB.sg) Qi (TOk.cons QeF (TOk.cons Qff TOk.nil)) (by kernel_rfl) (by kernel_rfl) (QDI _ a b ?_)
 have h1:=YU a
 have h2:=YU b
 rw [Qs (x:=Qy a+Qy b) (by omega) (by omega)]
 exact R_eq rfl
theorem Qdn:Qh Tryz.prog QaB:=Qk fun x _=>QJM x.1 x.2.1
def Qim (t:Int × Bool):TRes:=zre (.tp [(zci t.1),(zcb t.2)])
def Qhg:TRow:=Qg 192 [(.c TI),(.c TI)] fun x=>(none,Qim (Yx x.1 x.2.1))
def QII:List TRow:=[Qbp,Qdj]
def QEW:TCode :=
 (zsq [(.reg [zmv 4 (zki 0),zmv 5 (zkb false)]),(.reg [zmv 6 0,zca 7 190 [6],zmv 8 1,zca 9 190 [8],zbi 10 .sub 7 9,zca 11 189 [10],zex 12 11 0,zex 13 11 1,zmv 4 12,zmv 5 13]),.ret])
def QIl:List (ARv × Md):=[(.t 4,.one .d),(.t 5,.one .d)]
theorem Qx7 (a:Int) (b:Int) (h :
 K (Qim ((ZU (w64 ((Qy a)-(Qy b)))).1,(ZU (w64 ((Qy a)-(Qy b)))).2))):Hold (tawp QII (0+0) QEW (TQ 0 0 QIl K) (Qe [(.c TI a),(.c TI b)])) :=
 Hold.of (by kernel_rfl) h
theorem QFq (a:Int) (b:Int):TCon Tryz.prog 192 [(.c TI a),(.c TI b)] (Qim (Yx a b)):=by
 refine Ql rfl fun hb=>tcg (n:=14) (sg:=Qhg.sg) Qi (TOk.cons Qcr (TOk.cons Qh9 TOk.nil)) (by kernel_rfl) (by kernel_rfl) (Qx7 _ a b ?_)
 have h1:=YU a
 have h2:=YU b
 rw [Qs (x:=Qy a-Qy b) (by omega) (by omega)]
 exact R_eq rfl
theorem QzJ:Qh Tryz.prog Qhg:=Qk fun x _=>QFq x.1 x.2.1
def Qgv (t:Int × Bool):TRes:=zre (.tp [(zci t.1),(zcb t.2)])
def QgG:TRow:=Qg 208 [(.c TI),(.c TI)] fun x=>(none,Qgv (Yx x.1 x.2.1))
def QxY:List TRow:=[QbJ,QbU]
def QxO:TCode :=
 (zsq [(.reg [zmv 4 (zki 0),zmv 5 (zkb false)]),(.reg [zmv 6 0,zca 7 204 [6],zmv 8 1,zca 9 204 [8],zbi 10 .sub 7 9,zca 11 203 [10],zex 12 11 0,zex 13 11 1,zmv 4 12,zmv 5 13]),.ret])
def QHw:List (ARv × Md):=[(.t 4,.one .d),(.t 5,.one .d)]
theorem QIq (a:Int) (b:Int) (h :
 K (Qgv ((ZU (w64 ((Qy a)-(Qy b)))).1,(ZU (w64 ((Qy a)-(Qy b)))).2))):Hold (tawp QxY (0+0) QxO (TQ 0 0 QHw K) (Qe [(.c TI a),(.c TI b)])) :=
 Hold.of (by kernel_rfl) h
theorem Qv8 (a:Int) (b:Int):TCon Tryz.prog 208 [(.c TI a),(.c TI b)] (Qgv (Yx a b)):=by
 refine Ql rfl fun hb=>tcg (n:=14) (sg:=QgG.sg) Qi (TOk.cons QeF (TOk.cons Qff TOk.nil)) (by kernel_rfl) (by kernel_rfl) (QIq _ a b ?_)
 have h1:=YU a
 have h2:=YU b
 rw [Qs (x:=Qy a-Qy b) (by omega) (by omega)]
 exact R_eq rfl
theorem Qv4:Qh Tryz.prog QgG:=Qk fun x _=>Qv8 x.1 x.2.1
def Qg3 (t:Int × Bool):TRes:=zre (.tp [(zci t.1),(zcb t.2)])
def Qc1:TRow:=Qg 216 [(.c TI),(.c TI)] fun x=>(none,Qg3 (Q2 x.1 x.2.1))
def QEh:List TRow:=[Qbp,Qdj]
def QA4:TCode :=
 (zsq [(.reg [zmv 4 (zki 0),zmv 5 (zkb false)]),(.reg [zmv 6 0,zca 7 190 [6],zmv 8 1,zca 9 190 [8],zbi 10 .mul 7 9,zbi 11 .shr 10 (.k (.c (.int .u64) (16:Int))),zca 12 189 [11],zex 13 12 0,zex 14 12 1,zmv 4 13,zmv 5 14]),.ret])
def Qwc:List (ARv × Md):=[(.t 4,.one .d),(.t 5,.one .d)]
theorem QIX (a:Int) (b:Int) (h :
 (((0:Int)≤(16:Int))∧K (Qg3 ((ZU (Int.fdiv (w64 ((Qy a)*(Qy b))) (2 ^ (min (Int.toNat (16:Int)) (IntKind.i64.bits))))).1,(ZU (Int.fdiv (w64 ((Qy a)*(Qy b))) (2 ^ (min (Int.toNat (16:Int)) (IntKind.i64.bits))))).2)))):Hold (tawp QEh (0+0) QA4 (TQ 0 0 Qwc K) (Qe [(.c TI a),(.c TI b)])) :=
 Hold.of (by kernel_rfl) h
theorem Qy5 (a:Int) (b:Int):TCon Tryz.prog 216 [(.c TI a),(.c TI b)] (Qg3 (Q2 a b)):=by
 refine Ql rfl fun hb=>tcg (n:=15) (sg:=Qc1.sg) Qi (TOk.cons Qcr (TOk.cons Qh9 TOk.nil)) (by kernel_rfl) (by kernel_rfl) (QIX _ a b ?_)
 have h:=Qq1 a b
 rw [Qs (x:=Qy a*Qy b) (by omega) (by omega)]
 exact ⟨by omega,R_eq rfl⟩
theorem QiS:Qh Tryz.prog Qc1:=Qk fun x _=>Qy5 x.1 x.2.1
def Qh6 (t:Int × Bool):TRes:=zre (.tp [(zci t.1),(zcb t.2)])
def QcM:TRow:=Qg 229 [(.c TI),(.c TI)] fun x=>(none,Qh6 (Q2 x.1 x.2.1))
def QJd:List TRow:=[QbJ,QhT,QbU]
def QA3:TCode :=
 (zsq [(.reg [zmv 4 (zki 0),zmv 5 (zkb false)]),(.reg [zmv 6 0,zca 7 204 [6],zmv 8 1,zca 9 204 [8],zbi 10 .mul 7 9,zca 11 239 [10,(zki 65536)],zca 12 203 [11],zex 13 12 0,zex 14 12 1,zmv 4 13,zmv 5 14]),.ret])
def QHP:List (ARv × Md):=[(.t 4,.one .d),(.t 5,.one .d)]
theorem QCM (a:Int) (b:Int) (h :
 ((Qhr (w64 ((Qy a)*(Qy b))) (65536:Int))∧K (Qh6 ((ZU (Qgg (w64 ((Qy a)*(Qy b))) (65536:Int))).1,(ZU (Qgg (w64 ((Qy a)*(Qy b))) (65536:Int))).2)))):Hold (tawp QJd (0+0) QA3 (TQ 0 0 QHP K) (Qe [(.c TI a),(.c TI b)])) :=
 Hold.of (by kernel_rfl) h
theorem QwA (a:Int) (b:Int):TCon Tryz.prog 229 [(.c TI a),(.c TI b)] (Qh6 (Q2 a b)):=by
 refine Ql rfl fun hb=>tcg (n:=15) (sg:=QcM.sg) Qi (TOk.cons QeF (TOk.cons QwF (TOk.cons Qff TOk.nil))) (by kernel_rfl) (by kernel_rfl) (QCM _ a b ?_)
 have h:=Qq1 a b
 rw [Qs (x:=Qy a*Qy b) (by omega) (by omega)]
 exact ⟨⟨h.1,h.2,rfl⟩,R_eq rfl⟩
theorem QjP:Qh Tryz.prog QcM:=Qk fun x _=>QwA x.1 x.2.1
def Qkd (t:Int):TRes:=zre (zci t)
def Qid:TRow:=Qg 234 [(.c TI)] fun x=>(none,Qkd (Y8 x.1))
def QCg:List TRow:=[Qbp]
def QAo:TCode :=
 (zsq [(.reg [zmv 2 (zki 0)]),(.reg [zmv 3 0,zca 4 190 [3],zop 5 (.mm true (zki 0) 4),zmv 2 5]),.ret])
def QBK:List (ARv × Md):=[(.t 2,.one .d)]
theorem QAc (a:Int) (h :
 K (Qkd (if (0:Int)<(Qy a) then (Qy a) else (0:Int)))):Hold (tawp QCg (0+0) QAo (TQ 0 0 QBK K) (Qe [(.c TI a)])) :=
 Hold.of (by kernel_rfl) h
theorem QJR (a:Int):TCon Tryz.prog 234 [(.c TI a)] (Qkd (Y8 a)):=by
 refine Ql rfl fun hb=>tcg (n:=6) (sg:=Qid.sg) Qi (TOk.cons Qcr TOk.nil) (by kernel_rfl) (by kernel_rfl) (QAc _ a ?_)
 exact R_eq rfl
theorem QHQ:Qh Tryz.prog Qid:=Qk fun x _=>QJR x.1
def Qhs (t:Int):TRes:=zre (zci t)
def Qjk:TRow:=Qg 238 [(.c TI)] fun x=>(none,Qhs (Y8 x.1))
def QHz:List TRow:=[QbJ]
def QJE:TCode :=
 (zsq [(.reg [zmv 2 (zki 0)]),(.reg [zmv 3 0,zca 4 204 [3],zop 5 (.mm true (zki 0) 4),zmv 2 5]),.ret])
def QFu:List (ARv × Md):=[(.t 2,.one .d)]
theorem QIc (a:Int) (h :
 K (Qhs (if (0:Int)<(Qy a) then (Qy a) else (0:Int)))):Hold (tawp QHz (0+0) QJE (TQ 0 0 QFu K) (Qe [(.c TI a)])) :=
 Hold.of (by kernel_rfl) h
theorem QEI (a:Int):TCon Tryz.prog 238 [(.c TI a)] (Qhs (Y8 a)):=by
 refine Ql rfl fun hb=>tcg (n:=6) (sg:=Qjk.sg) Qi (TOk.cons QeF TOk.nil) (by kernel_rfl) (by kernel_rfl) (QIc _ a ?_)
 exact R_eq rfl
theorem QFx:Qh Tryz.prog Qjk:=Qk fun x _=>QEI x.1
def QjT (t:(List Int)):TRes:=⟨(.r [TI] 0 0 t.length),[(.sl 3 [TI] true t)],[],true,[]⟩
def J2:TRow:=Qg 119 [(.c (.sl [TI]))] fun x=>(some (QO (α:=List Int) x.1),QjT (id (α:=List Int) x.1))
def QJk:List TRow:=[]
def QDB:TCode :=
 (zsq [(.reg [zmv 2 (.k (.n [TI]))]),(.reg [zop 3 (.bsl 3 [TI] []),zmv 4 0,zop 5 (.app 3 4 3 [TI]),zmv 2 5]),.ret])
def QxW:List (ARv × Md):=[(.t 2,.one (.o 3))]
theorem QwX (l:List Int) (h :
 (((0=0∨0+l.length≤0)∧0+l.length≤big)∧K (QjT (List.take (0+l.length) (l:List Int))))):Hold (tawp QJk (0+0) QDB (TQ 0 0 QxW K) (Qe [(.c (.sl [TI]) l)])) :=
 Hold.of (by kernel_rfl) h
theorem Qvs (l:List Int) (hp:QO (α:=List Int) l):TCon Tryz.prog 119 [(.c (.sl [TI]) l)] (QjT (id (α:=List Int) l)):=by
 refine Ql rfl fun hb=>tcg (n:=6) (sg:=J2.sg) Qi TOk.nil (by kernel_rfl) (by kernel_rfl) (QwX _ l ?_)
 have hl_l:l.length≤9223372036854775807:=hb.1.1
 have hl:=ZF l
 unfold QO at hp
 exact ⟨⟨.inl rfl,by rw [ZC];omega⟩,R_eq (by simp)⟩
theorem QbC:Qh Tryz.prog J2:=Qk fun x h=>Qvs x.1 h
end
end Go.Proofs.YtjbdljkhbglnhaaGreat.Am

