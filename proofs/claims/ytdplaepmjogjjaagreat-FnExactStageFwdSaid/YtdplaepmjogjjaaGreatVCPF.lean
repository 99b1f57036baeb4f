/- -/
import Derived.Test.YtdplaepmjogjjaaGreatVCP1
namespace Go.Proofs.YtdplaepmjogjjaaGreat.Am
open Go Go.RowKit Go.Proofs.YtdplaepmjogjjaaGreat
set_option linter.all false
noncomputable section
variable (K:TRes→Prop)
def QiW (t:Int):TRes:=zre (zci t)
def Qaw:TRow:=Qg 190 [(.c TI)] fun x=>(none,QiW (Qo x.1))
def QoR:TTab:=⟨[],false⟩
def QvS:TCode :=
 (zsq [(.reg [zmv 2 (zki 0)]),(.reg [zmv 3 0,zop 4 (.mm true 3 (zki (-2147483647))),zop 5 (.mm false 4 (zki 2147483647)),zmv 2 5]),.ret])
def QFL:List (ARv × Md):=[(.t 2,.one .d)]
theorem QBR (x:Int) (h :
 K (QiW (if (2147483647:Int)<(if x<(-2147483647:Int) then (-2147483647:Int) else x) then (2147483647:Int) else (if x<(-2147483647:Int) then (-2147483647:Int) else x)))):Hold (tawp QoR (0+0) QvS (TQ 0 0 QFL K) (Qd [(.c TI x)])) :=
 Hold.of (by kernel_rfl) h
theorem Quy (x:Int):TCon Tryz.prog 190 [(.c TI x)] (QiW (Qo x)):=by
 refine Qi rfl fun hb=>tcg (Γ:=QoR) (n:=6) (sg:=Qaw.sg) Qj TOkL.nil (by kernel_rfl) (by kernel_rfl) (QBR _ x ?_)
 exact R_eq (QvL x)
theorem Qcs:Qe Tryz.prog Qaw:=Qk fun x _=>Quy x.1
def Qkg (t:Int × Bool):TRes:=zre (.tp [(zci t.1),(zcb t.2)])
def QbJ:TRow:=Qg 189 [(.c TI)] fun x=>(none,Qkg (Zo x.1))
def QsT:TTab:=⟨[Qaw,Qcz],false⟩
def QCZ:TCode :=
 (zsq [(.reg [zmv 2 (zki 0),zmv 3 (zkb false)]),(.reg [zmv 4 0,zca 5 190 [4],zmv 6 0,zca 7 240 [6],zno 8 7,zmv 2 5,zmv 3 8]),.ret])
def QzU:List (ARv × Md):=[(.t 2,.one .d),(.t 3,.one .d)]
theorem QDJ (x:Int) (h :
 K (Qkg ((Qo x),(!(Q2 x))))):Hold (tawp QsT (0+0) QCZ (TQ 0 0 QzU K) (Qd [(.c TI x)])) :=
 Hold.of (by kernel_rfl) h
theorem QwB (x:Int):TCon Tryz.prog 189 [(.c TI x)] (Qkg (Zo x)):=by
 refine Qi rfl fun hb=>tcg (Γ:=QsT) (n:=9) (sg:=QbJ.sg) Qj (TOkL.cons Qcs (TOkL.cons Qgd TOkL.nil)) (by kernel_rfl) (by kernel_rfl) (QDJ _ x ?_)
 exact R_eq rfl
theorem Qik:Qe Tryz.prog QbJ:=Qk fun x _=>QwB x.1
def Qb7 (t:Int × Bool):TRes:=zre (.tp [(zci t.1),(zcb t.2)])
def Qbo:TRow:=Qg 185 [(.c TI)] fun x=>(none,Qb7 (Zo x.1))
def Qrz:TTab:=⟨[],false⟩
def QA3:TCode :=
 (zsq [(.reg [zmv 2 (zki 0),zmv 3 (zkb false)]),(zsq [(.reg [zmv 4 0,zbi 5 .gtr 4 (zki 2147483647)]),(.cond 5 (zsq [(.reg [zmv 2 (zki 2147483647),zmv 3 (zkb true)]),.ret]) .skip)]),(zsq [(.reg [zmv 6 0,zbi 7 .lss 6 (zki (-2147483647))]),(.cond 7 (zsq [(.reg [zmv 2 (zki (-2147483647)),zmv 3 (zkb true)]),.ret]) .skip)]),(.reg [zmv 8 0,zmv 2 8,zmv 3 (zkb false)]),.ret])
def QEQ:List (ARv × Md):=[(.t 2,.one .d),(.t 3,.one .d)]
theorem Qzi (x:Int) (h :
 (zif (decide (x>(2147483647:Int))) (K (Qb7 ((2147483647:Int),true))) (zif (decide (x<(-2147483647:Int))) (K (Qb7 ((-2147483647:Int),true))) (K (Qb7 (x,false)))))):Hold (tawp Qrz (0+0) QA3 (TQ 0 0 QEQ K) (Qd [(.c TI x)])) :=
 Hold.of (by kernel_rfl) h
theorem QCF (x:Int):TCon Tryz.prog 185 [(.c TI x)] (Qb7 (Zo x)):=by
 refine Qi rfl fun hb=>tcg (Γ:=Qrz) (n:=9) (sg:=Qbo.sg) Qj TOkL.nil (by kernel_rfl) (by kernel_rfl) (Qzi _ x ?_)
 refine ⟨fun h=>R_eq ?_,fun h=>⟨fun h2=>R_eq ?_,fun h2=>R_eq ?_⟩⟩
 all_goals (simp at *;simp [Zo,Qo,Q2,iMin,iMax];omega)
theorem QeN:Qe Tryz.prog Qbo:=Qk fun x _=>QCF x.1
def Qgf (t:Int):TRes:=zre (zci t)
def Qbe:TRow:=Qg 186 [(.c TI)] fun x=>(none,Qgf (Qo x.1))
def QlW:TTab:=⟨[Qbo],false⟩
def QFe:TCode :=
 (zsq [(.reg [zmv 2 (zki 0)]),(.reg [zmv 6 0,zca 7 185 [6],zmv 5 7,zex 8 5 0,zex 9 5 1,zmv 3 8,zmv 4 9]),(.reg [zmv 10 3,zmv 2 10]),.ret])
def Qyl:List (ARv × Md):=[(.t 2,.one .d)]
theorem Qx6 (x:Int) (h :
 K (Qgf ((Zo x).1))):Hold (tawp QlW (0+0) QFe (TQ 0 0 Qyl K) (Qd [(.c TI x)])) :=
 Hold.of (by kernel_rfl) h
theorem Qyv (x:Int):TCon Tryz.prog 186 [(.c TI x)] (Qgf (Qo x)):=by
 refine Qi rfl fun hb=>tcg (Γ:=QlW) (n:=11) (sg:=Qbe.sg) Qj (TOkL.cons QeN TOkL.nil) (by kernel_rfl) (by kernel_rfl) (Qx6 _ x ?_)
 exact R_eq rfl
theorem Qdd:Qe Tryz.prog Qbe:=Qk fun x _=>Qyv x.1
def Qdo (t:Int):TRes:=zre (zci t)
def Qgp:TRow:=Qg 263 [(.c TI),(.c TI)] fun x=>(some (Qi5 x.1 x.2.1),Qdo (Qde x.1 x.2.1))
def QlJ:TTab:=⟨[],false⟩
def QEO:TCode :=
 (zsq [(.reg [zmv 4 (zki 0)]),(.reg [zmv 6 0,zmv 7 1,zbi 8 .quo 6 7,zmv 5 8]),(zsq [(.reg [zmv 9 0,zmv 10 1,zbi 11 .rem 9 10,zbi 12 .neq 11 (zki 0),zmv 13 12,.grp 13 true [zmv 14 0,zbi 15 .lss 14 (zki 0),zmv 16 1,zbi 17 .lss 16 (zki 0),zop 18 (.eqb true 15 17)] 19 18]),(.cond 19 (.reg [zmv 20 5,zbi 21 .sub 20 (zki 1),zmv 5 21]) .skip)]),(.reg [zmv 22 5,zmv 4 22]),.ret])
def Qy8:List (ARv × Md):=[(.t 4,.one .d)]
theorem QzX (a:Int) (b:Int) (h :
 ((¬ (b:Int)=0)∧((¬ (b:Int)=0)∧(zif (((Int.tmod a b) != (0:Int))&&(!((decide (a<(0:Int)))==(decide (b<(0:Int)))))) (K (Qdo (w64 ((w64 (Int.tdiv a b))-(1:Int))))) (K (Qdo (w64 (Int.tdiv a b)))))))):Hold (tawp QlJ (0+0) QEO (TQ 0 0 Qy8 K) (Qd [(.c TI a),(.c TI b)])) :=
 Hold.of (by kernel_rfl) h
theorem QvP (a:Int) (b:Int) (hp:Qi5 a b):TCon Tryz.prog 263 [(.c TI a),(.c TI b)] (Qdo (Qde a b)):=by
 refine Qi rfl fun hb=>tcg (Γ:=QlJ) (n:=23) (sg:=Qgp.sg) Qj TOkL.nil (by kernel_rfl) (by kernel_rfl) (QzX _ a b ?_)
 obtain ⟨h1,h2,rfl⟩:=hp
 have hq:w64 (Int.tdiv a 65536)=Int.tdiv a 65536:=by
  rw [Int.tdiv_eq_ediv];have:Int.sign 65536=1:=rfl;rw [this];exact Qv (by split <;> omega) (by split <;> omega)
 have hq1:w64 (Int.tdiv a 65536-1)=Int.tdiv a 65536-1:=by
  rw [Int.tdiv_eq_ediv];have:Int.sign 65536=1:=rfl;rw [this];exact Qv (by split <;> omega) (by split <;> omega)
 have hf:=QAa a
 rw [hq,hq1]
 refine ⟨by omega,by omega,fun h=>R_eq ?_,fun h=>R_eq ?_⟩
 ·rw [if_pos h] at hf;exact hf
 ·rw [if_neg (by rw [h];simp)] at hf;exact hf
theorem Qxe:Qe Tryz.prog Qgp:=Qk fun x h=>QvP x.1 x.2.1 h
def Qgl (t:Int × Bool):TRes:=zre (.tp [(zci t.1),(zcb t.2)])
def QcJ:TRow:=Qg 106 [(.c TI),(.c TI)] fun x=>(none,Qgl (Q3 x.1 x.2.1))
def Qsa:TTab:=⟨[Qaw,QbJ],false⟩
def Qun:TCode :=
 (zsq [(.reg [zmv 4 (zki 0),zmv 5 (zkb false)]),(.reg [zmv 6 0,zca 7 190 [6],zmv 8 1,zca 9 190 [8],zbi 10 .add 7 9,zca 11 189 [10],zex 12 11 0,zex 13 11 1,zmv 4 12,zmv 5 13]),.ret])
def QG3:List (ARv × Md):=[(.t 4,.one .d),(.t 5,.one .d)]
theorem QHY (a:Int) (b:Int) (h :
 K (Qgl ((Zo (w64 ((Qo a)+(Qo b)))).1,(Zo (w64 ((Qo a)+(Qo b)))).2))):Hold (tawp Qsa (0+0) Qun (TQ 0 0 QG3 K) (Qd [(.c TI a),(.c TI b)])) :=
 Hold.of (by kernel_rfl) h
theorem QCf (a:Int) (b:Int):TCon Tryz.prog 106 [(.c TI a),(.c TI b)] (Qgl (Q3 a b)):=by
 refine Qi rfl fun hb=>tcg (Γ:=Qsa) (n:=14) (sg:=QcJ.sg) Qj (TOkL.cons Qcs (TOkL.cons Qik TOkL.nil)) (by kernel_rfl) (by kernel_rfl) (QHY _ a b ?_)
 have h1:=Yu a
 have h2:=Yu b
 rw [Qv (x:=Qo a+Qo b) (by omega) (by omega)]
 exact R_eq rfl
theorem Qil:Qe Tryz.prog QcJ:=Qk fun x _=>QCf x.1 x.2.1
def Qi0 (t:Int × Bool):TRes:=zre (.tp [(zci t.1),(zcb t.2)])
def Qb2:TRow:=Qg 99 [(.c TI),(.c TI)] fun x=>(none,Qi0 (Q3 x.1 x.2.1))
def Qk8:TTab:=⟨[Qbe,Qbo],false⟩
def Qvg:TCode :=
 (zsq [(.reg [zmv 4 (zki 0),zmv 5 (zkb false)]),(.reg [zmv 6 0,zca 7 186 [6],zmv 8 1,zca 9 186 [8],zbi 10 .add 7 9,zca 11 185 [10],zex 12 11 0,zex 13 11 1,zmv 4 12,zmv 5 13]),.ret])
def QGJ:List (ARv × Md):=[(.t 4,.one .d),(.t 5,.one .d)]
theorem Qu0 (a:Int) (b:Int) (h :
 K (Qi0 ((Zo (w64 ((Qo a)+(Qo b)))).1,(Zo (w64 ((Qo a)+(Qo b)))).2))):Hold (tawp Qk8 (0+0) Qvg (TQ 0 0 QGJ K) (Qd [(.c TI a),(.c TI b)])) :=
 Hold.of (by kernel_rfl) h
theorem QBB (a:Int) (b:Int):TCon Tryz.prog 99 [(.c TI a),(.c TI b)] (Qi0 (Q3 a b)):=by
 refine Qi rfl fun hb=>tcg (Γ:=Qk8) (n:=14) (sg:=Qb2.sg) Qj (TOkL.cons Qdd (TOkL.cons QeN TOkL.nil)) (by kernel_rfl) (by kernel_rfl) (Qu0 _ a b ?_)
 have h1:=Yu a
 have h2:=Yu b
 rw [Qv (x:=Qo a+Qo b) (by omega) (by omega)]
 exact R_eq rfl
theorem Qgv:Qe Tryz.prog Qb2:=Qk fun x _=>QBB x.1 x.2.1
def Qh9 (t:Int × Bool):TRes:=zre (.tp [(zci t.1),(zcb t.2)])
def Qir:TRow:=Qg 196 [(.c TI),(.c TI)] fun x=>(none,Qh9 (Z6 x.1 x.2.1))
def Qok:TTab:=⟨[Qaw,QbJ],false⟩
def Qvh:TCode :=
 (zsq [(.reg [zmv 4 (zki 0),zmv 5 (zkb false)]),(.reg [zmv 6 0,zca 7 190 [6],zmv 8 1,zca 9 190 [8],zbi 10 .sub 7 9,zca 11 189 [10],zex 12 11 0,zex 13 11 1,zmv 4 12,zmv 5 13]),.ret])
def QF6:List (ARv × Md):=[(.t 4,.one .d),(.t 5,.one .d)]
theorem QHc (a:Int) (b:Int) (h :
 K (Qh9 ((Zo (w64 ((Qo a)-(Qo b)))).1,(Zo (w64 ((Qo a)-(Qo b)))).2))):Hold (tawp Qok (0+0) Qvh (TQ 0 0 QF6 K) (Qd [(.c TI a),(.c TI b)])) :=
 Hold.of (by kernel_rfl) h
theorem QGP (a:Int) (b:Int):TCon Tryz.prog 196 [(.c TI a),(.c TI b)] (Qh9 (Z6 a b)):=by
 refine Qi rfl fun hb=>tcg (Γ:=Qok) (n:=14) (sg:=Qir.sg) Qj (TOkL.cons Qcs (TOkL.cons Qik TOkL.nil)) (by kernel_rfl) (by kernel_rfl) (QHc _ a b ?_)
 have h1:=Yu a
 have h2:=Yu b
 rw [Qv (x:=Qo a-Qo b) (by omega) (by omega)]
 exact R_eq rfl
theorem QHt:Qe Tryz.prog Qir:=Qk fun x _=>QGP x.1 x.2.1
def QiI (t:Int × Bool):TRes:=zre (.tp [(zci t.1),(zcb t.2)])
def Qg6:TRow:=Qg 192 [(.c TI),(.c TI)] fun x=>(none,QiI (Z6 x.1 x.2.1))
def QkX:TTab:=⟨[Qbe,Qbo],false⟩
def QDR:TCode :=
 (zsq [(.reg [zmv 4 (zki 0),zmv 5 (zkb false)]),(.reg [zmv 6 0,zca 7 186 [6],zmv 8 1,zca 9 186 [8],zbi 10 .sub 7 9,zca 11 185 [10],zex 12 11 0,zex 13 11 1,zmv 4 12,zmv 5 13]),.ret])
def QEu:List (ARv × Md):=[(.t 4,.one .d),(.t 5,.one .d)]
theorem QHN (a:Int) (b:Int) (h :
 K (QiI ((Zo (w64 ((Qo a)-(Qo b)))).1,(Zo (w64 ((Qo a)-(Qo b)))).2))):Hold (tawp QkX (0+0) QDR (TQ 0 0 QEu K) (Qd [(.c TI a),(.c TI b)])) :=
 Hold.of (by kernel_rfl) h
theorem QFR (a:Int) (b:Int):TCon Tryz.prog 192 [(.c TI a),(.c TI b)] (QiI (Z6 a b)):=by
 refine Qi rfl fun hb=>tcg (Γ:=QkX) (n:=14) (sg:=Qg6.sg) Qj (TOkL.cons Qdd (TOkL.cons QeN TOkL.nil)) (by kernel_rfl) (by kernel_rfl) (QHN _ a b ?_)
 have h1:=Yu a
 have h2:=Yu b
 rw [Qv (x:=Qo a-Qo b) (by omega) (by omega)]
 exact R_eq rfl
theorem QE7:Qe Tryz.prog Qg6:=Qk fun x _=>QFR x.1 x.2.1
def QgD (t:Int × Bool):TRes:=zre (.tp [(zci t.1),(zcb t.2)])
def Qdx:TRow:=Qg 239 [(.c TI),(.c TI)] fun x=>(none,QgD (Za x.1 x.2.1))
def QoW:TTab:=⟨[Qaw,QbJ],false⟩
def QAk:TCode :=
 (zsq [(.reg [zmv 4 (zki 0),zmv 5 (zkb false)]),(.reg [zmv 6 0,zca 7 190 [6],zmv 8 1,zca 9 190 [8],zbi 10 .mul 7 9,zbi 11 .shr 10 (.k (.c (.int .u64) (16:Int))),zca 12 189 [11],zex 13 12 0,zex 14 12 1,zmv 4 13,zmv 5 14]),.ret])
def QEG:List (ARv × Md):=[(.t 4,.one .d),(.t 5,.one .d)]
theorem QGL (a:Int) (b:Int) (h :
 (((0:Int)≤(16:Int))∧K (QgD ((Zo (Int.fdiv (w64 ((Qo a)*(Qo b))) (2 ^ (min (Int.toNat (16:Int)) (IntKind.i64.bits))))).1,(Zo (Int.fdiv (w64 ((Qo a)*(Qo b))) (2 ^ (min (Int.toNat (16:Int)) (IntKind.i64.bits))))).2)))):Hold (tawp QoW (0+0) QAk (TQ 0 0 QEG K) (Qd [(.c TI a),(.c TI b)])) :=
 Hold.of (by kernel_rfl) h
theorem QDz (a:Int) (b:Int):TCon Tryz.prog 239 [(.c TI a),(.c TI b)] (QgD (Za a b)):=by
 refine Qi rfl fun hb=>tcg (Γ:=QoW) (n:=15) (sg:=Qdx.sg) Qj (TOkL.cons Qcs (TOkL.cons Qik TOkL.nil)) (by kernel_rfl) (by kernel_rfl) (QGL _ a b ?_)
 have h:=Quf a b
 rw [Qv (x:=Qo a*Qo b) (by omega) (by omega)]
 exact ⟨by omega,R_eq rfl⟩
theorem QnT:Qe Tryz.prog Qdx:=Qk fun x _=>QDz x.1 x.2.1
def Qhb (t:Int × Bool):TRes:=zre (.tp [(zci t.1),(zcb t.2)])
def Qfi:TRow:=Qg 237 [(.c TI),(.c TI)] fun x=>(none,Qhb (Za x.1 x.2.1))
def Qt1:TTab:=⟨[Qbe,Qgp,Qbo],false⟩
def Quk:TCode :=
 (zsq [(.reg [zmv 4 (zki 0),zmv 5 (zkb false)]),(.reg [zmv 6 0,zca 7 186 [6],zmv 8 1,zca 9 186 [8],zbi 10 .mul 7 9,zca 11 263 [10,(zki 65536)],zca 12 185 [11],zex 13 12 0,zex 14 12 1,zmv 4 13,zmv 5 14]),.ret])
def QEI:List (ARv × Md):=[(.t 4,.one .d),(.t 5,.one .d)]
theorem QC7 (a:Int) (b:Int) (h :
 ((Qi5 (w64 ((Qo a)*(Qo b))) (65536:Int))∧K (Qhb ((Zo (Qde (w64 ((Qo a)*(Qo b))) (65536:Int))).1,(Zo (Qde (w64 ((Qo a)*(Qo b))) (65536:Int))).2)))):Hold (tawp Qt1 (0+0) Quk (TQ 0 0 QEI K) (Qd [(.c TI a),(.c TI b)])) :=
 Hold.of (by kernel_rfl) h
theorem QwZ (a:Int) (b:Int):TCon Tryz.prog 237 [(.c TI a),(.c TI b)] (Qhb (Za a b)):=by
 refine Qi rfl fun hb=>tcg (Γ:=Qt1) (n:=15) (sg:=Qfi.sg) Qj (TOkL.cons Qdd (TOkL.cons Qxe (TOkL.cons QeN TOkL.nil))) (by kernel_rfl) (by kernel_rfl) (QC7 _ a b ?_)
 have h:=Quf a b
 rw [Qv (x:=Qo a*Qo b) (by omega) (by omega)]
 exact ⟨⟨h.1,h.2,rfl⟩,R_eq rfl⟩
theorem Qn0:Qe Tryz.prog Qfi:=Qk fun x _=>QwZ x.1 x.2.1
def Qg3 (t:Int):TRes:=zre (zci t)
def Qhd:TRow:=Qg 259 [(.c TI)] fun x=>(none,Qg3 (Jj x.1))
def Qta:TTab:=⟨[Qaw],false⟩
def QDa:TCode :=
 (zsq [(.reg [zmv 2 (zki 0)]),(.reg [zmv 3 0,zca 4 190 [3],zop 5 (.mm true (zki 0) 4),zmv 2 5]),.ret])
def Qz0:List (ARv × Md):=[(.t 2,.one .d)]
theorem QuD (a:Int) (h :
 K (Qg3 (if (0:Int)<(Qo a) then (Qo a) else (0:Int)))):Hold (tawp Qta (0+0) QDa (TQ 0 0 Qz0 K) (Qd [(.c TI a)])) :=
 Hold.of (by kernel_rfl) h
theorem Qzc (a:Int):TCon Tryz.prog 259 [(.c TI a)] (Qg3 (Jj a)):=by
 refine Qi rfl fun hb=>tcg (Γ:=Qta) (n:=6) (sg:=Qhd.sg) Qj (TOkL.cons Qcs TOkL.nil) (by kernel_rfl) (by kernel_rfl) (QuD _ a ?_)
 exact R_eq rfl
theorem QAe:Qe Tryz.prog Qhd:=Qk fun x _=>Qzc x.1
def Qjd (t:Int):TRes:=zre (zci t)
def Qiy:TRow:=Qg 256 [(.c TI)] fun x=>(none,Qjd (Jj x.1))
def Qsu:TTab:=⟨[Qbe],false⟩
def QyT:TCode :=
 (zsq [(.reg [zmv 2 (zki 0)]),(.reg [zmv 3 0,zca 4 186 [3],zop 5 (.mm true (zki 0) 4),zmv 2 5]),.ret])
def QBQ:List (ARv × Md):=[(.t 2,.one .d)]
theorem QEr (a:Int) (h :
 K (Qjd (if (0:Int)<(Qo a) then (Qo a) else (0:Int)))):Hold (tawp Qsu (0+0) QyT (TQ 0 0 QBQ K) (Qd [(.c TI a)])) :=
 Hold.of (by kernel_rfl) h
theorem QyM (a:Int):TCon Tryz.prog 256 [(.c TI a)] (Qjd (Jj a)):=by
 refine Qi rfl fun hb=>tcg (Γ:=Qsu) (n:=6) (sg:=Qiy.sg) Qj (TOkL.cons Qdd TOkL.nil) (by kernel_rfl) (by kernel_rfl) (QEr _ a ?_)
 exact R_eq rfl
theorem Qwg:Qe Tryz.prog Qiy:=Qk fun x _=>QyM x.1
def QgJ (t:(List Int)):TRes:=⟨(.r [TI] 0 0 t.length),[(.sl 3 [TI] (.dp 0 true []) t)],[],false,[]⟩
def QaP:TRow:=Qg 104 [(.c (.sl [TI]))] fun x=>(some (Qx (α:=List Int) x.1),QgJ (id (α:=List Int) x.1))
def Qnz:TTab:=⟨[],true⟩
def Qxv:TCode :=
 (zsq [(.reg [zmv 2 (.k (.n [TI]))]),(.reg [zop 3 (.bsl 3 [TI] []),zmv 4 0,zop 5 (.app 3 4 3 [TI]),zmv 2 5]),.ret])
def QDF:List (ARv × Md):=[(.t 2,.one (.p 3))]
theorem QFf (l:List Int) (h :
 (((0=0∨0+l.length≤0)∧0+l.length≤big)∧K (QgJ (List.take (0+l.length) (l:List Int))))):Hold (tawp Qnz (0+0) Qxv (TQ 0 0 QDF K) (Qd [(.c (.sl [TI]) l)])) :=
 Hold.of (by kernel_rfl) h
theorem QD1 (l:List Int) (hp:Qx (α:=List Int) l):TCon Tryz.prog 104 [(.c (.sl [TI]) l)] (QgJ (id (α:=List Int) l)):=by
 refine Qi rfl fun hb=>tcg (Γ:=Qnz) (n:=6) (sg:=QaP.sg) Qj TOkL.nil (by kernel_rfl) (by kernel_rfl) (QFf _ l ?_)
 have hl_l:l.length≤9223372036854775807:=hb.1.1
 have hl:=Z8 l
 unfold Qx at hp
 exact ⟨⟨.inl rfl,by rw [ZT];omega⟩,R_eq (by simp)⟩
theorem QbV:Qe Tryz.prog QaP:=Qk fun x h=>QD1 x.1 h
end
end Go.Proofs.YtdplaepmjogjjaaGreat.Am

