/- -/
import Derived.Test.YtdplaepmjogjjaaGreatVDP1
namespace Go.Proofs.YtdplaepmjogjjaaGreat.Am
open Go Go.RowKit Go.Proofs.YtdplaepmjogjjaaGreat
set_option linter.all false
noncomputable section
variable (K:TRes→Prop)
def Qjj (t:Int):TRes:=zre (zci t)
def QbC:TRow:=Qg 190 [(.c TI)] fun x=>(none,Qjj (Qv x.1))
def QsB:TTab:=⟨[],false⟩
def QBb:TCode :=
 (zsq [(.reg [zmv 2 (zki 0)]),(.reg [zmv 3 0,zop 4 (.mm true 3 (zki (-2147483647))),zop 5 (.mm false 4 (zki 2147483647)),zmv 2 5]),.ret])
def QG4:List (ARv × Md):=[(.t 2,.one .d)]
theorem QBG (x:Int) (h :
 K (Qjj (if (2147483647:Int)<(if x<(-2147483647:Int) then (-2147483647:Int) else x) then (2147483647:Int) else (if x<(-2147483647:Int) then (-2147483647:Int) else x)))):Hold (tawp QsB (0+0) QBb (TQ 0 0 QG4 K) (Qd [(.c TI x)])) :=
 Hold.of (by kernel_rfl) h
theorem QBg (x:Int):TCon Tryz.prog 190 [(.c TI x)] (Qjj (Qv x)):=by
 refine Qh rfl fun hb=>tcg (Γ:=QsB) (n:=6) (sg:=QbC.sg) Qi TOkL.nil (by kernel_rfl) (by kernel_rfl) (QBG _ x ?_)
 exact R_eq (QDi x)
theorem Qfy:Qf Tryz.prog QbC:=Qj fun x _=>QBg x.1
def Qhc (t:Int × Bool):TRes:=zre (.tp [(zci t.1),(zcb t.2)])
def Qct:TRow:=Qg 189 [(.c TI)] fun x=>(none,Qhc (ZD x.1))
def Qlf:TTab:=⟨[QbC,Qdb],false⟩
def QxK:TCode :=
 (zsq [(.reg [zmv 2 (zki 0),zmv 3 (zkb false)]),(.reg [zmv 4 0,zca 5 190 [4],zmv 6 0,zca 7 240 [6],zno 8 7,zmv 2 5,zmv 3 8]),.ret])
def QEV:List (ARv × Md):=[(.t 2,.one .d),(.t 3,.one .d)]
theorem QyV (x:Int) (h :
 K (Qhc ((Qv x),(!(Zt x))))):Hold (tawp Qlf (0+0) QxK (TQ 0 0 QEV K) (Qd [(.c TI x)])) :=
 Hold.of (by kernel_rfl) h
theorem QIF (x:Int):TCon Tryz.prog 189 [(.c TI x)] (Qhc (ZD x)):=by
 refine Qh rfl fun hb=>tcg (Γ:=Qlf) (n:=9) (sg:=Qct.sg) Qi (TOkL.cons Qfy (TOkL.cons Qj7 TOkL.nil)) (by kernel_rfl) (by kernel_rfl) (QyV _ x ?_)
 exact R_eq rfl
theorem QhV:Qf Tryz.prog Qct:=Qj fun x _=>QIF x.1
def Qcb (t:Int × Bool):TRes:=zre (.tp [(zci t.1),(zcb t.2)])
def Qbn:TRow:=Qg 185 [(.c TI)] fun x=>(none,Qcb (ZD x.1))
def QqH:TTab:=⟨[],false⟩
def QB0:TCode :=
 (zsq [(.reg [zmv 2 (zki 0),zmv 3 (zkb false)]),(zsq [(.reg [zmv 4 0,zbi 5 .gtr 4 (zki 2147483647)]),(.cond 5 (zsq [(.reg [zmv 2 (zki 2147483647),zmv 3 (zkb true)]),.ret]) .skip)]),(zsq [(.reg [zmv 6 0,zbi 7 .lss 6 (zki (-2147483647))]),(.cond 7 (zsq [(.reg [zmv 2 (zki (-2147483647)),zmv 3 (zkb true)]),.ret]) .skip)]),(.reg [zmv 8 0,zmv 2 8,zmv 3 (zkb false)]),.ret])
def QHr:List (ARv × Md):=[(.t 2,.one .d),(.t 3,.one .d)]
theorem Qv1 (x:Int) (h :
 (zif (decide (x>(2147483647:Int))) (K (Qcb ((2147483647:Int),true))) (zif (decide (x<(-2147483647:Int))) (K (Qcb ((-2147483647:Int),true))) (K (Qcb (x,false)))))):Hold (tawp QqH (0+0) QB0 (TQ 0 0 QHr K) (Qd [(.c TI x)])) :=
 Hold.of (by kernel_rfl) h
theorem QFT (x:Int):TCon Tryz.prog 185 [(.c TI x)] (Qcb (ZD x)):=by
 refine Qh rfl fun hb=>tcg (Γ:=QqH) (n:=9) (sg:=Qbn.sg) Qi TOkL.nil (by kernel_rfl) (by kernel_rfl) (Qv1 _ x ?_)
 refine ⟨fun h=>R_eq ?_,fun h=>⟨fun h2=>R_eq ?_,fun h2=>R_eq ?_⟩⟩
 all_goals (simp at *;simp [ZD,Qv,Zt,iMin,iMax];omega)
theorem Qes:Qf Tryz.prog Qbn:=Qj fun x _=>QFT x.1
def Qiv (t:Int):TRes:=zre (zci t)
def Qcu:TRow:=Qg 186 [(.c TI)] fun x=>(none,Qiv (Qv x.1))
def Qmd:TTab:=⟨[Qbn],false⟩
def QBJ:TCode :=
 (zsq [(.reg [zmv 2 (zki 0)]),(.reg [zmv 6 0,zca 7 185 [6],zmv 5 7,zex 8 5 0,zex 9 5 1,zmv 3 8,zmv 4 9]),(.reg [zmv 10 3,zmv 2 10]),.ret])
def QGd:List (ARv × Md):=[(.t 2,.one .d)]
theorem QGO (x:Int) (h :
 K (Qiv ((ZD x).1))):Hold (tawp Qmd (0+0) QBJ (TQ 0 0 QGd K) (Qd [(.c TI x)])) :=
 Hold.of (by kernel_rfl) h
theorem QH4 (x:Int):TCon Tryz.prog 186 [(.c TI x)] (Qiv (Qv x)):=by
 refine Qh rfl fun hb=>tcg (Γ:=Qmd) (n:=11) (sg:=Qcu.sg) Qi (TOkL.cons Qes TOkL.nil) (by kernel_rfl) (by kernel_rfl) (QGO _ x ?_)
 exact R_eq rfl
theorem QhK:Qf Tryz.prog Qcu:=Qj fun x _=>QH4 x.1
def Qgr (t:Int):TRes:=zre (zci t)
def QjB:TRow:=Qg 263 [(.c TI),(.c TI)] fun x=>(some (Qg9 x.1 x.2.1),Qgr (Qei x.1 x.2.1))
def Qsj:TTab:=⟨[],false⟩
def Qv8:TCode :=
 (zsq [(.reg [zmv 4 (zki 0)]),(.reg [zmv 6 0,zmv 7 1,zbi 8 .quo 6 7,zmv 5 8]),(zsq [(.reg [zmv 9 0,zmv 10 1,zbi 11 .rem 9 10,zbi 12 .neq 11 (zki 0),zmv 13 12,.grp 13 true [zmv 14 0,zbi 15 .lss 14 (zki 0),zmv 16 1,zbi 17 .lss 16 (zki 0),zop 18 (.eqb true 15 17)] 19 18]),(.cond 19 (.reg [zmv 20 5,zbi 21 .sub 20 (zki 1),zmv 5 21]) .skip)]),(.reg [zmv 22 5,zmv 4 22]),.ret])
def QGW:List (ARv × Md):=[(.t 4,.one .d)]
theorem Qyg (a:Int) (b:Int) (h :
 ((¬ (b:Int)=0)∧((¬ (b:Int)=0)∧(zif (((Int.tmod a b) != (0:Int))&&(!((decide (a<(0:Int)))==(decide (b<(0:Int)))))) (K (Qgr (w64 ((w64 (Int.tdiv a b))-(1:Int))))) (K (Qgr (w64 (Int.tdiv a b)))))))):Hold (tawp Qsj (0+0) Qv8 (TQ 0 0 QGW K) (Qd [(.c TI a),(.c TI b)])) :=
 Hold.of (by kernel_rfl) h
theorem QDk (a:Int) (b:Int) (hp:Qg9 a b):TCon Tryz.prog 263 [(.c TI a),(.c TI b)] (Qgr (Qei a b)):=by
 refine Qh rfl fun hb=>tcg (Γ:=Qsj) (n:=23) (sg:=QjB.sg) Qi TOkL.nil (by kernel_rfl) (by kernel_rfl) (Qyg _ a b ?_)
 obtain ⟨h1,h2,rfl⟩:=hp
 have hq:w64 (Int.tdiv a 65536)=Int.tdiv a 65536:=by
  rw [Int.tdiv_eq_ediv];have:Int.sign 65536=1:=rfl;rw [this];exact Qx (by split <;> omega) (by split <;> omega)
 have hq1:w64 (Int.tdiv a 65536-1)=Int.tdiv a 65536-1:=by
  rw [Int.tdiv_eq_ediv];have:Int.sign 65536=1:=rfl;rw [this];exact Qx (by split <;> omega) (by split <;> omega)
 have hf:=QxH a
 rw [hq,hq1]
 refine ⟨by omega,by omega,fun h=>R_eq ?_,fun h=>R_eq ?_⟩
 ·rw [if_pos h] at hf;exact hf
 ·rw [if_neg (by rw [h];simp)] at hf;exact hf
theorem QFK:Qf Tryz.prog QjB:=Qj fun x h=>QDk x.1 x.2.1 h
def Qg7 (t:Int × Bool):TRes:=zre (.tp [(zci t.1),(zcb t.2)])
def Qco:TRow:=Qg 106 [(.c TI),(.c TI)] fun x=>(none,Qg7 (QV x.1 x.2.1))
def QoF:TTab:=⟨[QbC,Qct],false⟩
def QHc:TCode :=
 (zsq [(.reg [zmv 4 (zki 0),zmv 5 (zkb false)]),(.reg [zmv 6 0,zca 7 190 [6],zmv 8 1,zca 9 190 [8],zbi 10 .add 7 9,zca 11 189 [10],zex 12 11 0,zex 13 11 1,zmv 4 12,zmv 5 13]),.ret])
def QyQ:List (ARv × Md):=[(.t 4,.one .d),(.t 5,.one .d)]
theorem QB3 (a:Int) (b:Int) (h :
 K (Qg7 ((ZD (w64 ((Qv a)+(Qv b)))).1,(ZD (w64 ((Qv a)+(Qv b)))).2))):Hold (tawp QoF (0+0) QHc (TQ 0 0 QyQ K) (Qd [(.c TI a),(.c TI b)])) :=
 Hold.of (by kernel_rfl) h
theorem QAy (a:Int) (b:Int):TCon Tryz.prog 106 [(.c TI a),(.c TI b)] (Qg7 (QV a b)):=by
 refine Qh rfl fun hb=>tcg (Γ:=QoF) (n:=14) (sg:=Qco.sg) Qi (TOkL.cons Qfy (TOkL.cons QhV TOkL.nil)) (by kernel_rfl) (by kernel_rfl) (QB3 _ a b ?_)
 have h1:=Ja a
 have h2:=Ja b
 rw [Qx (x:=Qv a+Qv b) (by omega) (by omega)]
 exact R_eq rfl
theorem QjE:Qf Tryz.prog Qco:=Qj fun x _=>QAy x.1 x.2.1
def QjD (t:Int × Bool):TRes:=zre (.tp [(zci t.1),(zcb t.2)])
def Qbk:TRow:=Qg 99 [(.c TI),(.c TI)] fun x=>(none,QjD (QV x.1 x.2.1))
def QlH:TTab:=⟨[Qcu,Qbn],false⟩
def QzF:TCode :=
 (zsq [(.reg [zmv 4 (zki 0),zmv 5 (zkb false)]),(.reg [zmv 6 0,zca 7 186 [6],zmv 8 1,zca 9 186 [8],zbi 10 .add 7 9,zca 11 185 [10],zex 12 11 0,zex 13 11 1,zmv 4 12,zmv 5 13]),.ret])
def QGq:List (ARv × Md):=[(.t 4,.one .d),(.t 5,.one .d)]
theorem QBo (a:Int) (b:Int) (h :
 K (QjD ((ZD (w64 ((Qv a)+(Qv b)))).1,(ZD (w64 ((Qv a)+(Qv b)))).2))):Hold (tawp QlH (0+0) QzF (TQ 0 0 QGq K) (Qd [(.c TI a),(.c TI b)])) :=
 Hold.of (by kernel_rfl) h
theorem QJg (a:Int) (b:Int):TCon Tryz.prog 99 [(.c TI a),(.c TI b)] (QjD (QV a b)):=by
 refine Qh rfl fun hb=>tcg (Γ:=QlH) (n:=14) (sg:=Qbk.sg) Qi (TOkL.cons QhK (TOkL.cons Qes TOkL.nil)) (by kernel_rfl) (by kernel_rfl) (QBo _ a b ?_)
 have h1:=Ja a
 have h2:=Ja b
 rw [Qx (x:=Qv a+Qv b) (by omega) (by omega)]
 exact R_eq rfl
theorem Qgo:Qf Tryz.prog Qbk:=Qj fun x _=>QJg x.1 x.2.1
def Qg3 (t:Int × Bool):TRes:=zre (.tp [(zci t.1),(zcb t.2)])
def QhS:TRow:=Qg 196 [(.c TI),(.c TI)] fun x=>(none,Qg3 (Yr x.1 x.2.1))
def Qlg:TTab:=⟨[QbC,Qct],false⟩
def Qxc:TCode :=
 (zsq [(.reg [zmv 4 (zki 0),zmv 5 (zkb false)]),(.reg [zmv 6 0,zca 7 190 [6],zmv 8 1,zca 9 190 [8],zbi 10 .sub 7 9,zca 11 189 [10],zex 12 11 0,zex 13 11 1,zmv 4 12,zmv 5 13]),.ret])
def QBN:List (ARv × Md):=[(.t 4,.one .d),(.t 5,.one .d)]
theorem QCZ (a:Int) (b:Int) (h :
 K (Qg3 ((ZD (w64 ((Qv a)-(Qv b)))).1,(ZD (w64 ((Qv a)-(Qv b)))).2))):Hold (tawp Qlg (0+0) Qxc (TQ 0 0 QBN K) (Qd [(.c TI a),(.c TI b)])) :=
 Hold.of (by kernel_rfl) h
theorem QCm (a:Int) (b:Int):TCon Tryz.prog 196 [(.c TI a),(.c TI b)] (Qg3 (Yr a b)):=by
 refine Qh rfl fun hb=>tcg (Γ:=Qlg) (n:=14) (sg:=QhS.sg) Qi (TOkL.cons Qfy (TOkL.cons QhV TOkL.nil)) (by kernel_rfl) (by kernel_rfl) (QCZ _ a b ?_)
 have h1:=Ja a
 have h2:=Ja b
 rw [Qx (x:=Qv a-Qv b) (by omega) (by omega)]
 exact R_eq rfl
theorem QAd:Qf Tryz.prog QhS:=Qj fun x _=>QCm x.1 x.2.1
def QkE (t:Int × Bool):TRes:=zre (.tp [(zci t.1),(zcb t.2)])
def Qg5:TRow:=Qg 192 [(.c TI),(.c TI)] fun x=>(none,QkE (Yr x.1 x.2.1))
def QnP:TTab:=⟨[Qcu,Qbn],false⟩
def QBs:TCode :=
 (zsq [(.reg [zmv 4 (zki 0),zmv 5 (zkb false)]),(.reg [zmv 6 0,zca 7 186 [6],zmv 8 1,zca 9 186 [8],zbi 10 .sub 7 9,zca 11 185 [10],zex 12 11 0,zex 13 11 1,zmv 4 12,zmv 5 13]),.ret])
def Qzi:List (ARv × Md):=[(.t 4,.one .d),(.t 5,.one .d)]
theorem QCH (a:Int) (b:Int) (h :
 K (QkE ((ZD (w64 ((Qv a)-(Qv b)))).1,(ZD (w64 ((Qv a)-(Qv b)))).2))):Hold (tawp QnP (0+0) QBs (TQ 0 0 Qzi K) (Qd [(.c TI a),(.c TI b)])) :=
 Hold.of (by kernel_rfl) h
theorem QxW (a:Int) (b:Int):TCon Tryz.prog 192 [(.c TI a),(.c TI b)] (QkE (Yr a b)):=by
 refine Qh rfl fun hb=>tcg (Γ:=QnP) (n:=14) (sg:=Qg5.sg) Qi (TOkL.cons QhK (TOkL.cons Qes TOkL.nil)) (by kernel_rfl) (by kernel_rfl) (QCH _ a b ?_)
 have h1:=Ja a
 have h2:=Ja b
 rw [Qx (x:=Qv a-Qv b) (by omega) (by omega)]
 exact R_eq rfl
theorem QI1:Qf Tryz.prog Qg5:=Qj fun x _=>QxW x.1 x.2.1
def QjO (t:Int × Bool):TRes:=zre (.tp [(zci t.1),(zcb t.2)])
def Qcz:TRow:=Qg 239 [(.c TI),(.c TI)] fun x=>(none,QjO (QW x.1 x.2.1))
def QnA:TTab:=⟨[QbC,Qct],false⟩
def QDC:TCode :=
 (zsq [(.reg [zmv 4 (zki 0),zmv 5 (zkb false)]),(.reg [zmv 6 0,zca 7 190 [6],zmv 8 1,zca 9 190 [8],zbi 10 .mul 7 9,zbi 11 .shr 10 (.k (.c (.int .u64) (16:Int))),zca 12 189 [11],zex 13 12 0,zex 14 12 1,zmv 4 13,zmv 5 14]),.ret])
def QA3:List (ARv × Md):=[(.t 4,.one .d),(.t 5,.one .d)]
theorem QBK (a:Int) (b:Int) (h :
 (((0:Int)≤(16:Int))∧K (QjO ((ZD (Int.fdiv (w64 ((Qv a)*(Qv b))) (2 ^ (min (Int.toNat (16:Int)) (IntKind.i64.bits))))).1,(ZD (Int.fdiv (w64 ((Qv a)*(Qv b))) (2 ^ (min (Int.toNat (16:Int)) (IntKind.i64.bits))))).2)))):Hold (tawp QnA (0+0) QDC (TQ 0 0 QA3 K) (Qd [(.c TI a),(.c TI b)])) :=
 Hold.of (by kernel_rfl) h
theorem QyL (a:Int) (b:Int):TCon Tryz.prog 239 [(.c TI a),(.c TI b)] (QjO (QW a b)):=by
 refine Qh rfl fun hb=>tcg (Γ:=QnA) (n:=15) (sg:=Qcz.sg) Qi (TOkL.cons Qfy (TOkL.cons QhV TOkL.nil)) (by kernel_rfl) (by kernel_rfl) (QBK _ a b ?_)
 have h:=Qmq a b
 rw [Qx (x:=Qv a*Qv b) (by omega) (by omega)]
 exact ⟨by omega,R_eq rfl⟩
theorem Qhd:Qf Tryz.prog Qcz:=Qj fun x _=>QyL x.1 x.2.1
def Qit (t:Int × Bool):TRes:=zre (.tp [(zci t.1),(zcb t.2)])
def Qdl:TRow:=Qg 237 [(.c TI),(.c TI)] fun x=>(none,Qit (QW x.1 x.2.1))
def Qnl:TTab:=⟨[Qcu,QjB,Qbn],false⟩
def QzI:TCode :=
 (zsq [(.reg [zmv 4 (zki 0),zmv 5 (zkb false)]),(.reg [zmv 6 0,zca 7 186 [6],zmv 8 1,zca 9 186 [8],zbi 10 .mul 7 9,zca 11 263 [10,(zki 65536)],zca 12 185 [11],zex 13 12 0,zex 14 12 1,zmv 4 13,zmv 5 14]),.ret])
def QzY:List (ARv × Md):=[(.t 4,.one .d),(.t 5,.one .d)]
theorem QHu (a:Int) (b:Int) (h :
 ((Qg9 (w64 ((Qv a)*(Qv b))) (65536:Int))∧K (Qit ((ZD (Qei (w64 ((Qv a)*(Qv b))) (65536:Int))).1,(ZD (Qei (w64 ((Qv a)*(Qv b))) (65536:Int))).2)))):Hold (tawp Qnl (0+0) QzI (TQ 0 0 QzY K) (Qd [(.c TI a),(.c TI b)])) :=
 Hold.of (by kernel_rfl) h
theorem QKC (a:Int) (b:Int):TCon Tryz.prog 237 [(.c TI a),(.c TI b)] (Qit (QW a b)):=by
 refine Qh rfl fun hb=>tcg (Γ:=Qnl) (n:=15) (sg:=Qdl.sg) Qi (TOkL.cons QhK (TOkL.cons QFK (TOkL.cons Qes TOkL.nil))) (by kernel_rfl) (by kernel_rfl) (QHu _ a b ?_)
 have h:=Qmq a b
 rw [Qx (x:=Qv a*Qv b) (by omega) (by omega)]
 exact ⟨⟨h.1,h.2,rfl⟩,R_eq rfl⟩
theorem Qk2:Qf Tryz.prog Qdl:=Qj fun x _=>QKC x.1 x.2.1
def Qi9 (t:(List Int)):TRes:=⟨(.r [TI] 0 0 t.length),[(.sl 3 [TI] (.dp 0 true []) t)],[],false,[]⟩
def QbW:TRow:=Qg 104 [(.c (.sl [TI]))] fun x=>(some (QH (α:=List Int) x.1),Qi9 (id (α:=List Int) x.1))
def QvV:TTab:=⟨[],true⟩
def QBc:TCode :=
 (zsq [(.reg [zmv 2 (.k (.n [TI]))]),(.reg [zop 3 (.bsl 3 [TI] []),zmv 4 0,zop 5 (.app 3 4 3 [TI]),zmv 2 5]),.ret])
def QEa:List (ARv × Md):=[(.t 2,.one (.p 3))]
theorem QyG (l:List Int) (h :
 (((0=0∨0+l.length≤0)∧0+l.length≤big)∧K (Qi9 (List.take (0+l.length) (l:List Int))))):Hold (tawp QvV (0+0) QBc (TQ 0 0 QEa K) (Qd [(.c (.sl [TI]) l)])) :=
 Hold.of (by kernel_rfl) h
theorem QHL (l:List Int) (hp:QH (α:=List Int) l):TCon Tryz.prog 104 [(.c (.sl [TI]) l)] (Qi9 (id (α:=List Int) l)):=by
 refine Qh rfl fun hb=>tcg (Γ:=QvV) (n:=6) (sg:=QbW.sg) Qi TOkL.nil (by kernel_rfl) (by kernel_rfl) (QyG _ l ?_)
 have hl_l:l.length≤9223372036854775807:=hb.1.1
 have hl:=Z2 l
 unfold QH at hp
 exact ⟨⟨.inl rfl,by rw [Zz];omega⟩,R_eq (by simp)⟩
theorem QeO:Qf Tryz.prog QbW:=Qj fun x h=>QHL x.1 h
end
end Go.Proofs.YtdplaepmjogjjaaGreat.Am

