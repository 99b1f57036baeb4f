/- -/
import Derived.Test.YtdplaepmjogjjaaGreatVAP1
namespace Go.Proofs.YtdplaepmjogjjaaGreat.Am
open Go Go.RowKit Go.Proofs.YtdplaepmjogjjaaGreat
set_option linter.all false
noncomputable section
variable (K:TRes→Prop)
def Qjp (t:Int):TRes:=zre (zci t)
def Qbe:TRow:=Qh 190 [(.c TI)] fun x=>(none,Qjp (Qt x.1))
def QrT:TTab:=⟨[],false⟩
def QEg:TCode :=
 (zsq [(.reg [zmv 2 (zki 0)]),(.reg [zmv 3 0,zop 4 (.mm true 3 (zki (-2147483647))),zop 5 (.mm false 4 (zki 2147483647)),zmv 2 5]),.ret])
def QAp:List (ARv × Md):=[(.t 2,.one .d)]
theorem QDX (x:Int) (h :
 K (Qjp (if (2147483647:Int)<(if x<(-2147483647:Int) then (-2147483647:Int) else x) then (2147483647:Int) else (if x<(-2147483647:Int) then (-2147483647:Int) else x)))):Hold (tawp QrT (0+0) QEg (TQ 0 0 QAp K) (Qf [(.c TI x)])) :=
 Hold.of (by kernel_rfl) h
theorem Quv (x:Int):TCon Tryz.prog 190 [(.c TI x)] (Qjp (Qt x)):=by
 refine Qj rfl fun hb=>tcg (Γ:=QrT) (n:=6) (sg:=Qbe.sg) Qi TOkL.nil (by kernel_rfl) (by kernel_rfl) (QDX _ x ?_)
 exact R_eq (QFe x)
theorem Qfs:Qg Tryz.prog Qbe:=Qk fun x _=>Quv x.1
def Qf7 (t:Int × Bool):TRes:=zre (.tp [(zci t.1),(zcb t.2)])
def QcQ:TRow:=Qh 189 [(.c TI)] fun x=>(none,Qf7 (ZA x.1))
def Qsn:TTab:=⟨[Qbe,Qbr],false⟩
def QxK:TCode :=
 (zsq [(.reg [zmv 2 (zki 0),zmv 3 (zkb false)]),(.reg [zmv 4 0,zca 5 190 [4],zmv 6 0,zca 7 240 [6],zno 8 7,zmv 2 5,zmv 3 8]),.ret])
def QBK:List (ARv × Md):=[(.t 2,.one .d),(.t 3,.one .d)]
theorem QAK (x:Int) (h :
 K (Qf7 ((Qt x),(!(Q5 x))))):Hold (tawp Qsn (0+0) QxK (TQ 0 0 QBK K) (Qf [(.c TI x)])) :=
 Hold.of (by kernel_rfl) h
theorem QEN (x:Int):TCon Tryz.prog 189 [(.c TI x)] (Qf7 (ZA x)):=by
 refine Qj rfl fun hb=>tcg (Γ:=Qsn) (n:=9) (sg:=QcQ.sg) Qi (TOkL.cons Qfs (TOkL.cons Qje TOkL.nil)) (by kernel_rfl) (by kernel_rfl) (QAK _ x ?_)
 exact R_eq rfl
theorem QlF:Qg Tryz.prog QcQ:=Qk fun x _=>QEN x.1
def Qbv (t:Int × Bool):TRes:=zre (.tp [(zci t.1),(zcb t.2)])
def QbN:TRow:=Qh 185 [(.c TI)] fun x=>(none,Qbv (ZA x.1))
def Qmq:TTab:=⟨[],false⟩
def Qy0:TCode :=
 (zsq [(.reg [zmv 2 (zki 0),zmv 3 (zkb false)]),(zsq [(.reg [zmv 4 0,zbi 5 .gtr 4 (zki 2147483647)]),(.cond 5 (zsq [(.reg [zmv 2 (zki 2147483647),zmv 3 (zkb true)]),.ret]) .skip)]),(zsq [(.reg [zmv 6 0,zbi 7 .lss 6 (zki (-2147483647))]),(.cond 7 (zsq [(.reg [zmv 2 (zki (-2147483647)),zmv 3 (zkb true)]),.ret]) .skip)]),(.reg [zmv 8 0,zmv 2 8,zmv 3 (zkb false)]),.ret])
def QzB:List (ARv × Md):=[(.t 2,.one .d),(.t 3,.one .d)]
theorem QE0 (x:Int) (h :
 (zif (decide (x>(2147483647:Int))) (K (Qbv ((2147483647:Int),true))) (zif (decide (x<(-2147483647:Int))) (K (Qbv ((-2147483647:Int),true))) (K (Qbv (x,false)))))):Hold (tawp Qmq (0+0) Qy0 (TQ 0 0 QzB K) (Qf [(.c TI x)])) :=
 Hold.of (by kernel_rfl) h
theorem Qxs (x:Int):TCon Tryz.prog 185 [(.c TI x)] (Qbv (ZA x)):=by
 refine Qj rfl fun hb=>tcg (Γ:=Qmq) (n:=9) (sg:=QbN.sg) Qi TOkL.nil (by kernel_rfl) (by kernel_rfl) (QE0 _ x ?_)
 refine ⟨fun h=>R_eq ?_,fun h=>⟨fun h2=>R_eq ?_,fun h2=>R_eq ?_⟩⟩
 all_goals (simp at *;simp [ZA,Qt,Q5,iMin,iMax];omega)
theorem QfV:Qg Tryz.prog QbN:=Qk fun x _=>Qxs x.1
def Qh3 (t:Int):TRes:=zre (zci t)
def QcJ:TRow:=Qh 186 [(.c TI)] fun x=>(none,Qh3 (Qt x.1))
def Qo1:TTab:=⟨[QbN],false⟩
def QCv:TCode :=
 (zsq [(.reg [zmv 2 (zki 0)]),(.reg [zmv 6 0,zca 7 185 [6],zmv 5 7,zex 8 5 0,zex 9 5 1,zmv 3 8,zmv 4 9]),(.reg [zmv 10 3,zmv 2 10]),.ret])
def Qzt:List (ARv × Md):=[(.t 2,.one .d)]
theorem QFO (x:Int) (h :
 K (Qh3 ((ZA x).1))):Hold (tawp Qo1 (0+0) QCv (TQ 0 0 Qzt K) (Qf [(.c TI x)])) :=
 Hold.of (by kernel_rfl) h
theorem QyN (x:Int):TCon Tryz.prog 186 [(.c TI x)] (Qh3 (Qt x)):=by
 refine Qj rfl fun hb=>tcg (Γ:=Qo1) (n:=11) (sg:=QcJ.sg) Qi (TOkL.cons QfV TOkL.nil) (by kernel_rfl) (by kernel_rfl) (QFO _ x ?_)
 exact R_eq rfl
theorem Qip:Qg Tryz.prog QcJ:=Qk fun x _=>QyN x.1
def Qe6 (t:Int):TRes:=zre (zci t)
def Qhm:TRow:=Qh 263 [(.c TI),(.c TI)] fun x=>(some (QhS x.1 x.2.1),Qe6 (Qfc x.1 x.2.1))
def QpX:TTab:=⟨[],false⟩
def QxE:TCode :=
 (zsq [(.reg [zmv 4 (zki 0)]),(.reg [zmv 6 0,zmv 7 1,zbi 8 .quo 6 7,zmv 5 8]),(zsq [(.reg [zmv 9 0,zmv 10 1,zbi 11 .rem 9 10,zbi 12 .neq 11 (zki 0),zmv 13 12,.grp 13 true [zmv 14 0,zbi 15 .lss 14 (zki 0),zmv 16 1,zbi 17 .lss 16 (zki 0),zop 18 (.eqb true 15 17)] 19 18]),(.cond 19 (.reg [zmv 20 5,zbi 21 .sub 20 (zki 1),zmv 5 21]) .skip)]),(.reg [zmv 22 5,zmv 4 22]),.ret])
def QBG:List (ARv × Md):=[(.t 4,.one .d)]
theorem QDt (a:Int) (b:Int) (h :
 ((¬ (b:Int)=0)∧((¬ (b:Int)=0)∧(zif (((Int.tmod a b) != (0:Int))&&(!((decide (a<(0:Int)))==(decide (b<(0:Int)))))) (K (Qe6 (w64 ((w64 (Int.tdiv a b))-(1:Int))))) (K (Qe6 (w64 (Int.tdiv a b)))))))):Hold (tawp QpX (0+0) QxE (TQ 0 0 QBG K) (Qf [(.c TI a),(.c TI b)])) :=
 Hold.of (by kernel_rfl) h
theorem QAD (a:Int) (b:Int) (hp:QhS a b):TCon Tryz.prog 263 [(.c TI a),(.c TI b)] (Qe6 (Qfc a b)):=by
 refine Qj rfl fun hb=>tcg (Γ:=QpX) (n:=23) (sg:=Qhm.sg) Qi TOkL.nil (by kernel_rfl) (by kernel_rfl) (QDt _ a b ?_)
 obtain ⟨h1,h2,rfl⟩:=hp
 have hq:w64 (Int.tdiv a 65536)=Int.tdiv a 65536:=by
  rw [Int.tdiv_eq_ediv];have:Int.sign 65536=1:=rfl;rw [this];exact Qv (by split <;> omega) (by split <;> omega)
 have hq1:w64 (Int.tdiv a 65536-1)=Int.tdiv a 65536-1:=by
  rw [Int.tdiv_eq_ediv];have:Int.sign 65536=1:=rfl;rw [this];exact Qv (by split <;> omega) (by split <;> omega)
 have hf:=QuL a
 rw [hq,hq1]
 refine ⟨by omega,by omega,fun h=>R_eq ?_,fun h=>R_eq ?_⟩
 ·rw [if_pos h] at hf;exact hf
 ·rw [if_neg (by rw [h];simp)] at hf;exact hf
theorem QBE:Qg Tryz.prog Qhm:=Qk fun x h=>QAD x.1 x.2.1 h
def QfI (t:Int × Bool):TRes:=zre (.tp [(zci t.1),(zcb t.2)])
def QfB:TRow:=Qh 106 [(.c TI),(.c TI)] fun x=>(none,QfI (Q7 x.1 x.2.1))
def QoK:TTab:=⟨[Qbe,QcQ],false⟩
def QBo:TCode :=
 (zsq [(.reg [zmv 4 (zki 0),zmv 5 (zkb false)]),(.reg [zmv 6 0,zca 7 190 [6],zmv 8 1,zca 9 190 [8],zbi 10 .add 7 9,zca 11 189 [10],zex 12 11 0,zex 13 11 1,zmv 4 12,zmv 5 13]),.ret])
def QFg:List (ARv × Md):=[(.t 4,.one .d),(.t 5,.one .d)]
theorem QEh (a:Int) (b:Int) (h :
 K (QfI ((ZA (w64 ((Qt a)+(Qt b)))).1,(ZA (w64 ((Qt a)+(Qt b)))).2))):Hold (tawp QoK (0+0) QBo (TQ 0 0 QFg K) (Qf [(.c TI a),(.c TI b)])) :=
 Hold.of (by kernel_rfl) h
theorem QvM (a:Int) (b:Int):TCon Tryz.prog 106 [(.c TI a),(.c TI b)] (QfI (Q7 a b)):=by
 refine Qj rfl fun hb=>tcg (Γ:=QoK) (n:=14) (sg:=QfB.sg) Qi (TOkL.cons Qfs (TOkL.cons QlF TOkL.nil)) (by kernel_rfl) (by kernel_rfl) (QEh _ a b ?_)
 have h1:=Qbj a
 have h2:=Qbj b
 rw [Qv (x:=Qt a+Qt b) (by omega) (by omega)]
 exact R_eq rfl
theorem QmE:Qg Tryz.prog QfB:=Qk fun x _=>QvM x.1 x.2.1
def Qf8 (t:Int × Bool):TRes:=zre (.tp [(zci t.1),(zcb t.2)])
def Qd1:TRow:=Qh 99 [(.c TI),(.c TI)] fun x=>(none,Qf8 (Q7 x.1 x.2.1))
def Qs4:TTab:=⟨[QcJ,QbN],false⟩
def QAQ:TCode :=
 (zsq [(.reg [zmv 4 (zki 0),zmv 5 (zkb false)]),(.reg [zmv 6 0,zca 7 186 [6],zmv 8 1,zca 9 186 [8],zbi 10 .add 7 9,zca 11 185 [10],zex 12 11 0,zex 13 11 1,zmv 4 12,zmv 5 13]),.ret])
def Qvl:List (ARv × Md):=[(.t 4,.one .d),(.t 5,.one .d)]
theorem Qxe (a:Int) (b:Int) (h :
 K (Qf8 ((ZA (w64 ((Qt a)+(Qt b)))).1,(ZA (w64 ((Qt a)+(Qt b)))).2))):Hold (tawp Qs4 (0+0) QAQ (TQ 0 0 Qvl K) (Qf [(.c TI a),(.c TI b)])) :=
 Hold.of (by kernel_rfl) h
theorem QBC (a:Int) (b:Int):TCon Tryz.prog 99 [(.c TI a),(.c TI b)] (Qf8 (Q7 a b)):=by
 refine Qj rfl fun hb=>tcg (Γ:=Qs4) (n:=14) (sg:=Qd1.sg) Qi (TOkL.cons Qip (TOkL.cons QfV TOkL.nil)) (by kernel_rfl) (by kernel_rfl) (Qxe _ a b ?_)
 have h1:=Qbj a
 have h2:=Qbj b
 rw [Qv (x:=Qt a+Qt b) (by omega) (by omega)]
 exact R_eq rfl
theorem QjT:Qg Tryz.prog Qd1:=Qk fun x _=>QBC x.1 x.2.1
def Qh6 (t:Int × Bool):TRes:=zre (.tp [(zci t.1),(zcb t.2)])
def QdG:TRow:=Qh 239 [(.c TI),(.c TI)] fun x=>(none,Qh6 (Q2 x.1 x.2.1))
def QlX:TTab:=⟨[Qbe,QcQ],false⟩
def QCS:TCode :=
 (zsq [(.reg [zmv 4 (zki 0),zmv 5 (zkb false)]),(.reg [zmv 6 0,zca 7 190 [6],zmv 8 1,zca 9 190 [8],zbi 10 .mul 7 9,zbi 11 .shr 10 (.k (.c (.int .u64) (16:Int))),zca 12 189 [11],zex 13 12 0,zex 14 12 1,zmv 4 13,zmv 5 14]),.ret])
def QwV:List (ARv × Md):=[(.t 4,.one .d),(.t 5,.one .d)]
theorem Qw9 (a:Int) (b:Int) (h :
 (((0:Int)≤(16:Int))∧K (Qh6 ((ZA (Int.fdiv (w64 ((Qt a)*(Qt b))) (2 ^ (min (Int.toNat (16:Int)) (IntKind.i64.bits))))).1,(ZA (Int.fdiv (w64 ((Qt a)*(Qt b))) (2 ^ (min (Int.toNat (16:Int)) (IntKind.i64.bits))))).2)))):Hold (tawp QlX (0+0) QCS (TQ 0 0 QwV K) (Qf [(.c TI a),(.c TI b)])) :=
 Hold.of (by kernel_rfl) h
theorem Qxn (a:Int) (b:Int):TCon Tryz.prog 239 [(.c TI a),(.c TI b)] (Qh6 (Q2 a b)):=by
 refine Qj rfl fun hb=>tcg (Γ:=QlX) (n:=15) (sg:=QdG.sg) Qi (TOkL.cons Qfs (TOkL.cons QlF TOkL.nil)) (by kernel_rfl) (by kernel_rfl) (Qw9 _ a b ?_)
 have h:=Qp2 a b
 rw [Qv (x:=Qt a*Qt b) (by omega) (by omega)]
 exact ⟨by omega,R_eq rfl⟩
theorem Qla:Qg Tryz.prog QdG:=Qk fun x _=>Qxn x.1 x.2.1
def Qgz (t:Int × Bool):TRes:=zre (.tp [(zci t.1),(zcb t.2)])
def QdS:TRow:=Qh 237 [(.c TI),(.c TI)] fun x=>(none,Qgz (Q2 x.1 x.2.1))
def Qqt:TTab:=⟨[QcJ,Qhm,QbN],false⟩
def QwH:TCode :=
 (zsq [(.reg [zmv 4 (zki 0),zmv 5 (zkb false)]),(.reg [zmv 6 0,zca 7 186 [6],zmv 8 1,zca 9 186 [8],zbi 10 .mul 7 9,zca 11 263 [10,(zki 65536)],zca 12 185 [11],zex 13 12 0,zex 14 12 1,zmv 4 13,zmv 5 14]),.ret])
def QFX:List (ARv × Md):=[(.t 4,.one .d),(.t 5,.one .d)]
theorem QyL (a:Int) (b:Int) (h :
 ((QhS (w64 ((Qt a)*(Qt b))) (65536:Int))∧K (Qgz ((ZA (Qfc (w64 ((Qt a)*(Qt b))) (65536:Int))).1,(ZA (Qfc (w64 ((Qt a)*(Qt b))) (65536:Int))).2)))):Hold (tawp Qqt (0+0) QwH (TQ 0 0 QFX K) (Qf [(.c TI a),(.c TI b)])) :=
 Hold.of (by kernel_rfl) h
theorem Qwh (a:Int) (b:Int):TCon Tryz.prog 237 [(.c TI a),(.c TI b)] (Qgz (Q2 a b)):=by
 refine Qj rfl fun hb=>tcg (Γ:=Qqt) (n:=15) (sg:=QdS.sg) Qi (TOkL.cons Qip (TOkL.cons QBE (TOkL.cons QfV TOkL.nil))) (by kernel_rfl) (by kernel_rfl) (QyL _ a b ?_)
 have h:=Qp2 a b
 rw [Qv (x:=Qt a*Qt b) (by omega) (by omega)]
 exact ⟨⟨h.1,h.2,rfl⟩,R_eq rfl⟩
theorem Qp9:Qg Tryz.prog QdS:=Qk fun x _=>Qwh x.1 x.2.1
def Qjj (t:Int):TRes:=zre (zci t)
def Qg6:TRow:=Qh 259 [(.c TI)] fun x=>(none,Qjj (YP x.1))
def Qpf:TTab:=⟨[Qbe],false⟩
def QCG:TCode :=
 (zsq [(.reg [zmv 2 (zki 0)]),(.reg [zmv 3 0,zca 4 190 [3],zop 5 (.mm true (zki 0) 4),zmv 2 5]),.ret])
def QzD:List (ARv × Md):=[(.t 2,.one .d)]
theorem Qy7 (a:Int) (h :
 K (Qjj (if (0:Int)<(Qt a) then (Qt a) else (0:Int)))):Hold (tawp Qpf (0+0) QCG (TQ 0 0 QzD K) (Qf [(.c TI a)])) :=
 Hold.of (by kernel_rfl) h
theorem QD2 (a:Int):TCon Tryz.prog 259 [(.c TI a)] (Qjj (YP a)):=by
 refine Qj rfl fun hb=>tcg (Γ:=Qpf) (n:=6) (sg:=Qg6.sg) Qi (TOkL.cons Qfs TOkL.nil) (by kernel_rfl) (by kernel_rfl) (Qy7 _ a ?_)
 exact R_eq rfl
theorem QtI:Qg Tryz.prog Qg6:=Qk fun x _=>QD2 x.1
def QfR (t:Int):TRes:=zre (zci t)
def QiT:TRow:=Qh 256 [(.c TI)] fun x=>(none,QfR (YP x.1))
def QqQ:TTab:=⟨[QcJ],false⟩
def QFq:TCode :=
 (zsq [(.reg [zmv 2 (zki 0)]),(.reg [zmv 3 0,zca 4 186 [3],zop 5 (.mm true (zki 0) 4),zmv 2 5]),.ret])
def Qz5:List (ARv × Md):=[(.t 2,.one .d)]
theorem QGB (a:Int) (h :
 K (QfR (if (0:Int)<(Qt a) then (Qt a) else (0:Int)))):Hold (tawp QqQ (0+0) QFq (TQ 0 0 Qz5 K) (Qf [(.c TI a)])) :=
 Hold.of (by kernel_rfl) h
theorem QAc (a:Int):TCon Tryz.prog 256 [(.c TI a)] (QfR (YP a)):=by
 refine Qj rfl fun hb=>tcg (Γ:=QqQ) (n:=6) (sg:=QiT.sg) Qi (TOkL.cons Qip TOkL.nil) (by kernel_rfl) (by kernel_rfl) (QGB _ a ?_)
 exact R_eq rfl
theorem QBW:Qg Tryz.prog QiT:=Qk fun x _=>QAc x.1
def QhV (t:(List Int)):TRes:=⟨(.r [TI] 0 0 t.length),[(.sl 3 [TI] (.dp 0 true []) t)],[],false,[]⟩
def Qa8:TRow:=Qh 104 [(.c (.sl [TI]))] fun x=>(some (Qw (α:=List Int) x.1),QhV (id (α:=List Int) x.1))
def QoM:TTab:=⟨[],true⟩
def Qy5:TCode :=
 (zsq [(.reg [zmv 2 (.k (.n [TI]))]),(.reg [zop 3 (.bsl 3 [TI] []),zmv 4 0,zop 5 (.app 3 4 3 [TI]),zmv 2 5]),.ret])
def QzT:List (ARv × Md):=[(.t 2,.one (.p 3))]
theorem QyF (l:List Int) (h :
 (((0=0∨0+l.length≤0)∧0+l.length≤big)∧K (QhV (List.take (0+l.length) (l:List Int))))):Hold (tawp QoM (0+0) Qy5 (TQ 0 0 QzT K) (Qf [(.c (.sl [TI]) l)])) :=
 Hold.of (by kernel_rfl) h
theorem Qz0 (l:List Int) (hp:Qw (α:=List Int) l):TCon Tryz.prog 104 [(.c (.sl [TI]) l)] (QhV (id (α:=List Int) l)):=by
 refine Qj rfl fun hb=>tcg (Γ:=QoM) (n:=6) (sg:=Qa8.sg) Qi TOkL.nil (by kernel_rfl) (by kernel_rfl) (QyF _ l ?_)
 have hl_l:l.length≤9223372036854775807:=hb.1.1
 have hl:=YA l
 unfold Qw at hp
 exact ⟨⟨.inl rfl,by rw [Yt];omega⟩,R_eq (by simp)⟩
theorem Qdc:Qg Tryz.prog Qa8:=Qk fun x h=>Qz0 x.1 h
end
end Go.Proofs.YtdplaepmjogjjaaGreat.Am

