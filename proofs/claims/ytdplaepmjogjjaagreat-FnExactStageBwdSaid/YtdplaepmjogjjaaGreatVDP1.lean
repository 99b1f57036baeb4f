/- -/
import Derived.Test.YtdplaepmjogjjaaGreatVDG8
namespace Go.Proofs.YtdplaepmjogjjaaGreat.Am
open Go Go.RowKit Go.Proofs.YtdplaepmjogjjaaGreat
set_option linter.all false
noncomputable section
variable (K:TRes→Prop)
def QiU (t:Bool):TRes:=zre (zcb t)
def Ji:TRow:=Qg 158 [(.c TI),(.c TI),(.c TI)] fun x=>(none,QiU (m_in x.1 x.2.1 x.2.2.1))
def Qn6:TTab:=⟨[],false⟩
def QwV:TCode :=
 (zsq [(.reg [zmv 6 (zkb false)]),(.reg [zmv 7 0,zmv 8 1,zbi 9 .geq 7 8,zmv 10 9,.grp 10 true [zmv 11 0,zmv 12 2,zbi 13 .leq 11 12] 14 13,zmv 6 14]),.ret])
def QH1:List (ARv × Md):=[(.t 6,.one .d)]
theorem QDA (x:Int) (low:Int) (high:Int) (h :
 K (QiU ((decide (x≥low))&&(decide (x≤high))))):Hold (tawp Qn6 (0+0) QwV (TQ 0 0 QH1 K) (Qd [(.c TI x),(.c TI low),(.c TI high)])) :=
 Hold.of (by kernel_rfl) h
theorem QIf (x:Int) (low:Int) (high:Int):TCon Tryz.prog 158 [(.c TI x),(.c TI low),(.c TI high)] (QiU (m_in x low high)):=by
 refine Qh rfl fun hb=>tcg (Γ:=Qn6) (n:=15) (sg:=Ji.sg) Qi TOkL.nil (by kernel_rfl) (by kernel_rfl) (QDA _ x low high ?_)
 exact R_eq rfl
theorem Qa6:Qf Tryz.prog Ji:=Qj fun x _=>QIf x.1 x.2.1 x.2.2.1
def Qjq (t:Bool):TRes:=zre (zcb t)
def QbD:TRow:=Qg 183 [(.c TI)] fun x=>(none,Qjq (Zt x.1))
def Ql2:TTab:=⟨[Ji],false⟩
def QHD:TCode :=
 (zsq [(.reg [zmv 2 (zkb false)]),(.reg [zmv 3 0,zca 4 158 [3,(zki (-2147483647)),(zki 2147483647)],zmv 2 4]),.ret])
def QFq:List (ARv × Md):=[(.t 2,.one .d)]
theorem QEl (x:Int) (h :
 K (Qjq (m_in x (-2147483647:Int) (2147483647:Int)))):Hold (tawp Ql2 (0+0) QHD (TQ 0 0 QFq K) (Qd [(.c TI x)])) :=
 Hold.of (by kernel_rfl) h
theorem QzA (x:Int):TCon Tryz.prog 183 [(.c TI x)] (Qjq (Zt x)):=by
 refine Qh rfl fun hb=>tcg (Γ:=Ql2) (n:=5) (sg:=QbD.sg) Qi (TOkL.cons Qa6 TOkL.nil) (by kernel_rfl) (by kernel_rfl) (QEl _ x ?_)
 exact R_eq rfl
theorem Qfr:Qf Tryz.prog QbD:=Qj fun x _=>QzA x.1
def Qi5 (t:Bool):TRes:=zre (zcb t)
def Qdb:TRow:=Qg 240 [(.c TI)] fun x=>(none,Qi5 (Zt x.1))
def QuZ:TTab:=⟨[],false⟩
def QBW:TCode :=
 (zsq [(.reg [zmv 2 (zkb false)]),(.reg [zmv 3 0,zbi 4 .geq 3 (zki (-2147483647)),zmv 5 4,.grp 5 true [zmv 6 0,zbi 7 .leq 6 (zki 2147483647)] 8 7,zmv 2 8]),.ret])
def QJj:List (ARv × Md):=[(.t 2,.one .d)]
theorem Qwu (x:Int) (h :
 K (Qi5 ((decide (x≥(-2147483647:Int)))&&(decide (x≤(2147483647:Int)))))):Hold (tawp QuZ (0+0) QBW (TQ 0 0 QJj K) (Qd [(.c TI x)])) :=
 Hold.of (by kernel_rfl) h
theorem Qy5 (x:Int):TCon Tryz.prog 240 [(.c TI x)] (Qi5 (Zt x)):=by
 refine Qh rfl fun hb=>tcg (Γ:=QuZ) (n:=9) (sg:=Qdb.sg) Qi TOkL.nil (by kernel_rfl) (by kernel_rfl) (Qwu _ x ?_)
 exact R_eq rfl
theorem Qj7:Qf Tryz.prog Qdb:=Qj fun x _=>Qy5 x.1
def Qbj (t:Bool):TRes:=zre (zcb t)
def QcO:TRow:=Qg 238 [(.c (.sl [TI]))] fun x=>(none,Qbj (ZH x.1))
def Qej:TTab:=⟨[Qdb],false⟩
def Qp0:TCode :=
 (zsq [(.reg [zbi 8 .lss 7 6]),(.cond 8 .skip (.exit 0)),(.block 1 (zsq [(.reg [zia 9 5 7 [TI],zld 10 9 1,zmv 4 10]),(.reg [zmv 11 4,zca 12 240 [11],zno 13 12]),(.cond 13 (zsq [(.reg [zmv 2 (zkb false)]),.ret]) .skip)])),(.reg [zbi 14 .add 7 (zki 1),zmv 7 14])])
def Qtk:List (Nat × Md):=zdl [5,6,7]
def Qqy:TCode :=
 (zsq [(.reg [zmv 2 (zkb true)]),.ret])
def QIC:TCode :=
 (zsq [(.reg [zmv 2 (zkb false)]),(zsq [(.reg [zmv 5 0,zle 6 5,zmv 7 (zki 0)]),(.block 0 (.loop Qtk Qp0))]),Qqy])
def QtQ:List (ARv × Md):=[(.t 2,.one .d)]
def Quu:Qb:=TQ 0 0 QtQ K
def Qw8:Qb:=Qseq (tawp Qej 0 Qqy (Quu K)) (Quu K)
def QDv:Qb:=Qblk 0 (Qw8 K)
def Qh6 (v:List Int) (x:Int):Prop:=Loop Qej 0 Qtk Qp0 (QDv K) ⟨[(5,(zcs [TI] v)),(6,(zci (v.length:Int))),(7,(zci x))],[],0⟩
theorem QAl (v:List Int) (x:Int) (h :
 (zif (decide (x<(v.length:Int))) (((0:Int)≤x∧Int.toNat x<v.length)∧(zif (!(Zt (gtd (0:Int) v (Int.toNat x)))) (K (Qbj false)) (Qh6 K v (w64 (x+(1:Int)))))) (K (Qbj true)))):Qh6 K v x :=
 Loop.of (by kernel_rfl) h
theorem QHd (v:List Int) (h :
 (Qh6 K v 0)):Hold (tawp Qej (0+0) QIC (TQ 0 0 QtQ K) (Qd [(.c (.sl [TI]) v)])) :=
 Hold.of (by kernel_rfl) h
theorem Qwy (v:List Int):TCon Tryz.prog 238 [(.c (.sl [TI]) v)] (Qbj (ZH v)):=by
 refine Qh rfl fun hb=>tcg (Γ:=Qej) (n:=15) (sg:=QcO.sg) Qi (TOkL.cons Qj7 TOkL.nil) (by kernel_rfl) (by kernel_rfl) (QHd _ v ?_)
 have hl_v:v.length≤9223372036854775807:=hb.1.1
 exact QfS (Q:=fun x=>Qbj x=Qbj (ZH v)) (p:=Zt) (c:=fun x=>!(Zt x)) 0 hl_v (fun _=>rfl) (fun i h=>QAl _ v i h) (R_eq (by simp [ZH]))
theorem QkU:Qf Tryz.prog QcO:=Qj fun x _=>Qwy x.1
def Qbi (t:Bool):TRes:=zre (zcb t)
def YU:TRow:=Qg 97 [(.c (.sl [TI]))] fun x=>(none,Qbi (QA x.1))
def Qgz:TTab:=⟨[QbD,Ji],false⟩
def Quh:TCode :=
 (zsq [(zsq [(.reg [zmv 4 3,zmv 5 0,zle 6 5,zbi 7 .lss 4 6]),(.cond 7 .skip (.exit 0))]),(.block 1 (zsq [(.reg [zmv 10 0,zmv 11 3,zia 12 10 11 [TI],zld 13 12 1,zca 14 183 [13],zno 15 14]),(.cond 15 (zsq [(.reg [zmv 2 (zkb false)]),.ret]) .skip)])),(.reg [zmv 8 3,zbi 9 .add 8 (zki 1),zmv 3 9])])
def Qub:List (Nat × Md):=zdl [0,3]
def Qpt:TCode :=
 (zsq [(.reg [zmv 16 0,zle 17 16,zca 18 158 [17,(zki 1),(zki 6)],zmv 2 18]),.ret])
def QCP:TCode :=
 (zsq [(.reg [zmv 2 (zkb false)]),(zsq [(.reg [zmv 3 (zki 0)]),(.block 0 (.loop Qub Quh))]),Qpt])
def QvH:List (ARv × Md):=[(.t 2,.one .d)]
def QtF:Qb:=TQ 0 0 QvH K
def Qz7:Qb:=Qseq (tawp Qgz 0 Qpt (QtF K)) (QtF K)
def QyB:Qb:=Qblk 0 (Qz7 K)
def Qiq (v:List Int) (i:Int):Prop:=Loop Qgz 0 Qub Quh (QyB K) ⟨[(0,(zcs [TI] v)),(3,(zci i))],[],0⟩
theorem QAq (v:List Int) (i:Int) (h :
 (zif (decide (i<(v.length:Int))) (((0:Int)≤i∧Int.toNat i<v.length)∧(zif (!(Zt (gtd (0:Int) v (Int.toNat i)))) (K (Qbi false)) (Qiq K v (w64 (i+(1:Int)))))) (K (Qbi (m_in (v.length:Int) (1:Int) (6:Int)))))):Qiq K v i :=
 Loop.of (by kernel_rfl) h
theorem QJL (v:List Int) (h :
 (Qiq K v 0)):Hold (tawp Qgz (0+0) QCP (TQ 0 0 QvH K) (Qd [(.c (.sl [TI]) v)])) :=
 Hold.of (by kernel_rfl) h
theorem Qze (v:List Int):TCon Tryz.prog 97 [(.c (.sl [TI]) v)] (Qbi (QA v)):=by
 refine Qh rfl fun hb=>tcg (Γ:=Qgz) (n:=19) (sg:=YU.sg) Qi (TOkL.cons Qfr (TOkL.cons Qa6 TOkL.nil)) (by kernel_rfl) (by kernel_rfl) (QJL _ v ?_)
 have hl_v:v.length≤9223372036854775807:=hb.1.1
 exact QfS (Q:=fun x=>Qbi x=Qbi (QA v)) (p:=Zt) (c:=fun x=>!(Zt x)) 0 hl_v (fun _=>rfl) (fun i h=>QAq _ v i h) (R_eq (by grind [QA,ZH]))
theorem JW:Qf Tryz.prog YU:=Qj fun x _=>Qze x.1
def Qh5 (t:Bool):TRes:=zre (zcb t)
def QbV:TRow:=Qg 187 [(.c (.sl [TI]))] fun x=>(none,Qh5 (QA x.1))
def QsG:TTab:=⟨[QcO],false⟩
def QJK:TCode :=
 (zsq [(.reg [zmv 2 (zkb false)]),(.reg [zmv 3 0,zle 4 3,zbi 5 .geq 4 (zki 1),zmv 6 5,.grp 6 true [zmv 7 0,zle 8 7,zbi 9 .leq 8 (zki 6)] 10 9,zmv 11 10,.grp 11 true [zmv 12 0,zca 13 238 [12]] 14 13,zmv 2 14]),.ret])
def QDw:List (ARv × Md):=[(.t 2,.one .d)]
theorem QwE (v:List Int) (h :
 K (Qh5 (((decide ((v.length:Int)≥(1:Int)))&&(decide ((v.length:Int)≤(6:Int))))&&(ZH v)))):Hold (tawp QsG (0+0) QJK (TQ 0 0 QDw K) (Qd [(.c (.sl [TI]) v)])) :=
 Hold.of (by kernel_rfl) h
theorem Qzh (v:List Int):TCon Tryz.prog 187 [(.c (.sl [TI]) v)] (Qh5 (QA v)):=by
 refine Qh rfl fun hb=>tcg (Γ:=QsG) (n:=15) (sg:=QbV.sg) Qi (TOkL.cons QkU TOkL.nil) (by kernel_rfl) (by kernel_rfl) (QwE _ v ?_)
 have hl_v:v.length≤9223372036854775807:=hb.1.1
 exact R_eq (by grind [QA,m_in])
theorem Qd9:Qf Tryz.prog QbV:=Qj fun x _=>Qzh x.1
def Qie (t:Bool):TRes:=zre (zcb t)
def Ju:TRow:=Qg 100 [(.c (.sl [TI])),(.c TI)] fun x=>(none,Qie (Qq x.1 x.2.1))
def Qnt:TTab:=⟨[QbV],false⟩
def Qx4:TCode :=
 (zsq [(.reg [zmv 4 (zkb false)]),(.reg [zmv 5 0,zca 6 187 [5],zmv 7 6,.grp 7 true [zmv 8 0,zle 9 8,zmv 10 1,zbi 11 .eql 9 10] 12 11,zmv 4 12]),.ret])
def Qz4:List (ARv × Md):=[(.t 4,.one .d)]
theorem QAc (v:List Int) (n:Int) (h :
 K (Qie ((QA v)&&((v.length:Int)==n)))):Hold (tawp Qnt (0+0) Qx4 (TQ 0 0 Qz4 K) (Qd [(.c (.sl [TI]) v),(.c TI n)])) :=
 Hold.of (by kernel_rfl) h
theorem QCr (v:List Int) (n:Int):TCon Tryz.prog 100 [(.c (.sl [TI]) v),(.c TI n)] (Qie (Qq v n)):=by
 refine Qh rfl fun hb=>tcg (Γ:=Qnt) (n:=13) (sg:=Ju.sg) Qi (TOkL.cons Qd9 TOkL.nil) (by kernel_rfl) (by kernel_rfl) (QAc _ v n ?_)
 have hl_v:v.length≤9223372036854775807:=hb.1.1
 exact R_eq (by simp [Qq])
theorem Qay:Qf Tryz.prog Ju:=Qj fun x _=>QCr x.1 x.2.1
def Qhi (t:Bool):TRes:=zre (zcb t)
def Qjb:TRow:=Qg 169 [(.c (.sl [TI])),(.c TI)] fun x=>(none,Qhi (ZN x.1 x.2.1))
def Qu6:TTab:=⟨[Ju],false⟩
def QxE:TCode :=
 (zsq [(.reg [zmv 4 (zkb false)]),(.reg [zmv 5 0,zle 6 5,zbi 7 .eql 6 (zki 0),zmv 8 7,.grp 8 false [zmv 9 0,zmv 10 1,zca 11 100 [9,10]] 12 11,zmv 4 12]),.ret])
def Qzs:List (ARv × Md):=[(.t 4,.one .d)]
theorem QGm (v:List Int) (n:Int) (h :
 K (Qhi (((v.length:Int)==(0:Int))||(Qq v n)))):Hold (tawp Qu6 (0+0) QxE (TQ 0 0 Qzs K) (Qd [(.c (.sl [TI]) v),(.c TI n)])) :=
 Hold.of (by kernel_rfl) h
theorem QI2 (v:List Int) (n:Int):TCon Tryz.prog 169 [(.c (.sl [TI]) v),(.c TI n)] (Qhi (ZN v n)):=by
 refine Qh rfl fun hb=>tcg (Γ:=Qu6) (n:=13) (sg:=Qjb.sg) Qi (TOkL.cons Qay TOkL.nil) (by kernel_rfl) (by kernel_rfl) (QGm _ v n ?_)
 have hl_v:v.length≤9223372036854775807:=hb.1.1
 exact R_eq (by simp [ZN,Qq])
theorem QHQ:Qf Tryz.prog Qjb:=Qj fun x _=>QI2 x.1 x.2.1
def QhR (t:Bool):TRes:=zre (zcb t)
def QkY:TRow:=Qg 159 [(.c (.sl [TI])),(.c TI)] fun x=>(none,QhR (ZN x.1 x.2.1))
def QvL:TTab:=⟨[YU],false⟩
def QCg:TCode :=
 (zsq [(.reg [zmv 4 (zkb false)]),(.reg [zmv 5 0,zle 6 5,zbi 7 .eql 6 (zki 0),zmv 8 7,.grp 8 false [zmv 9 0,zca 10 97 [9],zmv 11 10,.grp 11 true [zmv 12 0,zle 13 12,zmv 14 1,zbi 15 .eql 13 14] 16 15] 17 16,zmv 4 17]),.ret])
def QEq:List (ARv × Md):=[(.t 4,.one .d)]
theorem QG1 (v:List Int) (n:Int) (h :
 K (QhR (((v.length:Int)==(0:Int))||((QA v)&&((v.length:Int)==n))))):Hold (tawp QvL (0+0) QCg (TQ 0 0 QEq K) (Qd [(.c (.sl [TI]) v),(.c TI n)])) :=
 Hold.of (by kernel_rfl) h
theorem QHM (v:List Int) (n:Int):TCon Tryz.prog 159 [(.c (.sl [TI]) v),(.c TI n)] (QhR (ZN v n)):=by
 refine Qh rfl fun hb=>tcg (Γ:=QvL) (n:=18) (sg:=QkY.sg) Qi (TOkL.cons JW TOkL.nil) (by kernel_rfl) (by kernel_rfl) (QG1 _ v n ?_)
 have hl_v:v.length≤9223372036854775807:=hb.1.1
 exact R_eq (by simp [ZN,Qq])
theorem QCO:Qf Tryz.prog QkY:=Qj fun x _=>QHM x.1 x.2.1
end
end Go.Proofs.YtdplaepmjogjjaaGreat.Am

