/- -/
import Derived.Test.YtdplaepmjogjjaaGreatVAG8
namespace Go.Proofs.YtdplaepmjogjjaaGreat.Am
open Go Go.RowKit Go.Proofs.YtdplaepmjogjjaaGreat
set_option linter.all false
noncomputable section
variable (K:TRes→Prop)
def Qgr (t:Bool):TRes:=zre (zcb t)
def YV:TRow:=Qh 158 [(.c TI),(.c TI),(.c TI)] fun x=>(none,Qgr (m_in x.1 x.2.1 x.2.2.1))
def Qqu:TTab:=⟨[],false⟩
def QAP:TCode :=
 (zsq [(.reg [zmv 6 (zkb false)]),(.reg [zmv 7 0,zmv 8 1,zbi 9 .geq 7 8,zmv 10 9,.grp 10 true [zmv 11 0,zmv 12 2,zbi 13 .leq 11 12] 14 13,zmv 6 14]),.ret])
def QBs:List (ARv × Md):=[(.t 6,.one .d)]
theorem QB0 (x:Int) (low:Int) (high:Int) (h :
 K (Qgr ((decide (x≥low))&&(decide (x≤high))))):Hold (tawp Qqu (0+0) QAP (TQ 0 0 QBs K) (Qf [(.c TI x),(.c TI low),(.c TI high)])) :=
 Hold.of (by kernel_rfl) h
theorem QGq (x:Int) (low:Int) (high:Int):TCon Tryz.prog 158 [(.c TI x),(.c TI low),(.c TI high)] (Qgr (m_in x low high)):=by
 refine Qj rfl fun hb=>tcg (Γ:=Qqu) (n:=15) (sg:=YV.sg) Qi TOkL.nil (by kernel_rfl) (by kernel_rfl) (QB0 _ x low high ?_)
 exact R_eq rfl
theorem JX:Qg Tryz.prog YV:=Qk fun x _=>QGq x.1 x.2.1 x.2.2.1
def Qg4 (t:Bool):TRes:=zre (zcb t)
def Qa3:TRow:=Qh 183 [(.c TI)] fun x=>(none,Qg4 (Q5 x.1))
def QlZ:TTab:=⟨[YV],false⟩
def QDl:TCode :=
 (zsq [(.reg [zmv 2 (zkb false)]),(.reg [zmv 3 0,zca 4 158 [3,(zki (-2147483647)),(zki 2147483647)],zmv 2 4]),.ret])
def QtG:List (ARv × Md):=[(.t 2,.one .d)]
theorem QDb (x:Int) (h :
 K (Qg4 (m_in x (-2147483647:Int) (2147483647:Int)))):Hold (tawp QlZ (0+0) QDl (TQ 0 0 QtG K) (Qf [(.c TI x)])) :=
 Hold.of (by kernel_rfl) h
theorem QDs (x:Int):TCon Tryz.prog 183 [(.c TI x)] (Qg4 (Q5 x)):=by
 refine Qj rfl fun hb=>tcg (Γ:=QlZ) (n:=5) (sg:=Qa3.sg) Qi (TOkL.cons JX TOkL.nil) (by kernel_rfl) (by kernel_rfl) (QDb _ x ?_)
 exact R_eq rfl
theorem QdA:Qg Tryz.prog Qa3:=Qk fun x _=>QDs x.1
def Qjv (t:Bool):TRes:=zre (zcb t)
def Qbr:TRow:=Qh 240 [(.c TI)] fun x=>(none,Qjv (Q5 x.1))
def Qtc:TTab:=⟨[],false⟩
def QGG:TCode :=
 (zsq [(.reg [zmv 2 (zkb false)]),(.reg [zmv 3 0,zbi 4 .geq 3 (zki (-2147483647)),zmv 5 4,.grp 5 true [zmv 6 0,zbi 7 .leq 6 (zki 2147483647)] 8 7,zmv 2 8]),.ret])
def QGi:List (ARv × Md):=[(.t 2,.one .d)]
theorem QEU (x:Int) (h :
 K (Qjv ((decide (x≥(-2147483647:Int)))&&(decide (x≤(2147483647:Int)))))):Hold (tawp Qtc (0+0) QGG (TQ 0 0 QGi K) (Qf [(.c TI x)])) :=
 Hold.of (by kernel_rfl) h
theorem QEw (x:Int):TCon Tryz.prog 240 [(.c TI x)] (Qjv (Q5 x)):=by
 refine Qj rfl fun hb=>tcg (Γ:=Qtc) (n:=9) (sg:=Qbr.sg) Qi TOkL.nil (by kernel_rfl) (by kernel_rfl) (QEU _ x ?_)
 exact R_eq rfl
theorem Qje:Qg Tryz.prog Qbr:=Qk fun x _=>QEw x.1
def Qbm (t:Bool):TRes:=zre (zcb t)
def Qb2:TRow:=Qh 238 [(.c (.sl [TI]))] fun x=>(none,Qbm (ZK x.1))
def Qd6:TTab:=⟨[Qbr],false⟩
def Qm7:TCode :=
 (zsq [(.reg [zbi 8 .lss 7 6]),(.cond 8 .skip (.exit 0)),(.block 1 (zsq [(.reg [zia 9 5 7 [TI],zld 10 9 1,zmv 4 10]),(.reg [zmv 11 4,zca 12 240 [11],zno 13 12]),(.cond 13 (zsq [(.reg [zmv 2 (zkb false)]),.ret]) .skip)])),(.reg [zbi 14 .add 7 (zki 1),zmv 7 14])])
def QsW:List (Nat × Md):=zdl [5,6,7]
def Qo2:TCode :=
 (zsq [(.reg [zmv 2 (zkb true)]),.ret])
def QvG:TCode :=
 (zsq [(.reg [zmv 2 (zkb false)]),(zsq [(.reg [zmv 5 0,zle 6 5,zmv 7 (zki 0)]),(.block 0 (.loop QsW Qm7))]),Qo2])
def Qlr:List (ARv × Md):=[(.t 2,.one .d)]
def Qks:Qb:=TQ 0 0 Qlr K
def Qxo:Qb:=Qseq (tawp Qd6 0 Qo2 (Qks K)) (Qks K)
def QA8:Qb:=Qblk 0 (Qxo K)
def Qic (v:List Int) (x:Int):Prop:=Loop Qd6 0 QsW Qm7 (QA8 K) ⟨[(5,(zcs [TI] v)),(6,(zci (v.length:Int))),(7,(zci x))],[],0⟩
theorem Qxk (v:List Int) (x:Int) (h :
 (zif (decide (x<(v.length:Int))) (((0:Int)≤x∧Int.toNat x<v.length)∧(zif (!(Q5 (gtd (0:Int) v (Int.toNat x)))) (K (Qbm false)) (Qic K v (w64 (x+(1:Int)))))) (K (Qbm true)))):Qic K v x :=
 Loop.of (by kernel_rfl) h
theorem Qyj (v:List Int) (h :
 (Qic K v 0)):Hold (tawp Qd6 (0+0) QvG (TQ 0 0 Qlr K) (Qf [(.c (.sl [TI]) v)])) :=
 Hold.of (by kernel_rfl) h
theorem QC3 (v:List Int):TCon Tryz.prog 238 [(.c (.sl [TI]) v)] (Qbm (ZK v)):=by
 refine Qj rfl fun hb=>tcg (Γ:=Qd6) (n:=15) (sg:=Qb2.sg) Qi (TOkL.cons Qje TOkL.nil) (by kernel_rfl) (by kernel_rfl) (Qyj _ v ?_)
 have hl_v:v.length≤9223372036854775807:=hb.1.1
 exact Qeg (Q:=fun x=>Qbm x=Qbm (ZK v)) (p:=Q5) (c:=fun x=>!(Q5 x)) 0 hl_v (fun _=>rfl) (fun i h=>Qxk _ v i h) (R_eq (by simp [ZK]))
theorem Qhd:Qg Tryz.prog Qb2:=Qk fun x _=>QC3 x.1
def Qbn (t:Bool):TRes:=zre (zcb t)
def YW:TRow:=Qh 97 [(.c (.sl [TI]))] fun x=>(none,Qbn (QE x.1))
def Qda:TTab:=⟨[Qa3,YV],false⟩
def QpP:TCode :=
 (zsq [(zsq [(.reg [zmv 4 3,zmv 5 0,zle 6 5,zbi 7 .lss 4 6]),(.cond 7 .skip (.exit 0))]),(.block 1 (zsq [(.reg [zmv 10 0,zmv 11 3,zia 12 10 11 [TI],zld 13 12 1,zca 14 183 [13],zno 15 14]),(.cond 15 (zsq [(.reg [zmv 2 (zkb false)]),.ret]) .skip)])),(.reg [zmv 8 3,zbi 9 .add 8 (zki 1),zmv 3 9])])
def Qoa:List (Nat × Md):=zdl [0,3]
def Qkq:TCode :=
 (zsq [(.reg [zmv 16 0,zle 17 16,zca 18 158 [17,(zki 1),(zki 6)],zmv 2 18]),.ret])
def QDL:TCode :=
 (zsq [(.reg [zmv 2 (zkb false)]),(zsq [(.reg [zmv 3 (zki 0)]),(.block 0 (.loop Qoa QpP))]),Qkq])
def QpB:List (ARv × Md):=[(.t 2,.one .d)]
def Qr7:Qb:=TQ 0 0 QpB K
def QxX:Qb:=Qseq (tawp Qda 0 Qkq (Qr7 K)) (Qr7 K)
def QEv:Qb:=Qblk 0 (QxX K)
def QgJ (v:List Int) (i:Int):Prop:=Loop Qda 0 Qoa QpP (QEv K) ⟨[(0,(zcs [TI] v)),(3,(zci i))],[],0⟩
theorem Qzd (v:List Int) (i:Int) (h :
 (zif (decide (i<(v.length:Int))) (((0:Int)≤i∧Int.toNat i<v.length)∧(zif (!(Q5 (gtd (0:Int) v (Int.toNat i)))) (K (Qbn false)) (QgJ K v (w64 (i+(1:Int)))))) (K (Qbn (m_in (v.length:Int) (1:Int) (6:Int)))))):QgJ K v i :=
 Loop.of (by kernel_rfl) h
theorem QxN (v:List Int) (h :
 (QgJ K v 0)):Hold (tawp Qda (0+0) QDL (TQ 0 0 QpB K) (Qf [(.c (.sl [TI]) v)])) :=
 Hold.of (by kernel_rfl) h
theorem QtE (v:List Int):TCon Tryz.prog 97 [(.c (.sl [TI]) v)] (Qbn (QE v)):=by
 refine Qj rfl fun hb=>tcg (Γ:=Qda) (n:=19) (sg:=YW.sg) Qi (TOkL.cons QdA (TOkL.cons JX TOkL.nil)) (by kernel_rfl) (by kernel_rfl) (QxN _ v ?_)
 have hl_v:v.length≤9223372036854775807:=hb.1.1
 exact Qeg (Q:=fun x=>Qbn x=Qbn (QE v)) (p:=Q5) (c:=fun x=>!(Q5 x)) 0 hl_v (fun _=>rfl) (fun i h=>Qzd _ v i h) (R_eq (by grind [QE,ZK]))
theorem Qar:Qg Tryz.prog YW:=Qk fun x _=>QtE x.1
def QgO (t:Bool):TRes:=zre (zcb t)
def Qbi:TRow:=Qh 187 [(.c (.sl [TI]))] fun x=>(none,QgO (QE x.1))
def Qo6:TTab:=⟨[Qb2],false⟩
def QAm:TCode :=
 (zsq [(.reg [zmv 2 (zkb false)]),(.reg [zmv 3 0,zle 4 3,zbi 5 .geq 4 (zki 1),zmv 6 5,.grp 6 true [zmv 7 0,zle 8 7,zbi 9 .leq 8 (zki 6)] 10 9,zmv 11 10,.grp 11 true [zmv 12 0,zca 13 238 [12]] 14 13,zmv 2 14]),.ret])
def Qyk:List (ARv × Md):=[(.t 2,.one .d)]
theorem Qvq (v:List Int) (h :
 K (QgO (((decide ((v.length:Int)≥(1:Int)))&&(decide ((v.length:Int)≤(6:Int))))&&(ZK v)))):Hold (tawp Qo6 (0+0) QAm (TQ 0 0 Qyk K) (Qf [(.c (.sl [TI]) v)])) :=
 Hold.of (by kernel_rfl) h
theorem QzL (v:List Int):TCon Tryz.prog 187 [(.c (.sl [TI]) v)] (QgO (QE v)):=by
 refine Qj rfl fun hb=>tcg (Γ:=Qo6) (n:=15) (sg:=Qbi.sg) Qi (TOkL.cons Qhd TOkL.nil) (by kernel_rfl) (by kernel_rfl) (Qvq _ v ?_)
 have hl_v:v.length≤9223372036854775807:=hb.1.1
 exact R_eq (by grind [QE,m_in])
theorem Qeo:Qg Tryz.prog Qbi:=Qk fun x _=>QzL x.1
def Qjl (t:Bool):TRes:=zre (zcb t)
def JN:TRow:=Qh 100 [(.c (.sl [TI])),(.c TI)] fun x=>(none,Qjl (Qx x.1 x.2.1))
def Qlq:TTab:=⟨[Qbi],false⟩
def Quu:TCode :=
 (zsq [(.reg [zmv 4 (zkb false)]),(.reg [zmv 5 0,zca 6 187 [5],zmv 7 6,.grp 7 true [zmv 8 0,zle 9 8,zmv 10 1,zbi 11 .eql 9 10] 12 11,zmv 4 12]),.ret])
def Qzf:List (ARv × Md):=[(.t 4,.one .d)]
theorem QBV (v:List Int) (n:Int) (h :
 K (Qjl ((QE v)&&((v.length:Int)==n)))):Hold (tawp Qlq (0+0) Quu (TQ 0 0 Qzf K) (Qf [(.c (.sl [TI]) v),(.c TI n)])) :=
 Hold.of (by kernel_rfl) h
theorem QwC (v:List Int) (n:Int):TCon Tryz.prog 100 [(.c (.sl [TI]) v),(.c TI n)] (Qjl (Qx v n)):=by
 refine Qj rfl fun hb=>tcg (Γ:=Qlq) (n:=13) (sg:=JN.sg) Qi (TOkL.cons Qeo TOkL.nil) (by kernel_rfl) (by kernel_rfl) (QBV _ v n ?_)
 have hl_v:v.length≤9223372036854775807:=hb.1.1
 exact R_eq (by simp [Qx])
theorem QaX:Qg Tryz.prog JN:=Qk fun x _=>QwC x.1 x.2.1
def Qhg (t:Bool):TRes:=zre (zcb t)
def QiF:TRow:=Qh 169 [(.c (.sl [TI])),(.c TI)] fun x=>(none,Qhg (Zx x.1 x.2.1))
def Qq8:TTab:=⟨[JN],false⟩
def QCK:TCode :=
 (zsq [(.reg [zmv 4 (zkb false)]),(.reg [zmv 5 0,zle 6 5,zbi 7 .eql 6 (zki 0),zmv 8 7,.grp 8 false [zmv 9 0,zmv 10 1,zca 11 100 [9,10]] 12 11,zmv 4 12]),.ret])
def QAj:List (ARv × Md):=[(.t 4,.one .d)]
theorem QGC (v:List Int) (n:Int) (h :
 K (Qhg (((v.length:Int)==(0:Int))||(Qx v n)))):Hold (tawp Qq8 (0+0) QCK (TQ 0 0 QAj K) (Qf [(.c (.sl [TI]) v),(.c TI n)])) :=
 Hold.of (by kernel_rfl) h
theorem QDF (v:List Int) (n:Int):TCon Tryz.prog 169 [(.c (.sl [TI]) v),(.c TI n)] (Qhg (Zx v n)):=by
 refine Qj rfl fun hb=>tcg (Γ:=Qq8) (n:=13) (sg:=QiF.sg) Qi (TOkL.cons QaX TOkL.nil) (by kernel_rfl) (by kernel_rfl) (QGC _ v n ?_)
 have hl_v:v.length≤9223372036854775807:=hb.1.1
 exact R_eq (by simp [Zx,Qx])
theorem QBJ:Qg Tryz.prog QiF:=Qk fun x _=>QDF x.1 x.2.1
def QfJ (t:Bool):TRes:=zre (zcb t)
def Qhy:TRow:=Qh 159 [(.c (.sl [TI])),(.c TI)] fun x=>(none,QfJ (Zx x.1 x.2.1))
def Qne:TTab:=⟨[YW],false⟩
def QEO:TCode :=
 (zsq [(.reg [zmv 4 (zkb false)]),(.reg [zmv 5 0,zle 6 5,zbi 7 .eql 6 (zki 0),zmv 8 7,.grp 8 false [zmv 9 0,zca 10 97 [9],zmv 11 10,.grp 11 true [zmv 12 0,zle 13 12,zmv 14 1,zbi 15 .eql 13 14] 16 15] 17 16,zmv 4 17]),.ret])
def QCX:List (ARv × Md):=[(.t 4,.one .d)]
theorem QE2 (v:List Int) (n:Int) (h :
 K (QfJ (((v.length:Int)==(0:Int))||((QE v)&&((v.length:Int)==n))))):Hold (tawp Qne (0+0) QEO (TQ 0 0 QCX K) (Qf [(.c (.sl [TI]) v),(.c TI n)])) :=
 Hold.of (by kernel_rfl) h
theorem Qv1 (v:List Int) (n:Int):TCon Tryz.prog 159 [(.c (.sl [TI]) v),(.c TI n)] (QfJ (Zx v n)):=by
 refine Qj rfl fun hb=>tcg (Γ:=Qne) (n:=18) (sg:=Qhy.sg) Qi (TOkL.cons Qar TOkL.nil) (by kernel_rfl) (by kernel_rfl) (QE2 _ v n ?_)
 have hl_v:v.length≤9223372036854775807:=hb.1.1
 exact R_eq (by simp [Zx,Qx])
theorem QGI:Qg Tryz.prog Qhy:=Qk fun x _=>Qv1 x.1 x.2.1
end
end Go.Proofs.YtdplaepmjogjjaaGreat.Am

