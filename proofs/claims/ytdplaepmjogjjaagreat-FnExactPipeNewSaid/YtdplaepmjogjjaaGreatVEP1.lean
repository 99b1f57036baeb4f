/- -/
import Derived.Test.YtdplaepmjogjjaaGreatVEG8
namespace Go.Proofs.YtdplaepmjogjjaaGreat.Am
open Go Go.RowKit Go.Proofs.YtdplaepmjogjjaaGreat
set_option linter.all false
noncomputable section
variable (K:TRes→Prop)
def Qkf (t:Bool):TRes:=zre (zcb t)
def ZQ:TRow:=Qg 158 [(.c TI),(.c TI),(.c TI)] fun x=>(none,Qkf (m_in x.1 x.2.1 x.2.2.1))
def QuH:TTab:=⟨[],false⟩
def QEX:TCode :=
 (zsq [(.reg [zmv 6 (zkb false)]),(.reg [zmv 7 0,zmv 8 1,zbi 9 .geq 7 8,zmv 10 9,.grp 10 true [zmv 11 0,zmv 12 2,zbi 13 .leq 11 12] 14 13,zmv 6 14]),.ret])
def QwO:List (ARv × Md):=[(.t 6,.one .d)]
theorem Qzs (x:Int) (low:Int) (high:Int) (h :
 K (Qkf ((decide (x≥low))&&(decide (x≤high))))):Hold (tawp QuH (0+0) QEX (TQ 0 0 QwO K) (Qe [(.c TI x),(.c TI low),(.c TI high)])) :=
 Hold.of (by kernel_rfl) h
theorem QDU (x:Int) (low:Int) (high:Int):TCon Tryz.prog 158 [(.c TI x),(.c TI low),(.c TI high)] (Qkf (m_in x low high)):=by
 refine Ql rfl fun hb=>tcg (Γ:=QuH) (n:=15) (sg:=ZQ.sg) Qk TOkL.nil (by kernel_rfl) (by kernel_rfl) (Qzs _ x low high ?_)
 exact R_eq rfl
theorem Yq:Qi Tryz.prog ZQ:=Qm fun x _=>QDU x.1 x.2.1 x.2.2.1
def Qh0 (t:Bool):TRes:=zre (zcb t)
def Qfm:TRow:=Qg 183 [(.c TI)] fun x=>(none,Qh0 (ZB x.1))
def Qmg:TTab:=⟨[ZQ],false⟩
def QAP:TCode :=
 (zsq [(.reg [zmv 2 (zkb false)]),(.reg [zmv 3 0,zca 4 158 [3,(zki (-2147483647)),(zki 2147483647)],zmv 2 4]),.ret])
def QwC:List (ARv × Md):=[(.t 2,.one .d)]
theorem QBA (x:Int) (h :
 K (Qh0 (m_in x (-2147483647:Int) (2147483647:Int)))):Hold (tawp Qmg (0+0) QAP (TQ 0 0 QwC K) (Qe [(.c TI x)])) :=
 Hold.of (by kernel_rfl) h
theorem QyF (x:Int):TCon Tryz.prog 183 [(.c TI x)] (Qh0 (ZB x)):=by
 refine Ql rfl fun hb=>tcg (Γ:=Qmg) (n:=5) (sg:=Qfm.sg) Qk (TOkL.cons Yq TOkL.nil) (by kernel_rfl) (by kernel_rfl) (QBA _ x ?_)
 exact R_eq rfl
theorem QsW:Qi Tryz.prog Qfm:=Qm fun x _=>QyF x.1
def Qkj (t:Bool):TRes:=zre (zcb t)
def QkF:TRow:=Qg 240 [(.c TI)] fun x=>(none,Qkj (ZB x.1))
def Qth:TTab:=⟨[],false⟩
def Qy2:TCode :=
 (zsq [(.reg [zmv 2 (zkb false)]),(.reg [zmv 3 0,zbi 4 .geq 3 (zki (-2147483647)),zmv 5 4,.grp 5 true [zmv 6 0,zbi 7 .leq 6 (zki 2147483647)] 8 7,zmv 2 8]),.ret])
def QBB:List (ARv × Md):=[(.t 2,.one .d)]
theorem QwD (x:Int) (h :
 K (Qkj ((decide (x≥(-2147483647:Int)))&&(decide (x≤(2147483647:Int)))))):Hold (tawp Qth (0+0) Qy2 (TQ 0 0 QBB K) (Qe [(.c TI x)])) :=
 Hold.of (by kernel_rfl) h
theorem QBn (x:Int):TCon Tryz.prog 240 [(.c TI x)] (Qkj (ZB x)):=by
 refine Ql rfl fun hb=>tcg (Γ:=Qth) (n:=9) (sg:=QkF.sg) Qk TOkL.nil (by kernel_rfl) (by kernel_rfl) (QwD _ x ?_)
 exact R_eq rfl
theorem Qzu:Qi Tryz.prog QkF:=Qm fun x _=>QBn x.1
def QbU (t:Bool):TRes:=zre (zcb t)
def Qgq:TRow:=Qg 238 [(.c (.sl [TI]))] fun x=>(none,QbU (Yz x.1))
def QdE:TTab:=⟨[QkF],false⟩
def Quf:TCode :=
 (zsq [(.reg [zbi 8 .lss 7 6]),(.cond 8 .skip (.exit 0)),(.block 1 (zsq [(.reg [zia 9 5 7 [TI],zld 10 9 1,zmv 4 10]),(.reg [zmv 11 4,zca 12 240 [11],zno 13 12]),(.cond 13 (zsq [(.reg [zmv 2 (zkb false)]),.ret]) .skip)])),(.reg [zbi 14 .add 7 (zki 1),zmv 7 14])])
def Qoj:List (Nat × Md):=zdl [5,6,7]
def Qm1:TCode :=
 (zsq [(.reg [zmv 2 (zkb true)]),.ret])
def QHH:TCode :=
 (zsq [(.reg [zmv 2 (zkb false)]),(zsq [(.reg [zmv 5 0,zle 6 5,zmv 7 (zki 0)]),(.block 0 (.loop Qoj Quf))]),Qm1])
def QnF:List (ARv × Md):=[(.t 2,.one .d)]
def QrE:Qb:=TQ 0 0 QnF K
def QJf:Qb:=Qseq (tawp QdE 0 Qm1 (QrE K)) (QrE K)
def QHJ:Qb:=Qblk 0 (QJf K)
def QiK (v:List Int) (x:Int):Prop:=Loop QdE 0 Qoj Quf (QHJ K) ⟨[(5,(zcs [TI] v)),(6,(zci (v.length:Int))),(7,(zci x))],[],0⟩
theorem QGY (v:List Int) (x:Int) (h :
 (zif (decide (x<(v.length:Int))) (((0:Int)≤x∧Int.toNat x<v.length)∧(zif (!(ZB (gtd (0:Int) v (Int.toNat x)))) (K (QbU false)) (QiK K v (w64 (x+(1:Int)))))) (K (QbU true)))):QiK K v x :=
 Loop.of (by kernel_rfl) h
theorem QDM (v:List Int) (h :
 (QiK K v 0)):Hold (tawp QdE (0+0) QHH (TQ 0 0 QnF K) (Qe [(.c (.sl [TI]) v)])) :=
 Hold.of (by kernel_rfl) h
theorem QGu (v:List Int):TCon Tryz.prog 238 [(.c (.sl [TI]) v)] (QbU (Yz v)):=by
 refine Ql rfl fun hb=>tcg (Γ:=QdE) (n:=15) (sg:=Qgq.sg) Qk (TOkL.cons Qzu TOkL.nil) (by kernel_rfl) (by kernel_rfl) (QDM _ v ?_)
 have hl_v:v.length≤9223372036854775807:=hb.1.1
 exact QcY (Q:=fun x=>QbU x=QbU (Yz v)) (p:=ZB) (c:=fun x=>!(ZB x)) 0 hl_v (fun _=>rfl) (fun i h=>QGY _ v i h) (R_eq (by simp [Yz]))
theorem Qlr:Qi Tryz.prog Qgq:=Qm fun x _=>QGu x.1
def Qbe (t:Bool):TRes:=zre (zcb t)
def Qjm:TRow:=Qg 97 [(.c (.sl [TI]))] fun x=>(none,Qbe (Q5 x.1))
def QeY:TTab:=⟨[Qfm,ZQ],false⟩
def QlK:TCode :=
 (zsq [(zsq [(.reg [zmv 4 3,zmv 5 0,zle 6 5,zbi 7 .lss 4 6]),(.cond 7 .skip (.exit 0))]),(.block 1 (zsq [(.reg [zmv 10 0,zmv 11 3,zia 12 10 11 [TI],zld 13 12 1,zca 14 183 [13],zno 15 14]),(.cond 15 (zsq [(.reg [zmv 2 (zkb false)]),.ret]) .skip)])),(.reg [zmv 8 3,zbi 9 .add 8 (zki 1),zmv 3 9])])
def Qsm:List (Nat × Md):=zdl [0,3]
def Qnv:TCode :=
 (zsq [(.reg [zmv 16 0,zle 17 16,zca 18 158 [17,(zki 1),(zki 6)],zmv 2 18]),.ret])
def QJo:TCode :=
 (zsq [(.reg [zmv 2 (zkb false)]),(zsq [(.reg [zmv 3 (zki 0)]),(.block 0 (.loop Qsm QlK))]),Qnv])
def Qpb:List (ARv × Md):=[(.t 2,.one .d)]
def QuL:Qb:=TQ 0 0 Qpb K
def QBO:Qb:=Qseq (tawp QeY 0 Qnv (QuL K)) (QuL K)
def QEB:Qb:=Qblk 0 (QBO K)
def Qio (v:List Int) (i:Int):Prop:=Loop QeY 0 Qsm QlK (QEB K) ⟨[(0,(zcs [TI] v)),(3,(zci i))],[],0⟩
theorem QxI (v:List Int) (i:Int) (h :
 (zif (decide (i<(v.length:Int))) (((0:Int)≤i∧Int.toNat i<v.length)∧(zif (!(ZB (gtd (0:Int) v (Int.toNat i)))) (K (Qbe false)) (Qio K v (w64 (i+(1:Int)))))) (K (Qbe (m_in (v.length:Int) (1:Int) (6:Int)))))):Qio K v i :=
 Loop.of (by kernel_rfl) h
theorem QEJ (v:List Int) (h :
 (Qio K v 0)):Hold (tawp QeY (0+0) QJo (TQ 0 0 Qpb K) (Qe [(.c (.sl [TI]) v)])) :=
 Hold.of (by kernel_rfl) h
theorem Qw6 (v:List Int):TCon Tryz.prog 97 [(.c (.sl [TI]) v)] (Qbe (Q5 v)):=by
 refine Ql rfl fun hb=>tcg (Γ:=QeY) (n:=19) (sg:=Qjm.sg) Qk (TOkL.cons QsW (TOkL.cons Yq TOkL.nil)) (by kernel_rfl) (by kernel_rfl) (QEJ _ v ?_)
 have hl_v:v.length≤9223372036854775807:=hb.1.1
 exact QcY (Q:=fun x=>Qbe x=Qbe (Q5 v)) (p:=ZB) (c:=fun x=>!(ZB x)) 0 hl_v (fun _=>rfl) (fun i h=>QxI _ v i h) (R_eq (by grind [Q5,Yz]))
theorem Qyn:Qi Tryz.prog Qjm:=Qm fun x _=>Qw6 x.1
def Qhk (t:Bool):TRes:=zre (zcb t)
def Qj5:TRow:=Qg 187 [(.c (.sl [TI]))] fun x=>(none,Qhk (Q5 x.1))
def Qpa:TTab:=⟨[Qgq],false⟩
def QxS:TCode :=
 (zsq [(.reg [zmv 2 (zkb false)]),(.reg [zmv 3 0,zle 4 3,zbi 5 .geq 4 (zki 1),zmv 6 5,.grp 6 true [zmv 7 0,zle 8 7,zbi 9 .leq 8 (zki 6)] 10 9,zmv 11 10,.grp 11 true [zmv 12 0,zca 13 238 [12]] 14 13,zmv 2 14]),.ret])
def QH2:List (ARv × Md):=[(.t 2,.one .d)]
theorem Qxk (v:List Int) (h :
 K (Qhk (((decide ((v.length:Int)≥(1:Int)))&&(decide ((v.length:Int)≤(6:Int))))&&(Yz v)))):Hold (tawp Qpa (0+0) QxS (TQ 0 0 QH2 K) (Qe [(.c (.sl [TI]) v)])) :=
 Hold.of (by kernel_rfl) h
theorem Qxs (v:List Int):TCon Tryz.prog 187 [(.c (.sl [TI]) v)] (Qhk (Q5 v)):=by
 refine Ql rfl fun hb=>tcg (Γ:=Qpa) (n:=15) (sg:=Qj5.sg) Qk (TOkL.cons Qlr TOkL.nil) (by kernel_rfl) (by kernel_rfl) (Qxk _ v ?_)
 have hl_v:v.length≤9223372036854775807:=hb.1.1
 exact R_eq (by grind [Q5,m_in])
theorem QyB:Qi Tryz.prog Qj5:=Qm fun x _=>Qxs x.1
def Qj1 (t:Bool):TRes:=zre (zcb t)
def Qhz:TRow:=Qg 100 [(.c (.sl [TI])),(.c TI)] fun x=>(none,Qj1 (ZH x.1 x.2.1))
def QlH:TTab:=⟨[Qj5],false⟩
def QF0:TCode :=
 (zsq [(.reg [zmv 4 (zkb false)]),(.reg [zmv 5 0,zca 6 187 [5],zmv 7 6,.grp 7 true [zmv 8 0,zle 9 8,zmv 10 1,zbi 11 .eql 9 10] 12 11,zmv 4 12]),.ret])
def Qy8:List (ARv × Md):=[(.t 4,.one .d)]
theorem QCK (v:List Int) (n:Int) (h :
 K (Qj1 ((Q5 v)&&((v.length:Int)==n)))):Hold (tawp QlH (0+0) QF0 (TQ 0 0 Qy8 K) (Qe [(.c (.sl [TI]) v),(.c TI n)])) :=
 Hold.of (by kernel_rfl) h
theorem QIS (v:List Int) (n:Int):TCon Tryz.prog 100 [(.c (.sl [TI]) v),(.c TI n)] (Qj1 (ZH v n)):=by
 refine Ql rfl fun hb=>tcg (Γ:=QlH) (n:=13) (sg:=Qhz.sg) Qk (TOkL.cons QyB TOkL.nil) (by kernel_rfl) (by kernel_rfl) (QCK _ v n ?_)
 have hl_v:v.length≤9223372036854775807:=hb.1.1
 exact R_eq (by simp [ZH])
theorem Qvd:Qi Tryz.prog Qhz:=Qm fun x _=>QIS x.1 x.2.1
end
end Go.Proofs.YtdplaepmjogjjaaGreat.Am

