/- -/
import Derived.Test.YtjbdljkhbglnhaaGreatZAG8
namespace Go.Proofs.YtjbdljkhbglnhaaGreat.Am
open Go Go.RowKit Go.Proofs.YtjbdljkhbglnhaaGreat
set_option linter.all false
noncomputable section
variable (K:TRes→Prop)
def Qnp (t:Bool):TRes:=zre (zcb t)
def JB:TRow:=Qh 77 [(.c TI),(.c TI),(.c TI)] fun x=>(none,Qnp (m_in x.1 x.2.1 x.2.2.1))
def QPd:List TRow:=[]
def QPo:TCode :=
 (zsq [(.reg [zmv 6 (zkb false)]),(.reg [zmv 7 0,zmv 8 1,zbi 9 .geq 7 8,zmv 10 9,.grp 10 true [zmv 11 0,zmv 12 2,zbi 13 .leq 11 12] 14 13,zmv 6 14]),.ret])
def QGu:List (ARv × Md):=[(.t 6,.one .d)]
theorem QDt (x:Int) (low:Int) (high:Int) (h :
K (Qnp ((decide (x≥low))&&(decide (x≤high))))):Hold (tawp QPd (0+0) QPo (TQ 0 0 QGu K) (Qf [(.c TI x),(.c TI low),(.c TI high)])) :=
 Hold.of (by kernel_rfl) h
theorem QKh (x:Int) (low:Int) (high:Int):TCon Tryz.prog 77 [(.c TI x),(.c TI low),(.c TI high)] (Qnp (m_in x low high)):=by
 refine Qq rfl fun hb=>tcg (n:=15) (sg:=JB.sg) Ql TOk.nil (by kernel_rfl) (by kernel_rfl) (QDt _ x low high ?_)
 exact R_eq rfl
theorem J8:Qi Tryz.prog JB:=Qm fun x _=>QKh x.1 x.2.1 x.2.2.1
def QnX (t:Bool):TRes:=zre (zcb t)
def QhB:TRow:=Qh 110 [(.c TI)] fun x=>(none,QnX (Q6 x.1))
def QLu:List TRow:=[JB]
def QBZ:TCode :=
 (zsq [(.reg [zmv 2 (zkb false)]),(.reg [zmv 3 0,zca 4 77 [3,(zki (-2147483647)),(zki 2147483647)],zmv 2 4]),.ret])
def QNr:List (ARv × Md):=[(.t 2,.one .d)]
theorem QGl (x:Int) (h :
K (QnX (m_in x (-2147483647:Int) (2147483647:Int)))):Hold (tawp QLu (0+0) QBZ (TQ 0 0 QNr K) (Qf [(.c TI x)])) :=
 Hold.of (by kernel_rfl) h
theorem QM1 (x:Int):TCon Tryz.prog 110 [(.c TI x)] (QnX (Q6 x)):=by
 refine Qq rfl fun hb=>tcg (n:=5) (sg:=QhB.sg) Ql (TOk.cons J8 TOk.nil) (by kernel_rfl) (by kernel_rfl) (QGl _ x ?_)
 exact R_eq rfl
theorem Qu0:Qi Tryz.prog QhB:=Qm fun x _=>QM1 x.1
def QjI (t:Bool):TRes:=zre (zcb t)
def QeV:TRow:=Qh 217 [(.c TI)] fun x=>(none,QjI (Q6 x.1))
def QCt:List TRow:=[]
def QOT:TCode :=
 (zsq [(.reg [zmv 2 (zkb false)]),(.reg [zmv 3 0,zbi 4 .geq 3 (zki (-2147483647)),zmv 5 4,.grp 5 true [zmv 6 0,zbi 7 .leq 6 (zki 2147483647)] 8 7,zmv 2 8]),.ret])
def QHW:List (ARv × Md):=[(.t 2,.one .d)]
theorem QK9 (x:Int) (h :
K (QjI ((decide (x≥(-2147483647:Int)))&&(decide (x≤(2147483647:Int)))))):Hold (tawp QCt (0+0) QOT (TQ 0 0 QHW K) (Qf [(.c TI x)])) :=
 Hold.of (by kernel_rfl) h
theorem QCj (x:Int):TCon Tryz.prog 217 [(.c TI x)] (QjI (Q6 x)):=by
 refine Qq rfl fun hb=>tcg (n:=9) (sg:=QeV.sg) Ql TOk.nil (by kernel_rfl) (by kernel_rfl) (QK9 _ x ?_)
 exact R_eq rfl
theorem QnA:Qi Tryz.prog QeV:=Qm fun x _=>QCj x.1
def QdY (t:Bool):TRes:=zre (zcb t)
def QeX:TRow:=Qh 195 [(.c (.sl [TI]))] fun x=>(none,QdY (Zs x.1))
def Qnd:List TRow:=[QeV]
def Qt3:TCode :=
 (zsq [(.reg [zbi 8 .lss 7 6]),(.cond 8 .skip (.exit 0)),(.block 1 (zsq [(.reg [zia 9 5 7 [TI],zld 10 9 1,zmv 4 10]),(.reg [zmv 11 4,zca 12 217 [11],zno 13 12]),(.cond 13 (zsq [(.reg [zmv 2 (zkb false)]),.ret]) .skip)])),(.reg [zbi 14 .add 7 (zki 1),zmv 7 14])])
def Qpy:List (Nat × Md):=zdl [5,6,7]
def QyV:TCode :=
 (zsq [(.reg [zmv 2 (zkb true)]),.ret])
def QJw:TCode :=
 (zsq [(.reg [zmv 2 (zkb false)]),(zsq [(.reg [zmv 5 0,zle 6 5,zmv 7 (zki 0)]),(.block 0 (.loop Qpy Qt3))]),QyV])
def QsG:List (ARv × Md):=[(.t 2,.one .d)]
def Qtp:Qb:=TQ 0 0 QsG K
def QQ2:Qb:=Qseq (tawp Qnd 0 QyV (Qtp K)) (Qtp K)
def QKO:Qb:=Qblk 0 (QQ2 K)
def Qjx (v:List Int) (x:Int):Prop:=Loop Qnd 0 Qpy Qt3 (QKO K) ⟨[(5,(zcs [TI] v)),(6,(zci (v.length:Int))),(7,(zci x))],[],0⟩
theorem QNQ (v:List Int) (x:Int) (h :
(zif (decide (x<(v.length:Int))) (((0:Int)≤x∧Int.toNat x<v.length)∧(zif (!(Q6 (gtd (0:Int) v (Int.toNat x)))) (K (QdY false)) (Qjx K v (w64 (x+(1:Int)))))) (K (QdY true)))):Qjx K v x :=
 Loop.of (by kernel_rfl) h
theorem QP1 (v:List Int) (h :
(Qjx K v 0)):Hold (tawp Qnd (0+0) QJw (TQ 0 0 QsG K) (Qf [(.c (.sl [TI]) v)])) :=
 Hold.of (by kernel_rfl) h
theorem QNW (v:List Int):TCon Tryz.prog 195 [(.c (.sl [TI]) v)] (QdY (Zs v)):=by
 refine Qq rfl fun hb=>tcg (n:=15) (sg:=QeX.sg) Ql (TOk.cons QnA TOk.nil) (by kernel_rfl) (by kernel_rfl) (QP1 _ v ?_)
 have hl_v:v.length≤9223372036854775807:=hb.1.1
 exact QbU (Q:=fun x=>QdY x=QdY (Zs v)) (p:=Q6) (c:=fun x=>!(Q6 x)) 0 hl_v (fun _=>rfl) (fun i h=>QNQ _ v i h) (R_eq (by simp [Zs]))
theorem Qjk:Qi Tryz.prog QeX:=Qm fun x _=>QNW x.1
def QdK (t:Bool):TRes:=zre (zcb t)
def QiW:TRow:=Qh 42 [(.c (.sl [TI]))] fun x=>(none,QdK (Q1 x.1))
def Qjh:List TRow:=[QhB,JB]
def Qwt:TCode :=
 (zsq [(zsq [(.reg [zmv 4 3,zmv 5 0,zle 6 5,zbi 7 .lss 4 6]),(.cond 7 .skip (.exit 0))]),(.block 1 (zsq [(.reg [zmv 10 0,zmv 11 3,zia 12 10 11 [TI],zld 13 12 1,zca 14 110 [13],zno 15 14]),(.cond 15 (zsq [(.reg [zmv 2 (zkb false)]),.ret]) .skip)])),(.reg [zmv 8 3,zbi 9 .add 8 (zki 1),zmv 3 9])])
def Qz7:List (Nat × Md):=zdl [0,3]
def Qqx:TCode :=
 (zsq [(.reg [zmv 16 0,zle 17 16,zca 18 77 [17,(zki 1),(zki 6)],zmv 2 18]),.ret])
def QFN:TCode :=
 (zsq [(.reg [zmv 2 (zkb false)]),(zsq [(.reg [zmv 3 (zki 0)]),(.block 0 (.loop Qz7 Qwt))]),Qqx])
def Qzq:List (ARv × Md):=[(.t 2,.one .d)]
def Qqt:Qb:=TQ 0 0 Qzq K
def QGn:Qb:=Qseq (tawp Qjh 0 Qqx (Qqt K)) (Qqt K)
def QH3:Qb:=Qblk 0 (QGn K)
def Qku (v:List Int) (i:Int):Prop:=Loop Qjh 0 Qz7 Qwt (QH3 K) ⟨[(0,(zcs [TI] v)),(3,(zci i))],[],0⟩
theorem QKH (v:List Int) (i:Int) (h :
(zif (decide (i<(v.length:Int))) (((0:Int)≤i∧Int.toNat i<v.length)∧(zif (!(Q6 (gtd (0:Int) v (Int.toNat i)))) (K (QdK false)) (Qku K v (w64 (i+(1:Int)))))) (K (QdK (m_in (v.length:Int) (1:Int) (6:Int)))))):Qku K v i :=
 Loop.of (by kernel_rfl) h
theorem QO4 (v:List Int) (h :
(Qku K v 0)):Hold (tawp Qjh (0+0) QFN (TQ 0 0 Qzq K) (Qf [(.c (.sl [TI]) v)])) :=
 Hold.of (by kernel_rfl) h
theorem QDe (v:List Int):TCon Tryz.prog 42 [(.c (.sl [TI]) v)] (QdK (Q1 v)):=by
 refine Qq rfl fun hb=>tcg (n:=19) (sg:=QiW.sg) Ql (TOk.cons Qu0 (TOk.cons J8 TOk.nil)) (by kernel_rfl) (by kernel_rfl) (QO4 _ v ?_)
 have hl_v:v.length≤9223372036854775807:=hb.1.1
 exact QbU (Q:=fun x=>QdK x=QdK (Q1 v)) (p:=Q6) (c:=fun x=>!(Q6 x)) 0 hl_v (fun _=>rfl) (fun i h=>QKH _ v i h) (R_eq (by grind [Q1,Zs]))
theorem Qtz:Qi Tryz.prog QiW:=Qm fun x _=>QDe x.1
def QlH (t:Bool):TRes:=zre (zcb t)
def Qbq:TRow:=Qh 134 [(.c (.sl [TI]))] fun x=>(none,QlH (Q1 x.1))
def QOQ:List TRow:=[QeX]
def QFC:TCode :=
 (zsq [(.reg [zmv 2 (zkb false)]),(.reg [zmv 3 0,zle 4 3,zbi 5 .geq 4 (zki 1),zmv 6 5,.grp 6 true [zmv 7 0,zle 8 7,zbi 9 .leq 8 (zki 6)] 10 9,zmv 11 10,.grp 11 true [zmv 12 0,zca 13 195 [12]] 14 13,zmv 2 14]),.ret])
def QI2:List (ARv × Md):=[(.t 2,.one .d)]
theorem QIb (v:List Int) (h :
K (QlH (((decide ((v.length:Int)≥(1:Int)))&&(decide ((v.length:Int)≤(6:Int))))&&(Zs v)))):Hold (tawp QOQ (0+0) QFC (TQ 0 0 QI2 K) (Qf [(.c (.sl [TI]) v)])) :=
 Hold.of (by kernel_rfl) h
theorem QHl (v:List Int):TCon Tryz.prog 134 [(.c (.sl [TI]) v)] (QlH (Q1 v)):=by
 refine Qq rfl fun hb=>tcg (n:=15) (sg:=Qbq.sg) Ql (TOk.cons Qjk TOk.nil) (by kernel_rfl) (by kernel_rfl) (QIb _ v ?_)
 have hl_v:v.length≤9223372036854775807:=hb.1.1
 exact R_eq (by grind [Q1,m_in])
theorem Qb7:Qi Tryz.prog Qbq:=Qm fun x _=>QHl x.1
def Qju (t:Bool):TRes:=zre (zcb t)
def JF:TRow:=Qh 114 [(.c (.sl [TI])),(.c TI)] fun x=>(none,Qju (Qs x.1 x.2.1))
def QEc:List TRow:=[Qbq]
def QMm:TCode :=
 (zsq [(.reg [zmv 4 (zkb false)]),(.reg [zmv 5 0,zca 6 134 [5],zmv 7 6,.grp 7 true [zmv 8 0,zle 9 8,zmv 10 1,zbi 11 .eql 9 10] 12 11,zmv 4 12]),.ret])
def QLE:List (ARv × Md):=[(.t 4,.one .d)]
theorem QKx (v:List Int) (n:Int) (h :
K (Qju ((Q1 v)&&((v.length:Int)==n)))):Hold (tawp QEc (0+0) QMm (TQ 0 0 QLE K) (Qf [(.c (.sl [TI]) v),(.c TI n)])) :=
 Hold.of (by kernel_rfl) h
theorem QGt (v:List Int) (n:Int):TCon Tryz.prog 114 [(.c (.sl [TI]) v),(.c TI n)] (Qju (Qs v n)):=by
 refine Qq rfl fun hb=>tcg (n:=13) (sg:=JF.sg) Ql (TOk.cons Qb7 TOk.nil) (by kernel_rfl) (by kernel_rfl) (QKx _ v n ?_)
 have hl_v:v.length≤9223372036854775807:=hb.1.1
 exact R_eq (by simp [Qs])
theorem Qaf:Qi Tryz.prog JF:=Qm fun x _=>QGt x.1 x.2.1
def QnE (t:Bool):TRes:=zre (zcb t)
def Qll:TRow:=Qh 186 [(.c (.sl [TI])),(.c TI)] fun x=>(none,QnE (YU x.1 x.2.1))
def QD4:List TRow:=[JF]
def QFz:TCode :=
 (zsq [(.reg [zmv 4 (zkb false)]),(.reg [zmv 5 0,zle 6 5,zbi 7 .eql 6 (zki 0),zmv 8 7,.grp 8 false [zmv 9 0,zmv 10 1,zca 11 114 [9,10]] 12 11,zmv 4 12]),.ret])
def QPF:List (ARv × Md):=[(.t 4,.one .d)]
theorem QPO (v:List Int) (n:Int) (h :
K (QnE (((v.length:Int)==(0:Int))||(Qs v n)))):Hold (tawp QD4 (0+0) QFz (TQ 0 0 QPF K) (Qf [(.c (.sl [TI]) v),(.c TI n)])) :=
 Hold.of (by kernel_rfl) h
theorem QIe (v:List Int) (n:Int):TCon Tryz.prog 186 [(.c (.sl [TI]) v),(.c TI n)] (QnE (YU v n)):=by
 refine Qq rfl fun hb=>tcg (n:=13) (sg:=Qll.sg) Ql (TOk.cons Qaf TOk.nil) (by kernel_rfl) (by kernel_rfl) (QPO _ v n ?_)
 have hl_v:v.length≤9223372036854775807:=hb.1.1
 exact R_eq (by simp [YU,Qs])
theorem QLY:Qi Tryz.prog Qll:=Qm fun x _=>QIe x.1 x.2.1
end
end Go.Proofs.YtjbdljkhbglnhaaGreat.Am

