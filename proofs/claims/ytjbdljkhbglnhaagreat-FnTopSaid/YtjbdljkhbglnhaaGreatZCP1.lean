/- -/
import Derived.Test.YtjbdljkhbglnhaaGreatZCG8
namespace Go.Proofs.YtjbdljkhbglnhaaGreat.Am
open Go Go.RowKit Go.Proofs.YtjbdljkhbglnhaaGreat
set_option linter.all false
noncomputable section
variable (K:TRes→Prop)
def Qqa (t:Bool):TRes:=zre (zcb t)
def Jm:TRow:=Qf 77 [(.c TI),(.c TI),(.c TI)] fun x=>(none,Qqa (m_in x.1 x.2.1 x.2.2.1))
def QVF:List TRow:=[]
def QNb:TCode :=
 (zsq [(.reg [zmv 6 (zkb false)]),(.reg [zmv 7 0,zmv 8 1,zbi 9 .geq 7 8,zmv 10 9,.grp 10 true [zmv 11 0,zmv 12 2,zbi 13 .leq 11 12] 14 13,zmv 6 14]),.ret])
def QPy:List (ARv × Md):=[(.t 6,.one .d)]
theorem QNu (x:Int) (low:Int) (high:Int) (h :
 K (Qqa ((decide (x≥low))&&(decide (x≤high))))):Hold (tawp QVF (0+0) QNb (TQ 0 0 QPy K) (Qd [(.c TI x),(.c TI low),(.c TI high)])) :=
 Hold.of (by kernel_rfl) h
theorem QPi (x:Int) (low:Int) (high:Int):TCon Tryz.prog 77 [(.c TI x),(.c TI low),(.c TI high)] (Qqa (m_in x low high)):=by
 refine Qj rfl fun hb=>tcg (n:=15) (sg:=Jm.sg) Qg TOk.nil (by kernel_rfl) (by kernel_rfl) (QNu _ x low high ?_)
 exact R_eq rfl
theorem JJ:Qe Tryz.prog Jm:=Qh fun x _=>QPi x.1 x.2.1 x.2.2.1
def Qp2 (t:Bool):TRes:=zre (zcb t)
def QdX:TRow:=Qf 110 [(.c TI)] fun x=>(none,Qp2 (Q8 x.1))
def QRT:List TRow:=[Jm]
def QFP:TCode :=
 (zsq [(.reg [zmv 2 (zkb false)]),(.reg [zmv 3 0,zca 4 77 [3,(zki (-2147483647)),(zki 2147483647)],zmv 2 4]),.ret])
def QEQ:List (ARv × Md):=[(.t 2,.one .d)]
theorem QHZ (x:Int) (h :
 K (Qp2 (m_in x (-2147483647:Int) (2147483647:Int)))):Hold (tawp QRT (0+0) QFP (TQ 0 0 QEQ K) (Qd [(.c TI x)])) :=
 Hold.of (by kernel_rfl) h
theorem QWt (x:Int):TCon Tryz.prog 110 [(.c TI x)] (Qp2 (Q8 x)):=by
 refine Qj rfl fun hb=>tcg (n:=5) (sg:=QdX.sg) Qg (TOk.cons JJ TOk.nil) (by kernel_rfl) (by kernel_rfl) (QHZ _ x ?_)
 exact R_eq rfl
theorem QhQ:Qe Tryz.prog QdX:=Qh fun x _=>QWt x.1
def QqR (t:Bool):TRes:=zre (zcb t)
def Qgc:TRow:=Qf 217 [(.c TI)] fun x=>(none,QqR (Q8 x.1))
def QFL:List TRow:=[]
def QPg:TCode :=
 (zsq [(.reg [zmv 2 (zkb false)]),(.reg [zmv 3 0,zbi 4 .geq 3 (zki (-2147483647)),zmv 5 4,.grp 5 true [zmv 6 0,zbi 7 .leq 6 (zki 2147483647)] 8 7,zmv 2 8]),.ret])
def QQ7:List (ARv × Md):=[(.t 2,.one .d)]
theorem QWT (x:Int) (h :
 K (QqR ((decide (x≥(-2147483647:Int)))&&(decide (x≤(2147483647:Int)))))):Hold (tawp QFL (0+0) QPg (TQ 0 0 QQ7 K) (Qd [(.c TI x)])) :=
 Hold.of (by kernel_rfl) h
theorem QIO (x:Int):TCon Tryz.prog 217 [(.c TI x)] (QqR (Q8 x)):=by
 refine Qj rfl fun hb=>tcg (n:=9) (sg:=Qgc.sg) Qg TOk.nil (by kernel_rfl) (by kernel_rfl) (QWT _ x ?_)
 exact R_eq rfl
theorem Qlr:Qe Tryz.prog Qgc:=Qh fun x _=>QIO x.1
def Qeo (t:Bool):TRes:=zre (zcb t)
def Qfx:TRow:=Qf 195 [(.c (.sl [TI]))] fun x=>(none,Qeo (ZD x.1))
def QkS:List TRow:=[Qgc]
def Qye:TCode :=
 (zsq [(.reg [zbi 8 .lss 7 6]),(.cond 8 .skip (.exit 0)),(.block 1 (zsq [(.reg [zia 9 5 7 [TI],zld 10 9 1,zmv 4 10]),(.reg [zmv 11 4,zca 12 217 [11],zno 13 12]),(.cond 13 (zsq [(.reg [zmv 2 (zkb false)]),.ret]) .skip)])),(.reg [zbi 14 .add 7 (zki 1),zmv 7 14])])
def QrF:List (Nat × Md):=zdl [5,6,7]
def Qus:TCode :=
 (zsq [(.reg [zmv 2 (zkb true)]),.ret])
def QQg:TCode :=
 (zsq [(.reg [zmv 2 (zkb false)]),(zsq [(.reg [zmv 5 0,zle 6 5,zmv 7 (zki 0)]),(.block 0 (.loop QrF Qye))]),Qus])
def QvI:List (ARv × Md):=[(.t 2,.one .d)]
def Qyz:Qb:=TQ 0 0 QvI K
def QKw:Qb:=Qseq (tawp QkS 0 Qus (Qyz K)) (Qyz K)
def QQA:Qb:=Qblk 0 (QKw K)
def Qmw (v:List Int) (x:Int):Prop:=Loop QkS 0 QrF Qye (QQA K) ⟨[(5,(zcs [TI] v)),(6,(zci (v.length:Int))),(7,(zci x))],[],0⟩
theorem QP9 (v:List Int) (x:Int) (h :
 (zif (decide (x<(v.length:Int))) (((0:Int)≤x∧Int.toNat x<v.length)∧(zif (!(Q8 (gtd (0:Int) v (Int.toNat x)))) (K (Qeo false)) (Qmw K v (w64 (x+(1:Int)))))) (K (Qeo true)))):Qmw K v x :=
 Loop.of (by kernel_rfl) h
theorem QXD (v:List Int) (h :
 (Qmw K v 0)):Hold (tawp QkS (0+0) QQg (TQ 0 0 QvI K) (Qd [(.c (.sl [TI]) v)])) :=
 Hold.of (by kernel_rfl) h
theorem QHl (v:List Int):TCon Tryz.prog 195 [(.c (.sl [TI]) v)] (Qeo (ZD v)):=by
 refine Qj rfl fun hb=>tcg (n:=15) (sg:=Qfx.sg) Qg (TOk.cons Qlr TOk.nil) (by kernel_rfl) (by kernel_rfl) (QXD _ v ?_)
 have hl_v:v.length≤9223372036854775807:=hb.1.1
 exact Qbu (Q:=fun x=>Qeo x=Qeo (ZD v)) (p:=Q8) (c:=fun x=>!(Q8 x)) 0 hl_v (fun _=>rfl) (fun i h=>QP9 _ v i h) (R_eq (by simp [ZD]))
theorem Ql3:Qe Tryz.prog Qfx:=Qh fun x _=>QHl x.1
def QdR (t:Bool):TRes:=zre (zcb t)
def Qar:TRow:=Qf 42 [(.c (.sl [TI]))] fun x=>(none,QdR (QU x.1))
def QmB:List TRow:=[QdX,Jm]
def QD2:TCode :=
 (zsq [(zsq [(.reg [zmv 4 3,zmv 5 0,zle 6 5,zbi 7 .lss 4 6]),(.cond 7 .skip (.exit 0))]),(.block 1 (zsq [(.reg [zmv 10 0,zmv 11 3,zia 12 10 11 [TI],zld 13 12 1,zca 14 110 [13],zno 15 14]),(.cond 15 (zsq [(.reg [zmv 2 (zkb false)]),.ret]) .skip)])),(.reg [zmv 8 3,zbi 9 .add 8 (zki 1),zmv 3 9])])
def Qxt:List (Nat × Md):=zdl [0,3]
def QqU:TCode :=
 (zsq [(.reg [zmv 16 0,zle 17 16,zca 18 77 [17,(zki 1),(zki 6)],zmv 2 18]),.ret])
def QKc:TCode :=
 (zsq [(.reg [zmv 2 (zkb false)]),(zsq [(.reg [zmv 3 (zki 0)]),(.block 0 (.loop Qxt QD2))]),QqU])
def QCx:List (ARv × Md):=[(.t 2,.one .d)]
def Qt3:Qb:=TQ 0 0 QCx K
def QVa:Qb:=Qseq (tawp QmB 0 QqU (Qt3 K)) (Qt3 K)
def QVm:Qb:=Qblk 0 (QVa K)
def Qn5 (v:List Int) (i:Int):Prop:=Loop QmB 0 Qxt QD2 (QVm K) ⟨[(0,(zcs [TI] v)),(3,(zci i))],[],0⟩
theorem QTh (v:List Int) (i:Int) (h :
 (zif (decide (i<(v.length:Int))) (((0:Int)≤i∧Int.toNat i<v.length)∧(zif (!(Q8 (gtd (0:Int) v (Int.toNat i)))) (K (QdR false)) (Qn5 K v (w64 (i+(1:Int)))))) (K (QdR (m_in (v.length:Int) (1:Int) (6:Int)))))):Qn5 K v i :=
 Loop.of (by kernel_rfl) h
theorem QKi (v:List Int) (h :
 (Qn5 K v 0)):Hold (tawp QmB (0+0) QKc (TQ 0 0 QCx K) (Qd [(.c (.sl [TI]) v)])) :=
 Hold.of (by kernel_rfl) h
theorem QIf (v:List Int):TCon Tryz.prog 42 [(.c (.sl [TI]) v)] (QdR (QU v)):=by
 refine Qj rfl fun hb=>tcg (n:=19) (sg:=Qar.sg) Qg (TOk.cons QhQ (TOk.cons JJ TOk.nil)) (by kernel_rfl) (by kernel_rfl) (QKi _ v ?_)
 have hl_v:v.length≤9223372036854775807:=hb.1.1
 exact Qbu (Q:=fun x=>QdR x=QdR (QU v)) (p:=Q8) (c:=fun x=>!(Q8 x)) 0 hl_v (fun _=>rfl) (fun i h=>QTh _ v i h) (R_eq (by grind [QU,ZD]))
theorem Qbm:Qe Tryz.prog Qar:=Qh fun x _=>QIf x.1
def QoU (t:Bool):TRes:=zre (zcb t)
def Qbs:TRow:=Qf 134 [(.c (.sl [TI]))] fun x=>(none,QoU (QU x.1))
def QWJ:List TRow:=[Qfx]
def QX5:TCode :=
 (zsq [(.reg [zmv 2 (zkb false)]),(.reg [zmv 3 0,zle 4 3,zbi 5 .geq 4 (zki 1),zmv 6 5,.grp 6 true [zmv 7 0,zle 8 7,zbi 9 .leq 8 (zki 6)] 10 9,zmv 11 10,.grp 11 true [zmv 12 0,zca 13 195 [12]] 14 13,zmv 2 14]),.ret])
def QFt:List (ARv × Md):=[(.t 2,.one .d)]
theorem QXc (v:List Int) (h :
 K (QoU (((decide ((v.length:Int)≥(1:Int)))&&(decide ((v.length:Int)≤(6:Int))))&&(ZD v)))):Hold (tawp QWJ (0+0) QX5 (TQ 0 0 QFt K) (Qd [(.c (.sl [TI]) v)])) :=
 Hold.of (by kernel_rfl) h
theorem QHB (v:List Int):TCon Tryz.prog 134 [(.c (.sl [TI]) v)] (QoU (QU v)):=by
 refine Qj rfl fun hb=>tcg (n:=15) (sg:=Qbs.sg) Qg (TOk.cons Ql3 TOk.nil) (by kernel_rfl) (by kernel_rfl) (QXc _ v ?_)
 have hl_v:v.length≤9223372036854775807:=hb.1.1
 exact R_eq (by grind [QU,m_in])
theorem QcE:Qe Tryz.prog Qbs:=Qh fun x _=>QHB x.1
def Qlw (t:Bool):TRes:=zre (zcb t)
def JO:TRow:=Qf 114 [(.c (.sl [TI])),(.c TI)] fun x=>(none,Qlw (Qr x.1 x.2.1))
def QEt:List TRow:=[Qbs]
def QMZ:TCode :=
 (zsq [(.reg [zmv 4 (zkb false)]),(.reg [zmv 5 0,zca 6 134 [5],zmv 7 6,.grp 7 true [zmv 8 0,zle 9 8,zmv 10 1,zbi 11 .eql 9 10] 12 11,zmv 4 12]),.ret])
def QJP:List (ARv × Md):=[(.t 4,.one .d)]
theorem QWU (v:List Int) (n:Int) (h :
 K (Qlw ((QU v)&&((v.length:Int)==n)))):Hold (tawp QEt (0+0) QMZ (TQ 0 0 QJP K) (Qd [(.c (.sl [TI]) v),(.c TI n)])) :=
 Hold.of (by kernel_rfl) h
theorem QXg (v:List Int) (n:Int):TCon Tryz.prog 114 [(.c (.sl [TI]) v),(.c TI n)] (Qlw (Qr v n)):=by
 refine Qj rfl fun hb=>tcg (n:=13) (sg:=JO.sg) Qg (TOk.cons QcE TOk.nil) (by kernel_rfl) (by kernel_rfl) (QWU _ v n ?_)
 have hl_v:v.length≤9223372036854775807:=hb.1.1
 exact R_eq (by simp [Qr])
theorem Qav:Qe Tryz.prog JO:=Qh fun x _=>QXg x.1 x.2.1
def Qqv (t:Bool):TRes:=zre (zcb t)
def QmH:TRow:=Qf 186 [(.c (.sl [TI])),(.c TI)] fun x=>(none,Qqv (YX x.1 x.2.1))
def QEk:List TRow:=[JO]
def QRy:TCode :=
 (zsq [(.reg [zmv 4 (zkb false)]),(.reg [zmv 5 0,zle 6 5,zbi 7 .eql 6 (zki 0),zmv 8 7,.grp 8 false [zmv 9 0,zmv 10 1,zca 11 114 [9,10]] 12 11,zmv 4 12]),.ret])
def QUA:List (ARv × Md):=[(.t 4,.one .d)]
theorem QEC (v:List Int) (n:Int) (h :
 K (Qqv (((v.length:Int)==(0:Int))||(Qr v n)))):Hold (tawp QEk (0+0) QRy (TQ 0 0 QUA K) (Qd [(.c (.sl [TI]) v),(.c TI n)])) :=
 Hold.of (by kernel_rfl) h
theorem QTI (v:List Int) (n:Int):TCon Tryz.prog 186 [(.c (.sl [TI]) v),(.c TI n)] (Qqv (YX v n)):=by
 refine Qj rfl fun hb=>tcg (n:=13) (sg:=QmH.sg) Qg (TOk.cons Qav TOk.nil) (by kernel_rfl) (by kernel_rfl) (QEC _ v n ?_)
 have hl_v:v.length≤9223372036854775807:=hb.1.1
 exact R_eq (by simp [YX,Qr])
theorem QIl:Qe Tryz.prog QmH:=Qh fun x _=>QTI x.1 x.2.1
end
end Go.Proofs.YtjbdljkhbglnhaaGreat.Am

