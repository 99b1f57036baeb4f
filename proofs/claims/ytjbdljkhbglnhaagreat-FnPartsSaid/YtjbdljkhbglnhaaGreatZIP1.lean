/- -/
import Derived.Test.YtjbdljkhbglnhaaGreatZIG8
namespace Go.Proofs.YtjbdljkhbglnhaaGreat.Am
open Go Go.RowKit Go.Proofs.YtjbdljkhbglnhaaGreat
set_option linter.all false
noncomputable section
variable (K:TRes→Prop)
def Qlc (t:Bool):TRes:=zre (zcb t)
def YN:TRow:=Qk 77 [(.c TI),(.c TI),(.c TI)] fun x=>(none,Qlc (m_in x.1 x.2.1 x.2.2.1))
def QXW:List TRow:=[]
def QNA:TCode :=
 (zsq [(.reg [zmv 6 (zkb false)]),(.reg [zmv 7 0,zmv 8 1,zbi 9 .geq 7 8,zmv 10 9,.grp 10 true [zmv 11 0,zmv 12 2,zbi 13 .leq 11 12] 14 13,zmv 6 14]),.ret])
def QTR:List (ARv × Md):=[(.t 6,.one .d)]
theorem QVF (x:Int) (low:Int) (high:Int) (h :
 K (Qlc ((decide (x≥low))&&(decide (x≤high))))):Hold (tawp QXW (0+0) QNA (TQ 0 0 QTR K) (Qi [(.c TI x),(.c TI low),(.c TI high)])) :=
 Hold.of (by kernel_rfl) h
theorem QWp (x:Int) (low:Int) (high:Int):TCon Tryz.prog 77 [(.c TI x),(.c TI low),(.c TI high)] (Qlc (m_in x low high)):=by
 refine Qo rfl fun hb=>tcg (n:=15) (sg:=YN.sg) Qm TOk.nil (by kernel_rfl) (by kernel_rfl) (QVF _ x low high ?_)
 exact R_eq rfl
theorem Y5:Ql Tryz.prog YN:=Qn fun x _=>QWp x.1 x.2.1 x.2.2.1
def Qnk (t:Bool):TRes:=zre (zcb t)
def QdS:TRow:=Qk 110 [(.c TI)] fun x=>(none,Qnk (Zb x.1))
def QVA:List TRow:=[YN]
def QXq:TCode :=
 (zsq [(.reg [zmv 2 (zkb false)]),(.reg [zmv 3 0,zca 4 77 [3,(zki (-2147483647)),(zki 2147483647)],zmv 2 4]),.ret])
def QMG:List (ARv × Md):=[(.t 2,.one .d)]
theorem QHE (x:Int) (h :
 K (Qnk (m_in x (-2147483647:Int) (2147483647:Int)))):Hold (tawp QVA (0+0) QXq (TQ 0 0 QMG K) (Qi [(.c TI x)])) :=
 Hold.of (by kernel_rfl) h
theorem QIf (x:Int):TCon Tryz.prog 110 [(.c TI x)] (Qnk (Zb x)):=by
 refine Qo rfl fun hb=>tcg (n:=5) (sg:=QdS.sg) Qm (TOk.cons Y5 TOk.nil) (by kernel_rfl) (by kernel_rfl) (QHE _ x ?_)
 exact R_eq rfl
theorem Qj4:Ql Tryz.prog QdS:=Qn fun x _=>QIf x.1
def Qpy (t:Bool):TRes:=zre (zcb t)
def Qe4:TRow:=Qk 217 [(.c TI)] fun x=>(none,Qpy (Zb x.1))
def QV7:List TRow:=[]
def QSv:TCode :=
 (zsq [(.reg [zmv 2 (zkb false)]),(.reg [zmv 3 0,zbi 4 .geq 3 (zki (-2147483647)),zmv 5 4,.grp 5 true [zmv 6 0,zbi 7 .leq 6 (zki 2147483647)] 8 7,zmv 2 8]),.ret])
def QJt:List (ARv × Md):=[(.t 2,.one .d)]
theorem QIj (x:Int) (h :
 K (Qpy ((decide (x≥(-2147483647:Int)))&&(decide (x≤(2147483647:Int)))))):Hold (tawp QV7 (0+0) QSv (TQ 0 0 QJt K) (Qi [(.c TI x)])) :=
 Hold.of (by kernel_rfl) h
theorem QQW (x:Int):TCon Tryz.prog 217 [(.c TI x)] (Qpy (Zb x)):=by
 refine Qo rfl fun hb=>tcg (n:=9) (sg:=Qe4.sg) Qm TOk.nil (by kernel_rfl) (by kernel_rfl) (QIj _ x ?_)
 exact R_eq rfl
theorem Qp0:Ql Tryz.prog Qe4:=Qn fun x _=>QQW x.1
def Qev (t:Bool):TRes:=zre (zcb t)
def Qgd:TRow:=Qk 195 [(.c (.sl [TI]))] fun x=>(none,Qev (Zz x.1))
def QmD:List TRow:=[Qe4]
def QtY:TCode :=
 (zsq [(.reg [zbi 8 .lss 7 6]),(.cond 8 .skip (.exit 0)),(.block 1 (zsq [(.reg [zia 9 5 7 [TI],zld 10 9 1,zmv 4 10]),(.reg [zmv 11 4,zca 12 217 [11],zno 13 12]),(.cond 13 (zsq [(.reg [zmv 2 (zkb false)]),.ret]) .skip)])),(.reg [zbi 14 .add 7 (zki 1),zmv 7 14])])
def Qu2:List (Nat × Md):=zdl [5,6,7]
def QzO:TCode :=
 (zsq [(.reg [zmv 2 (zkb true)]),.ret])
def QG5:TCode :=
 (zsq [(.reg [zmv 2 (zkb false)]),(zsq [(.reg [zmv 5 0,zle 6 5,zmv 7 (zki 0)]),(.block 0 (.loop Qu2 QtY))]),QzO])
def QAd:List (ARv × Md):=[(.t 2,.one .d)]
def QwD:Qb:=TQ 0 0 QAd K
def QUA:Qb:=Qseq (tawp QmD 0 QzO (QwD K)) (QwD K)
def QLW:Qb:=Qblk 0 (QUA K)
def Qli (v:List Int) (x:Int):Prop:=Loop QmD 0 Qu2 QtY (QLW K) ⟨[(5,(zcs [TI] v)),(6,(zci (v.length:Int))),(7,(zci x))],[],0⟩
theorem QTE (v:List Int) (x:Int) (h :
 (zif (decide (x<(v.length:Int))) (((0:Int)≤x∧Int.toNat x<v.length)∧(zif (!(Zb (gtd (0:Int) v (Int.toNat x)))) (K (Qev false)) (Qli K v (w64 (x+(1:Int)))))) (K (Qev true)))):Qli K v x :=
 Loop.of (by kernel_rfl) h
theorem QNj (v:List Int) (h :
 (Qli K v 0)):Hold (tawp QmD (0+0) QG5 (TQ 0 0 QAd K) (Qi [(.c (.sl [TI]) v)])) :=
 Hold.of (by kernel_rfl) h
theorem QSd (v:List Int):TCon Tryz.prog 195 [(.c (.sl [TI]) v)] (Qev (Zz v)):=by
 refine Qo rfl fun hb=>tcg (n:=15) (sg:=Qgd.sg) Qm (TOk.cons Qp0 TOk.nil) (by kernel_rfl) (by kernel_rfl) (QNj _ v ?_)
 have hl_v:v.length≤9223372036854775807:=hb.1.1
 exact QbR (Q:=fun x=>Qev x=Qev (Zz v)) (p:=Zb) (c:=fun x=>!(Zb x)) 0 hl_v (fun _=>rfl) (fun i h=>QTE _ v i h) (R_eq (by simp [Zz]))
theorem Qnt:Ql Tryz.prog Qgd:=Qn fun x _=>QSd x.1
def QdT (t:Bool):TRes:=zre (zcb t)
def Jc:TRow:=Qk 42 [(.c (.sl [TI]))] fun x=>(none,QdT (QJ x.1))
def Qoj:List TRow:=[QdS,YN]
def QuW:TCode :=
 (zsq [(zsq [(.reg [zmv 4 3,zmv 5 0,zle 6 5,zbi 7 .lss 4 6]),(.cond 7 .skip (.exit 0))]),(.block 1 (zsq [(.reg [zmv 10 0,zmv 11 3,zia 12 10 11 [TI],zld 13 12 1,zca 14 110 [13],zno 15 14]),(.cond 15 (zsq [(.reg [zmv 2 (zkb false)]),.ret]) .skip)])),(.reg [zmv 8 3,zbi 9 .add 8 (zki 1),zmv 3 9])])
def QrY:List (Nat × Md):=zdl [0,3]
def QBh:TCode :=
 (zsq [(.reg [zmv 16 0,zle 17 16,zca 18 77 [17,(zki 1),(zki 6)],zmv 2 18]),.ret])
def QI2:TCode :=
 (zsq [(.reg [zmv 2 (zkb false)]),(zsq [(.reg [zmv 3 (zki 0)]),(.block 0 (.loop QrY QuW))]),QBh])
def Qro:List (ARv × Md):=[(.t 2,.one .d)]
def QAj:Qb:=TQ 0 0 Qro K
def QGN:Qb:=Qseq (tawp Qoj 0 QBh (QAj K)) (QAj K)
def QSH:Qb:=Qblk 0 (QGN K)
def Qpx (v:List Int) (i:Int):Prop:=Loop Qoj 0 QrY QuW (QSH K) ⟨[(0,(zcs [TI] v)),(3,(zci i))],[],0⟩
theorem QLd (v:List Int) (i:Int) (h :
 (zif (decide (i<(v.length:Int))) (((0:Int)≤i∧Int.toNat i<v.length)∧(zif (!(Zb (gtd (0:Int) v (Int.toNat i)))) (K (QdT false)) (Qpx K v (w64 (i+(1:Int)))))) (K (QdT (m_in (v.length:Int) (1:Int) (6:Int)))))):Qpx K v i :=
 Loop.of (by kernel_rfl) h
theorem QXF (v:List Int) (h :
 (Qpx K v 0)):Hold (tawp Qoj (0+0) QI2 (TQ 0 0 Qro K) (Qi [(.c (.sl [TI]) v)])) :=
 Hold.of (by kernel_rfl) h
theorem QGT (v:List Int):TCon Tryz.prog 42 [(.c (.sl [TI]) v)] (QdT (QJ v)):=by
 refine Qo rfl fun hb=>tcg (n:=19) (sg:=Jc.sg) Qm (TOk.cons Qj4 (TOk.cons Y5 TOk.nil)) (by kernel_rfl) (by kernel_rfl) (QXF _ v ?_)
 have hl_v:v.length≤9223372036854775807:=hb.1.1
 exact QbR (Q:=fun x=>QdT x=QdT (QJ v)) (p:=Zb) (c:=fun x=>!(Zb x)) 0 hl_v (fun _=>rfl) (fun i h=>QLd _ v i h) (R_eq (by grind [QJ,Zz]))
theorem Jr:Ql Tryz.prog Jc:=Qn fun x _=>QGT x.1
def Qqb (t:Bool):TRes:=zre (zcb t)
def Qbh:TRow:=Qk 134 [(.c (.sl [TI]))] fun x=>(none,Qqb (QJ x.1))
def QUk:List TRow:=[Qgd]
def QFB:TCode :=
 (zsq [(.reg [zmv 2 (zkb false)]),(.reg [zmv 3 0,zle 4 3,zbi 5 .geq 4 (zki 1),zmv 6 5,.grp 6 true [zmv 7 0,zle 8 7,zbi 9 .leq 8 (zki 6)] 10 9,zmv 11 10,.grp 11 true [zmv 12 0,zca 13 195 [12]] 14 13,zmv 2 14]),.ret])
def QTs:List (ARv × Md):=[(.t 2,.one .d)]
theorem QSt (v:List Int) (h :
 K (Qqb (((decide ((v.length:Int)≥(1:Int)))&&(decide ((v.length:Int)≤(6:Int))))&&(Zz v)))):Hold (tawp QUk (0+0) QFB (TQ 0 0 QTs K) (Qi [(.c (.sl [TI]) v)])) :=
 Hold.of (by kernel_rfl) h
theorem QMn (v:List Int):TCon Tryz.prog 134 [(.c (.sl [TI]) v)] (Qqb (QJ v)):=by
 refine Qo rfl fun hb=>tcg (n:=15) (sg:=Qbh.sg) Qm (TOk.cons Qnt TOk.nil) (by kernel_rfl) (by kernel_rfl) (QSt _ v ?_)
 have hl_v:v.length≤9223372036854775807:=hb.1.1
 exact R_eq (by grind [QJ,m_in])
theorem Qds:Ql Tryz.prog Qbh:=Qn fun x _=>QMn x.1
def QlP (t:Bool):TRes:=zre (zcb t)
def Qac:TRow:=Qk 114 [(.c (.sl [TI])),(.c TI)] fun x=>(none,QlP (Qr x.1 x.2.1))
def QMI:List TRow:=[Qbh]
def QNs:TCode :=
 (zsq [(.reg [zmv 4 (zkb false)]),(.reg [zmv 5 0,zca 6 134 [5],zmv 7 6,.grp 7 true [zmv 8 0,zle 9 8,zmv 10 1,zbi 11 .eql 9 10] 12 11,zmv 4 12]),.ret])
def QUz:List (ARv × Md):=[(.t 4,.one .d)]
theorem QMp (v:List Int) (n:Int) (h :
 K (QlP ((QJ v)&&((v.length:Int)==n)))):Hold (tawp QMI (0+0) QNs (TQ 0 0 QUz K) (Qi [(.c (.sl [TI]) v),(.c TI n)])) :=
 Hold.of (by kernel_rfl) h
theorem QRt (v:List Int) (n:Int):TCon Tryz.prog 114 [(.c (.sl [TI]) v),(.c TI n)] (QlP (Qr v n)):=by
 refine Qo rfl fun hb=>tcg (n:=13) (sg:=Qac.sg) Qm (TOk.cons Qds TOk.nil) (by kernel_rfl) (by kernel_rfl) (QMp _ v n ?_)
 have hl_v:v.length≤9223372036854775807:=hb.1.1
 exact R_eq (by simp [Qr])
theorem QaH:Ql Tryz.prog Qac:=Qn fun x _=>QRt x.1 x.2.1
def Qqf (t:Bool):TRes:=zre (zcb t)
def Qlf:TRow:=Qk 186 [(.c (.sl [TI])),(.c TI)] fun x=>(none,Qqf (Yn x.1 x.2.1))
def QH0:List TRow:=[Qac]
def QKy:TCode :=
 (zsq [(.reg [zmv 4 (zkb false)]),(.reg [zmv 5 0,zle 6 5,zbi 7 .eql 6 (zki 0),zmv 8 7,.grp 8 false [zmv 9 0,zmv 10 1,zca 11 114 [9,10]] 12 11,zmv 4 12]),.ret])
def QOM:List (ARv × Md):=[(.t 4,.one .d)]
theorem QIG (v:List Int) (n:Int) (h :
 K (Qqf (((v.length:Int)==(0:Int))||(Qr v n)))):Hold (tawp QH0 (0+0) QKy (TQ 0 0 QOM K) (Qi [(.c (.sl [TI]) v),(.c TI n)])) :=
 Hold.of (by kernel_rfl) h
theorem QU4 (v:List Int) (n:Int):TCon Tryz.prog 186 [(.c (.sl [TI]) v),(.c TI n)] (Qqf (Yn v n)):=by
 refine Qo rfl fun hb=>tcg (n:=13) (sg:=Qlf.sg) Qm (TOk.cons QaH TOk.nil) (by kernel_rfl) (by kernel_rfl) (QIG _ v n ?_)
 have hl_v:v.length≤9223372036854775807:=hb.1.1
 exact R_eq (by simp [Yn,Qr])
theorem QXv:Ql Tryz.prog Qlf:=Qn fun x _=>QU4 x.1 x.2.1
def Qn5 (t:Bool):TRes:=zre (zcb t)
def QlS:TRow:=Qk 109 [(.c (.sl [TI])),(.c TI)] fun x=>(none,Qn5 (Yn x.1 x.2.1))
def QWG:List TRow:=[Jc]
def QVc:TCode :=
 (zsq [(.reg [zmv 4 (zkb false)]),(.reg [zmv 5 0,zle 6 5,zbi 7 .eql 6 (zki 0),zmv 8 7,.grp 8 false [zmv 9 0,zca 10 42 [9],zmv 11 10,.grp 11 true [zmv 12 0,zle 13 12,zmv 14 1,zbi 15 .eql 13 14] 16 15] 17 16,zmv 4 17]),.ret])
def QJU:List (ARv × Md):=[(.t 4,.one .d)]
theorem QK1 (v:List Int) (n:Int) (h :
 K (Qn5 (((v.length:Int)==(0:Int))||((QJ v)&&((v.length:Int)==n))))):Hold (tawp QWG (0+0) QVc (TQ 0 0 QJU K) (Qi [(.c (.sl [TI]) v),(.c TI n)])) :=
 Hold.of (by kernel_rfl) h
theorem QHL (v:List Int) (n:Int):TCon Tryz.prog 109 [(.c (.sl [TI]) v),(.c TI n)] (Qn5 (Yn v n)):=by
 refine Qo rfl fun hb=>tcg (n:=18) (sg:=QlS.sg) Qm (TOk.cons Jr TOk.nil) (by kernel_rfl) (by kernel_rfl) (QK1 _ v n ?_)
 have hl_v:v.length≤9223372036854775807:=hb.1.1
 exact R_eq (by simp [Yn,Qr])
theorem QOF:Ql Tryz.prog QlS:=Qn fun x _=>QHL x.1 x.2.1
end
end Go.Proofs.YtjbdljkhbglnhaaGreat.Am

