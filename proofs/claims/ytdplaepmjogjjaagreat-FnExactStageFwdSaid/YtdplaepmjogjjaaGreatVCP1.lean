/- -/
import Derived.Test.YtdplaepmjogjjaaGreatVCG8
namespace Go.Proofs.YtdplaepmjogjjaaGreat.Am
open Go Go.RowKit Go.Proofs.YtdplaepmjogjjaaGreat
set_option linter.all false
noncomputable section
variable (K:TRes→Prop)
def QhB (t:Bool):TRes:=zre (zcb t)
def Jk:TRow:=Qg 158 [(.c TI),(.c TI),(.c TI)] fun x=>(none,QhB (m_in x.1 x.2.1 x.2.2.1))
def Qrg:TTab:=⟨[],false⟩
def QEd:TCode :=
 (zsq [(.reg [zmv 6 (zkb false)]),(.reg [zmv 7 0,zmv 8 1,zbi 9 .geq 7 8,zmv 10 9,.grp 10 true [zmv 11 0,zmv 12 2,zbi 13 .leq 11 12] 14 13,zmv 6 14]),.ret])
def Qzj:List (ARv × Md):=[(.t 6,.one .d)]
theorem QGa (x:Int) (low:Int) (high:Int) (h :
 K (QhB ((decide (x≥low))&&(decide (x≤high))))):Hold (tawp Qrg (0+0) QEd (TQ 0 0 Qzj K) (Qd [(.c TI x),(.c TI low),(.c TI high)])) :=
 Hold.of (by kernel_rfl) h
theorem QFH (x:Int) (low:Int) (high:Int):TCon Tryz.prog 158 [(.c TI x),(.c TI low),(.c TI high)] (QhB (m_in x low high)):=by
 refine Qi rfl fun hb=>tcg (Γ:=Qrg) (n:=15) (sg:=Jk.sg) Qj TOkL.nil (by kernel_rfl) (by kernel_rfl) (QGa _ x low high ?_)
 exact R_eq rfl
theorem Qak:Qe Tryz.prog Jk:=Qk fun x _=>QFH x.1 x.2.1 x.2.2.1
def QgP (t:Bool):TRes:=zre (zcb t)
def Qbu:TRow:=Qg 183 [(.c TI)] fun x=>(none,QgP (Q2 x.1))
def QlS:TTab:=⟨[Jk],false⟩
def QD5:TCode :=
 (zsq [(.reg [zmv 2 (zkb false)]),(.reg [zmv 3 0,zca 4 158 [3,(zki (-2147483647)),(zki 2147483647)],zmv 2 4]),.ret])
def QvR:List (ARv × Md):=[(.t 2,.one .d)]
theorem Qzp (x:Int) (h :
 K (QgP (m_in x (-2147483647:Int) (2147483647:Int)))):Hold (tawp QlS (0+0) QD5 (TQ 0 0 QvR K) (Qd [(.c TI x)])) :=
 Hold.of (by kernel_rfl) h
theorem QCH (x:Int):TCon Tryz.prog 183 [(.c TI x)] (QgP (Q2 x)):=by
 refine Qi rfl fun hb=>tcg (Γ:=QlS) (n:=5) (sg:=Qbu.sg) Qj (TOkL.cons Qak TOkL.nil) (by kernel_rfl) (by kernel_rfl) (Qzp _ x ?_)
 exact R_eq rfl
theorem QfQ:Qe Tryz.prog Qbu:=Qk fun x _=>QCH x.1
def Qih (t:Bool):TRes:=zre (zcb t)
def Qcz:TRow:=Qg 240 [(.c TI)] fun x=>(none,Qih (Q2 x.1))
def Ql9:TTab:=⟨[],false⟩
def QGn:TCode :=
 (zsq [(.reg [zmv 2 (zkb false)]),(.reg [zmv 3 0,zbi 4 .geq 3 (zki (-2147483647)),zmv 5 4,.grp 5 true [zmv 6 0,zbi 7 .leq 6 (zki 2147483647)] 8 7,zmv 2 8]),.ret])
def QyS:List (ARv × Md):=[(.t 2,.one .d)]
theorem Qzq (x:Int) (h :
 K (Qih ((decide (x≥(-2147483647:Int)))&&(decide (x≤(2147483647:Int)))))):Hold (tawp Ql9 (0+0) QGn (TQ 0 0 QyS K) (Qd [(.c TI x)])) :=
 Hold.of (by kernel_rfl) h
theorem QAL (x:Int):TCon Tryz.prog 240 [(.c TI x)] (Qih (Q2 x)):=by
 refine Qi rfl fun hb=>tcg (Γ:=Ql9) (n:=9) (sg:=Qcz.sg) Qj TOkL.nil (by kernel_rfl) (by kernel_rfl) (Qzq _ x ?_)
 exact R_eq rfl
theorem Qgd:Qe Tryz.prog Qcz:=Qk fun x _=>QAL x.1
def Qbs (t:Bool):TRes:=zre (zcb t)
def Qcd:TRow:=Qg 238 [(.c (.sl [TI]))] fun x=>(none,Qbs (ZS x.1))
def Qdh:TTab:=⟨[Qcz],false⟩
def Qk2:TCode :=
 (zsq [(.reg [zbi 8 .lss 7 6]),(.cond 8 .skip (.exit 0)),(.block 1 (zsq [(.reg [zia 9 5 7 [TI],zld 10 9 1,zmv 4 10]),(.reg [zmv 11 4,zca 12 240 [11],zno 13 12]),(.cond 13 (zsq [(.reg [zmv 2 (zkb false)]),.ret]) .skip)])),(.reg [zbi 14 .add 7 (zki 1),zmv 7 14])])
def QsO:List (Nat × Md):=zdl [5,6,7]
def QpO:TCode :=
 (zsq [(.reg [zmv 2 (zkb true)]),.ret])
def QzA:TCode :=
 (zsq [(.reg [zmv 2 (zkb false)]),(zsq [(.reg [zmv 5 0,zle 6 5,zmv 7 (zki 0)]),(.block 0 (.loop QsO Qk2))]),QpO])
def Qpj:List (ARv × Md):=[(.t 2,.one .d)]
def QrF:Qb:=TQ 0 0 Qpj K
def QAj:Qb:=Qseq (tawp Qdh 0 QpO (QrF K)) (QrF K)
def Qwr:Qb:=Qblk 0 (QAj K)
def Qhp (v:List Int) (x:Int):Prop:=Loop Qdh 0 QsO Qk2 (Qwr K) ⟨[(5,(zcs [TI] v)),(6,(zci (v.length:Int))),(7,(zci x))],[],0⟩
theorem QFk (v:List Int) (x:Int) (h :
 (zif (decide (x<(v.length:Int))) (((0:Int)≤x∧Int.toNat x<v.length)∧(zif (!(Q2 (gtd (0:Int) v (Int.toNat x)))) (K (Qbs false)) (Qhp K v (w64 (x+(1:Int)))))) (K (Qbs true)))):Qhp K v x :=
 Loop.of (by kernel_rfl) h
theorem QFv (v:List Int) (h :
 (Qhp K v 0)):Hold (tawp Qdh (0+0) QzA (TQ 0 0 Qpj K) (Qd [(.c (.sl [TI]) v)])) :=
 Hold.of (by kernel_rfl) h
theorem Qyc (v:List Int):TCon Tryz.prog 238 [(.c (.sl [TI]) v)] (Qbs (ZS v)):=by
 refine Qi rfl fun hb=>tcg (Γ:=Qdh) (n:=15) (sg:=Qcd.sg) Qj (TOkL.cons Qgd TOkL.nil) (by kernel_rfl) (by kernel_rfl) (QFv _ v ?_)
 have hl_v:v.length≤9223372036854775807:=hb.1.1
 exact Qfo (Q:=fun x=>Qbs x=Qbs (ZS v)) (p:=Q2) (c:=fun x=>!(Q2 x)) 0 hl_v (fun _=>rfl) (fun i h=>QFk _ v i h) (R_eq (by simp [ZS]))
theorem Qjz:Qe Tryz.prog Qcd:=Qk fun x _=>Qyc x.1
def Qbn (t:Bool):TRes:=zre (zcb t)
def YQ:TRow:=Qg 97 [(.c (.sl [TI]))] fun x=>(none,Qbn (QD x.1))
def QfC:TTab:=⟨[Qbu,Jk],false⟩
def Qph:TCode :=
 (zsq [(zsq [(.reg [zmv 4 3,zmv 5 0,zle 6 5,zbi 7 .lss 4 6]),(.cond 7 .skip (.exit 0))]),(.block 1 (zsq [(.reg [zmv 10 0,zmv 11 3,zia 12 10 11 [TI],zld 13 12 1,zca 14 183 [13],zno 15 14]),(.cond 15 (zsq [(.reg [zmv 2 (zkb false)]),.ret]) .skip)])),(.reg [zmv 8 3,zbi 9 .add 8 (zki 1),zmv 3 9])])
def Qrq:List (Nat × Md):=zdl [0,3]
def QqS:TCode :=
 (zsq [(.reg [zmv 16 0,zle 17 16,zca 18 158 [17,(zki 1),(zki 6)],zmv 2 18]),.ret])
def Qzh:TCode :=
 (zsq [(.reg [zmv 2 (zkb false)]),(zsq [(.reg [zmv 3 (zki 0)]),(.block 0 (.loop Qrq Qph))]),QqS])
def QsR:List (ARv × Md):=[(.t 2,.one .d)]
def QtM:Qb:=TQ 0 0 QsR K
def QHn:Qb:=Qseq (tawp QfC 0 QqS (QtM K)) (QtM K)
def Qw2:Qb:=Qblk 0 (QHn K)
def Qkf (v:List Int) (i:Int):Prop:=Loop QfC 0 Qrq Qph (Qw2 K) ⟨[(0,(zcs [TI] v)),(3,(zci i))],[],0⟩
theorem Qzz (v:List Int) (i:Int) (h :
 (zif (decide (i<(v.length:Int))) (((0:Int)≤i∧Int.toNat i<v.length)∧(zif (!(Q2 (gtd (0:Int) v (Int.toNat i)))) (K (Qbn false)) (Qkf K v (w64 (i+(1:Int)))))) (K (Qbn (m_in (v.length:Int) (1:Int) (6:Int)))))):Qkf K v i :=
 Loop.of (by kernel_rfl) h
theorem QEc (v:List Int) (h :
 (Qkf K v 0)):Hold (tawp QfC (0+0) Qzh (TQ 0 0 QsR K) (Qd [(.c (.sl [TI]) v)])) :=
 Hold.of (by kernel_rfl) h
theorem QBG (v:List Int):TCon Tryz.prog 97 [(.c (.sl [TI]) v)] (Qbn (QD v)):=by
 refine Qi rfl fun hb=>tcg (Γ:=QfC) (n:=19) (sg:=YQ.sg) Qj (TOkL.cons QfQ (TOkL.cons Qak TOkL.nil)) (by kernel_rfl) (by kernel_rfl) (QEc _ v ?_)
 have hl_v:v.length≤9223372036854775807:=hb.1.1
 exact Qfo (Q:=fun x=>Qbn x=Qbn (QD v)) (p:=Q2) (c:=fun x=>!(Q2 x)) 0 hl_v (fun _=>rfl) (fun i h=>Qzz _ v i h) (R_eq (by grind [QD,ZS]))
theorem JI:Qe Tryz.prog YQ:=Qk fun x _=>QBG x.1
def Qi8 (t:Bool):TRes:=zre (zcb t)
def QbC:TRow:=Qg 187 [(.c (.sl [TI]))] fun x=>(none,Qi8 (QD x.1))
def QrG:TTab:=⟨[Qcd],false⟩
def Qui:TCode :=
 (zsq [(.reg [zmv 2 (zkb false)]),(.reg [zmv 3 0,zle 4 3,zbi 5 .geq 4 (zki 1),zmv 6 5,.grp 6 true [zmv 7 0,zle 8 7,zbi 9 .leq 8 (zki 6)] 10 9,zmv 11 10,.grp 11 true [zmv 12 0,zca 13 238 [12]] 14 13,zmv 2 14]),.ret])
def QAY:List (ARv × Md):=[(.t 2,.one .d)]
theorem QwE (v:List Int) (h :
 K (Qi8 (((decide ((v.length:Int)≥(1:Int)))&&(decide ((v.length:Int)≤(6:Int))))&&(ZS v)))):Hold (tawp QrG (0+0) Qui (TQ 0 0 QAY K) (Qd [(.c (.sl [TI]) v)])) :=
 Hold.of (by kernel_rfl) h
theorem QFo (v:List Int):TCon Tryz.prog 187 [(.c (.sl [TI]) v)] (Qi8 (QD v)):=by
 refine Qi rfl fun hb=>tcg (Γ:=QrG) (n:=15) (sg:=QbC.sg) Qj (TOkL.cons Qjz TOkL.nil) (by kernel_rfl) (by kernel_rfl) (QwE _ v ?_)
 have hl_v:v.length≤9223372036854775807:=hb.1.1
 exact R_eq (by grind [QD,m_in])
theorem QdR:Qe Tryz.prog QbC:=Qk fun x _=>QFo x.1
def Qgw (t:Bool):TRes:=zre (zcb t)
def Y0:TRow:=Qg 100 [(.c (.sl [TI])),(.c TI)] fun x=>(none,Qgw (Qw x.1 x.2.1))
def Qml:TTab:=⟨[QbC],false⟩
def QEA:TCode :=
 (zsq [(.reg [zmv 4 (zkb false)]),(.reg [zmv 5 0,zca 6 187 [5],zmv 7 6,.grp 7 true [zmv 8 0,zle 9 8,zmv 10 1,zbi 11 .eql 9 10] 12 11,zmv 4 12]),.ret])
def QDt:List (ARv × Md):=[(.t 4,.one .d)]
theorem QCg (v:List Int) (n:Int) (h :
 K (Qgw ((QD v)&&((v.length:Int)==n)))):Hold (tawp Qml (0+0) QEA (TQ 0 0 QDt K) (Qd [(.c (.sl [TI]) v),(.c TI n)])) :=
 Hold.of (by kernel_rfl) h
theorem QuA (v:List Int) (n:Int):TCon Tryz.prog 100 [(.c (.sl [TI]) v),(.c TI n)] (Qgw (Qw v n)):=by
 refine Qi rfl fun hb=>tcg (Γ:=Qml) (n:=13) (sg:=Y0.sg) Qj (TOkL.cons QdR TOkL.nil) (by kernel_rfl) (by kernel_rfl) (QCg _ v n ?_)
 have hl_v:v.length≤9223372036854775807:=hb.1.1
 exact R_eq (by simp [Qw])
theorem QaD:Qe Tryz.prog Y0:=Qk fun x _=>QuA x.1 x.2.1
def QgF (t:Bool):TRes:=zre (zcb t)
def QjT:TRow:=Qg 169 [(.c (.sl [TI])),(.c TI)] fun x=>(none,QgF (ZF x.1 x.2.1))
def Qnn:TTab:=⟨[Y0],false⟩
def QyW:TCode :=
 (zsq [(.reg [zmv 4 (zkb false)]),(.reg [zmv 5 0,zle 6 5,zbi 7 .eql 6 (zki 0),zmv 8 7,.grp 8 false [zmv 9 0,zmv 10 1,zca 11 100 [9,10]] 12 11,zmv 4 12]),.ret])
def Qzt:List (ARv × Md):=[(.t 4,.one .d)]
theorem QDC (v:List Int) (n:Int) (h :
 K (QgF (((v.length:Int)==(0:Int))||(Qw v n)))):Hold (tawp Qnn (0+0) QyW (TQ 0 0 Qzt K) (Qd [(.c (.sl [TI]) v),(.c TI n)])) :=
 Hold.of (by kernel_rfl) h
theorem QDg (v:List Int) (n:Int):TCon Tryz.prog 169 [(.c (.sl [TI]) v),(.c TI n)] (QgF (ZF v n)):=by
 refine Qi rfl fun hb=>tcg (Γ:=Qnn) (n:=13) (sg:=QjT.sg) Qj (TOkL.cons QaD TOkL.nil) (by kernel_rfl) (by kernel_rfl) (QDC _ v n ?_)
 have hl_v:v.length≤9223372036854775807:=hb.1.1
 exact R_eq (by simp [ZF,Qw])
theorem QCi:Qe Tryz.prog QjT:=Qk fun x _=>QDg x.1 x.2.1
def QhC (t:Bool):TRes:=zre (zcb t)
def QjN:TRow:=Qg 159 [(.c (.sl [TI])),(.c TI)] fun x=>(none,QhC (ZF x.1 x.2.1))
def Qri:TTab:=⟨[YQ],false⟩
def QHf:TCode :=
 (zsq [(.reg [zmv 4 (zkb false)]),(.reg [zmv 5 0,zle 6 5,zbi 7 .eql 6 (zki 0),zmv 8 7,.grp 8 false [zmv 9 0,zca 10 97 [9],zmv 11 10,.grp 11 true [zmv 12 0,zle 13 12,zmv 14 1,zbi 15 .eql 13 14] 16 15] 17 16,zmv 4 17]),.ret])
def QFw:List (ARv × Md):=[(.t 4,.one .d)]
theorem QDE (v:List Int) (n:Int) (h :
 K (QhC (((v.length:Int)==(0:Int))||((QD v)&&((v.length:Int)==n))))):Hold (tawp Qri (0+0) QHf (TQ 0 0 QFw K) (Qd [(.c (.sl [TI]) v),(.c TI n)])) :=
 Hold.of (by kernel_rfl) h
theorem QBL (v:List Int) (n:Int):TCon Tryz.prog 159 [(.c (.sl [TI]) v),(.c TI n)] (QhC (ZF v n)):=by
 refine Qi rfl fun hb=>tcg (Γ:=Qri) (n:=18) (sg:=QjN.sg) Qj (TOkL.cons JI TOkL.nil) (by kernel_rfl) (by kernel_rfl) (QDE _ v n ?_)
 have hl_v:v.length≤9223372036854775807:=hb.1.1
 exact R_eq (by simp [ZF,Qw])
theorem QzR:Qe Tryz.prog QjN:=Qk fun x _=>QBL x.1 x.2.1
end
end Go.Proofs.YtdplaepmjogjjaaGreat.Am

