/- -/
import Derived.Test.YtjbdljkhbglnhaaGreatZFG8
namespace Go.Proofs.YtjbdljkhbglnhaaGreat.Am
open Go Go.RowKit Go.Proofs.YtjbdljkhbglnhaaGreat
set_option linter.all false
noncomputable section
variable (K:TRes→Prop)
def QlB (t:Bool):TRes:=zre (zcb t)
def YR:TRow:=Qh 77 [(.c TI),(.c TI),(.c TI)] fun x=>(none,QlB (m_in x.1 x.2.1 x.2.2.1))
def Q2p:List TRow:=[]
def QKC:TCode :=
 (zsq [(.reg [zmv 6 (zkb false)]),(.reg [zmv 7 0,zmv 8 1,zbi 9 .geq 7 8,zmv 10 9,.grp 10 true [zmv 11 0,zmv 12 2,zbi 13 .leq 11 12] 14 13,zmv 6 14]),.ret])
def Q0G:List (ARv × Md):=[(.t 6,.one .d)]
theorem QJ6 (x:Int) (low:Int) (high:Int) (h :
 K (QlB ((decide (x≥low))&&(decide (x≤high))))):Hold (tawp Q2p (0+0) QKC (TQ 0 0 Q0G K) (Qf [(.c TI x),(.c TI low),(.c TI high)])) :=
 Hold.of (by kernel_rfl) h
theorem QQB (x:Int) (low:Int) (high:Int):TCon Tryz.prog 77 [(.c TI x),(.c TI low),(.c TI high)] (QlB (m_in x low high)):=by
 refine Qo rfl fun hb=>tcg (n:=15) (sg:=YR.sg) Qj TOk.nil (by kernel_rfl) (by kernel_rfl) (QJ6 _ x low high ?_)
 exact R_eq rfl
theorem Y9:Qg Tryz.prog YR:=Qk fun x _=>QQB x.1 x.2.1 x.2.2.1
def QoI (t:Bool):TRes:=zre (zcb t)
def QeJ:TRow:=Qh 110 [(.c TI)] fun x=>(none,QoI (Zc x.1))
def QVQ:List TRow:=[YR]
def QSg:TCode :=
 (zsq [(.reg [zmv 2 (zkb false)]),(.reg [zmv 3 0,zca 4 77 [3,(zki (-2147483647)),(zki 2147483647)],zmv 2 4]),.ret])
def QIo:List (ARv × Md):=[(.t 2,.one .d)]
theorem Q1q (x:Int) (h :
 K (QoI (m_in x (-2147483647:Int) (2147483647:Int)))):Hold (tawp QVQ (0+0) QSg (TQ 0 0 QIo K) (Qf [(.c TI x)])) :=
 Hold.of (by kernel_rfl) h
theorem QUU (x:Int):TCon Tryz.prog 110 [(.c TI x)] (QoI (Zc x)):=by
 refine Qo rfl fun hb=>tcg (n:=5) (sg:=QeJ.sg) Qj (TOk.cons Y9 TOk.nil) (by kernel_rfl) (by kernel_rfl) (Q1q _ x ?_)
 exact R_eq rfl
theorem Qhd:Qg Tryz.prog QeJ:=Qk fun x _=>QUU x.1
def QnT (t:Bool):TRes:=zre (zcb t)
def QgH:TRow:=Qh 217 [(.c TI)] fun x=>(none,QnT (Zc x.1))
def QV3:List TRow:=[]
def QVs:TCode :=
 (zsq [(.reg [zmv 2 (zkb false)]),(.reg [zmv 3 0,zbi 4 .geq 3 (zki (-2147483647)),zmv 5 4,.grp 5 true [zmv 6 0,zbi 7 .leq 6 (zki 2147483647)] 8 7,zmv 2 8]),.ret])
def QPR:List (ARv × Md):=[(.t 2,.one .d)]
theorem QRt (x:Int) (h :
 K (QnT ((decide (x≥(-2147483647:Int)))&&(decide (x≤(2147483647:Int)))))):Hold (tawp QV3 (0+0) QVs (TQ 0 0 QPR K) (Qf [(.c TI x)])) :=
 Hold.of (by kernel_rfl) h
theorem QZ6 (x:Int):TCon Tryz.prog 217 [(.c TI x)] (QnT (Zc x)):=by
 refine Qo rfl fun hb=>tcg (n:=9) (sg:=QgH.sg) Qj TOk.nil (by kernel_rfl) (by kernel_rfl) (QRt _ x ?_)
 exact R_eq rfl
theorem Qol:Qg Tryz.prog QgH:=Qk fun x _=>QZ6 x.1
def QeF (t:Bool):TRes:=zre (zcb t)
def QgU:TRow:=Qh 195 [(.c (.sl [TI]))] fun x=>(none,QeF (ZE x.1))
def QpN:List TRow:=[QgH]
def Qym:TCode :=
 (zsq [(.reg [zbi 8 .lss 7 6]),(.cond 8 .skip (.exit 0)),(.block 1 (zsq [(.reg [zia 9 5 7 [TI],zld 10 9 1,zmv 4 10]),(.reg [zmv 11 4,zca 12 217 [11],zno 13 12]),(.cond 13 (zsq [(.reg [zmv 2 (zkb false)]),.ret]) .skip)])),(.reg [zbi 14 .add 7 (zki 1),zmv 7 14])])
def Qtq:List (Nat × Md):=zdl [5,6,7]
def QyE:TCode :=
 (zsq [(.reg [zmv 2 (zkb true)]),.ret])
def QQ1:TCode :=
 (zsq [(.reg [zmv 2 (zkb false)]),(zsq [(.reg [zmv 5 0,zle 6 5,zmv 7 (zki 0)]),(.block 0 (.loop Qtq Qym))]),QyE])
def QuJ:List (ARv × Md):=[(.t 2,.one .d)]
def Qvg:Qb:=TQ 0 0 QuJ K
def QLp:Qb:=Qseq (tawp QpN 0 QyE (Qvg K)) (Qvg K)
def QQc:Qb:=Qblk 0 (QLp K)
def QqZ (v:List Int) (x:Int):Prop:=Loop QpN 0 Qtq Qym (QQc K) ⟨[(5,(zcs [TI] v)),(6,(zci (v.length:Int))),(7,(zci x))],[],0⟩
theorem QS2 (v:List Int) (x:Int) (h :
 (zif (decide (x<(v.length:Int))) (((0:Int)≤x∧Int.toNat x<v.length)∧(zif (!(Zc (gtd (0:Int) v (Int.toNat x)))) (K (QeF false)) (QqZ K v (w64 (x+(1:Int)))))) (K (QeF true)))):QqZ K v x :=
 Loop.of (by kernel_rfl) h
theorem Q3y (v:List Int) (h :
 (QqZ K v 0)):Hold (tawp QpN (0+0) QQ1 (TQ 0 0 QuJ K) (Qf [(.c (.sl [TI]) v)])) :=
 Hold.of (by kernel_rfl) h
theorem QTf (v:List Int):TCon Tryz.prog 195 [(.c (.sl [TI]) v)] (QeF (ZE v)):=by
 refine Qo rfl fun hb=>tcg (n:=15) (sg:=QgU.sg) Qj (TOk.cons Qol TOk.nil) (by kernel_rfl) (by kernel_rfl) (Q3y _ v ?_)
 have hl_v:v.length≤9223372036854775807:=hb.1.1
 exact Qba (Q:=fun x=>QeF x=QeF (ZE v)) (p:=Zc) (c:=fun x=>!(Zc x)) 0 hl_v (fun _=>rfl) (fun i h=>QS2 _ v i h) (R_eq (by simp [ZE]))
theorem QnX:Qg Tryz.prog QgU:=Qk fun x _=>QTf x.1
def Qd0 (t:Bool):TRes:=zre (zcb t)
def Jd:TRow:=Qh 42 [(.c (.sl [TI]))] fun x=>(none,Qd0 (QN x.1))
def Qqe:List TRow:=[QeJ,YR]
def QGz:TCode :=
 (zsq [(zsq [(.reg [zmv 4 3,zmv 5 0,zle 6 5,zbi 7 .lss 4 6]),(.cond 7 .skip (.exit 0))]),(.block 1 (zsq [(.reg [zmv 10 0,zmv 11 3,zia 12 10 11 [TI],zld 13 12 1,zca 14 110 [13],zno 15 14]),(.cond 15 (zsq [(.reg [zmv 2 (zkb false)]),.ret]) .skip)])),(.reg [zmv 8 3,zbi 9 .add 8 (zki 1),zmv 3 9])])
def QGF:List (Nat × Md):=zdl [0,3]
def QvZ:TCode :=
 (zsq [(.reg [zmv 16 0,zle 17 16,zca 18 77 [17,(zki 1),(zki 6)],zmv 2 18]),.ret])
def QPN:TCode :=
 (zsq [(.reg [zmv 2 (zkb false)]),(zsq [(.reg [zmv 3 (zki 0)]),(.block 0 (.loop QGF QGz))]),QvZ])
def QD9:List (ARv × Md):=[(.t 2,.one .d)]
def Quo:Qb:=TQ 0 0 QD9 K
def QS5:Qb:=Qseq (tawp Qqe 0 QvZ (Quo K)) (Quo K)
def QYI:Qb:=Qblk 0 (QS5 K)
def QrE (v:List Int) (i:Int):Prop:=Loop Qqe 0 QGF QGz (QYI K) ⟨[(0,(zcs [TI] v)),(3,(zci i))],[],0⟩
theorem QVm (v:List Int) (i:Int) (h :
 (zif (decide (i<(v.length:Int))) (((0:Int)≤i∧Int.toNat i<v.length)∧(zif (!(Zc (gtd (0:Int) v (Int.toNat i)))) (K (Qd0 false)) (QrE K v (w64 (i+(1:Int)))))) (K (Qd0 (m_in (v.length:Int) (1:Int) (6:Int)))))):QrE K v i :=
 Loop.of (by kernel_rfl) h
theorem QXL (v:List Int) (h :
 (QrE K v 0)):Hold (tawp Qqe (0+0) QPN (TQ 0 0 QD9 K) (Qf [(.c (.sl [TI]) v)])) :=
 Hold.of (by kernel_rfl) h
theorem QXA (v:List Int):TCon Tryz.prog 42 [(.c (.sl [TI]) v)] (Qd0 (QN v)):=by
 refine Qo rfl fun hb=>tcg (n:=19) (sg:=Jd.sg) Qj (TOk.cons Qhd (TOk.cons Y9 TOk.nil)) (by kernel_rfl) (by kernel_rfl) (QXL _ v ?_)
 have hl_v:v.length≤9223372036854775807:=hb.1.1
 exact Qba (Q:=fun x=>Qd0 x=Qd0 (QN v)) (p:=Zc) (c:=fun x=>!(Zc x)) 0 hl_v (fun _=>rfl) (fun i h=>QVm _ v i h) (R_eq (by grind [QN,ZE]))
theorem Jw:Qg Tryz.prog Jd:=Qk fun x _=>QXA x.1
def QoM (t:Bool):TRes:=zre (zcb t)
def Qbi:TRow:=Qh 134 [(.c (.sl [TI]))] fun x=>(none,QoM (QN x.1))
def Q1i:List TRow:=[QgU]
def QTO:TCode :=
 (zsq [(.reg [zmv 2 (zkb false)]),(.reg [zmv 3 0,zle 4 3,zbi 5 .geq 4 (zki 1),zmv 6 5,.grp 6 true [zmv 7 0,zle 8 7,zbi 9 .leq 8 (zki 6)] 10 9,zmv 11 10,.grp 11 true [zmv 12 0,zca 13 195 [12]] 14 13,zmv 2 14]),.ret])
def QYY:List (ARv × Md):=[(.t 2,.one .d)]
theorem QT6 (v:List Int) (h :
 K (QoM (((decide ((v.length:Int)≥(1:Int)))&&(decide ((v.length:Int)≤(6:Int))))&&(ZE v)))):Hold (tawp Q1i (0+0) QTO (TQ 0 0 QYY K) (Qf [(.c (.sl [TI]) v)])) :=
 Hold.of (by kernel_rfl) h
theorem QNE (v:List Int):TCon Tryz.prog 134 [(.c (.sl [TI]) v)] (QoM (QN v)):=by
 refine Qo rfl fun hb=>tcg (n:=15) (sg:=Qbi.sg) Qj (TOk.cons QnX TOk.nil) (by kernel_rfl) (by kernel_rfl) (QT6 _ v ?_)
 have hl_v:v.length≤9223372036854775807:=hb.1.1
 exact R_eq (by grind [QN,m_in])
theorem QdL:Qg Tryz.prog Qbi:=Qk fun x _=>QNE x.1
def Qq1 (t:Bool):TRes:=zre (zcb t)
def Qaa:TRow:=Qh 114 [(.c (.sl [TI])),(.c TI)] fun x=>(none,Qq1 (Qt x.1 x.2.1))
def QOu:List TRow:=[Qbi]
def QLG:TCode :=
 (zsq [(.reg [zmv 4 (zkb false)]),(.reg [zmv 5 0,zca 6 134 [5],zmv 7 6,.grp 7 true [zmv 8 0,zle 9 8,zmv 10 1,zbi 11 .eql 9 10] 12 11,zmv 4 12]),.ret])
def QLC:List (ARv × Md):=[(.t 4,.one .d)]
theorem QWi (v:List Int) (n:Int) (h :
 K (Qq1 ((QN v)&&((v.length:Int)==n)))):Hold (tawp QOu (0+0) QLG (TQ 0 0 QLC K) (Qf [(.c (.sl [TI]) v),(.c TI n)])) :=
 Hold.of (by kernel_rfl) h
theorem Q0x (v:List Int) (n:Int):TCon Tryz.prog 114 [(.c (.sl [TI]) v),(.c TI n)] (Qq1 (Qt v n)):=by
 refine Qo rfl fun hb=>tcg (n:=13) (sg:=Qaa.sg) Qj (TOk.cons QdL TOk.nil) (by kernel_rfl) (by kernel_rfl) (QWi _ v n ?_)
 have hl_v:v.length≤9223372036854775807:=hb.1.1
 exact R_eq (by simp [Qt])
theorem Qay:Qg Tryz.prog Qaa:=Qk fun x _=>Q0x x.1 x.2.1
def QqD (t:Bool):TRes:=zre (zcb t)
def Qqg:TRow:=Qh 186 [(.c (.sl [TI])),(.c TI)] fun x=>(none,QqD (Yy x.1 x.2.1))
def QKn:List TRow:=[Qaa]
def Q06:TCode :=
 (zsq [(.reg [zmv 4 (zkb false)]),(.reg [zmv 5 0,zle 6 5,zbi 7 .eql 6 (zki 0),zmv 8 7,.grp 8 false [zmv 9 0,zmv 10 1,zca 11 114 [9,10]] 12 11,zmv 4 12]),.ret])
def QMv:List (ARv × Md):=[(.t 4,.one .d)]
theorem QYZ (v:List Int) (n:Int) (h :
 K (QqD (((v.length:Int)==(0:Int))||(Qt v n)))):Hold (tawp QKn (0+0) Q06 (TQ 0 0 QMv K) (Qf [(.c (.sl [TI]) v),(.c TI n)])) :=
 Hold.of (by kernel_rfl) h
theorem QXG (v:List Int) (n:Int):TCon Tryz.prog 186 [(.c (.sl [TI]) v),(.c TI n)] (QqD (Yy v n)):=by
 refine Qo rfl fun hb=>tcg (n:=13) (sg:=Qqg.sg) Qj (TOk.cons Qay TOk.nil) (by kernel_rfl) (by kernel_rfl) (QYZ _ v n ?_)
 have hl_v:v.length≤9223372036854775807:=hb.1.1
 exact R_eq (by simp [Yy,Qt])
theorem QP6:Qg Tryz.prog Qqg:=Qk fun x _=>QXG x.1 x.2.1
def Qps (t:Bool):TRes:=zre (zcb t)
def QlF:TRow:=Qh 109 [(.c (.sl [TI])),(.c TI)] fun x=>(none,Qps (Yy x.1 x.2.1))
def QY4:List TRow:=[Jd]
def QXd:TCode :=
 (zsq [(.reg [zmv 4 (zkb false)]),(.reg [zmv 5 0,zle 6 5,zbi 7 .eql 6 (zki 0),zmv 8 7,.grp 8 false [zmv 9 0,zca 10 42 [9],zmv 11 10,.grp 11 true [zmv 12 0,zle 13 12,zmv 14 1,zbi 15 .eql 13 14] 16 15] 17 16,zmv 4 17]),.ret])
def QQ7:List (ARv × Md):=[(.t 4,.one .d)]
theorem QPw (v:List Int) (n:Int) (h :
 K (Qps (((v.length:Int)==(0:Int))||((QN v)&&((v.length:Int)==n))))):Hold (tawp QY4 (0+0) QXd (TQ 0 0 QQ7 K) (Qf [(.c (.sl [TI]) v),(.c TI n)])) :=
 Hold.of (by kernel_rfl) h
theorem QXH (v:List Int) (n:Int):TCon Tryz.prog 109 [(.c (.sl [TI]) v),(.c TI n)] (Qps (Yy v n)):=by
 refine Qo rfl fun hb=>tcg (n:=18) (sg:=QlF.sg) Qj (TOk.cons Jw TOk.nil) (by kernel_rfl) (by kernel_rfl) (QPw _ v n ?_)
 have hl_v:v.length≤9223372036854775807:=hb.1.1
 exact R_eq (by simp [Yy,Qt])
theorem QTB:Qg Tryz.prog QlF:=Qk fun x _=>QXH x.1 x.2.1
end
end Go.Proofs.YtjbdljkhbglnhaaGreat.Am

