/- -/
import Derived.Test.YtjbdljkhbglnhaaGreatZDG8
namespace Go.Proofs.YtjbdljkhbglnhaaGreat.Am
open Go Go.RowKit Go.Proofs.YtjbdljkhbglnhaaGreat
set_option linter.all false
noncomputable section
variable (K:TRes→Prop)
def QpF (t:Bool):TRes:=zre (zcb t)
def YL:TRow:=Qj 77 [(.c TI),(.c TI),(.c TI)] fun x=>(none,QpF (m_in x.1 x.2.1 x.2.2.1))
def QNg:List TRow:=[]
def QPt:TCode :=
 (zsq [(.reg [zmv 6 (zkb false)]),(.reg [zmv 7 0,zmv 8 1,zbi 9 .geq 7 8,zmv 10 9,.grp 10 true [zmv 11 0,zmv 12 2,zbi 13 .leq 11 12] 14 13,zmv 6 14]),.ret])
def QZk:List (ARv × Md):=[(.t 6,.one .d)]
theorem QQY (x:Int) (low:Int) (high:Int) (h :
 K (QpF ((decide (x≥low))&&(decide (x≤high))))):Hold (tawp QNg (0+0) QPt (TQ 0 0 QZk K) (Qh [(.c TI x),(.c TI low),(.c TI high)])) :=
 Hold.of (by kernel_rfl) h
theorem QX4 (x:Int) (low:Int) (high:Int):TCon Tryz.prog 77 [(.c TI x),(.c TI low),(.c TI high)] (QpF (m_in x low high)):=by
 refine Qo rfl fun hb=>tcg (n:=15) (sg:=YL.sg) Ql TOk.nil (by kernel_rfl) (by kernel_rfl) (QQY _ x low high ?_)
 exact R_eq rfl
theorem Y2:Qi Tryz.prog YL:=Qm fun x _=>QX4 x.1 x.2.1 x.2.2.1
def Qk3 (t:Bool):TRes:=zre (zcb t)
def Qen:TRow:=Qj 110 [(.c TI)] fun x=>(none,Qk3 (Zb x.1))
def QIB:List TRow:=[YL]
def QL6:TCode :=
 (zsq [(.reg [zmv 2 (zkb false)]),(.reg [zmv 3 0,zca 4 77 [3,(zki (-2147483647)),(zki 2147483647)],zmv 2 4]),.ret])
def QNt:List (ARv × Md):=[(.t 2,.one .d)]
theorem QJd (x:Int) (h :
 K (Qk3 (m_in x (-2147483647:Int) (2147483647:Int)))):Hold (tawp QIB (0+0) QL6 (TQ 0 0 QNt K) (Qh [(.c TI x)])) :=
 Hold.of (by kernel_rfl) h
theorem QOd (x:Int):TCon Tryz.prog 110 [(.c TI x)] (Qk3 (Zb x)):=by
 refine Qo rfl fun hb=>tcg (n:=5) (sg:=Qen.sg) Ql (TOk.cons Y2 TOk.nil) (by kernel_rfl) (by kernel_rfl) (QJd _ x ?_)
 exact R_eq rfl
theorem Qhr:Qi Tryz.prog Qen:=Qm fun x _=>QOd x.1
def Qp7 (t:Bool):TRes:=zre (zcb t)
def Qe1:TRow:=Qj 217 [(.c TI)] fun x=>(none,Qp7 (Zb x.1))
def QFA:List TRow:=[]
def QHV:TCode :=
 (zsq [(.reg [zmv 2 (zkb false)]),(.reg [zmv 3 0,zbi 4 .geq 3 (zki (-2147483647)),zmv 5 4,.grp 5 true [zmv 6 0,zbi 7 .leq 6 (zki 2147483647)] 8 7,zmv 2 8]),.ret])
def QH1:List (ARv × Md):=[(.t 2,.one .d)]
theorem QV5 (x:Int) (h :
 K (Qp7 ((decide (x≥(-2147483647:Int)))&&(decide (x≤(2147483647:Int)))))):Hold (tawp QFA (0+0) QHV (TQ 0 0 QH1 K) (Qh [(.c TI x)])) :=
 Hold.of (by kernel_rfl) h
theorem QGC (x:Int):TCon Tryz.prog 217 [(.c TI x)] (Qp7 (Zb x)):=by
 refine Qo rfl fun hb=>tcg (n:=9) (sg:=Qe1.sg) Ql TOk.nil (by kernel_rfl) (by kernel_rfl) (QV5 _ x ?_)
 exact R_eq rfl
theorem Qno:Qi Tryz.prog Qe1:=Qm fun x _=>QGC x.1
def Qd3 (t:Bool):TRes:=zre (zcb t)
def QfQ:TRow:=Qj 195 [(.c (.sl [TI]))] fun x=>(none,Qd3 (ZD x.1))
def QqN:List TRow:=[Qe1]
def Qrf:TCode :=
 (zsq [(.reg [zbi 8 .lss 7 6]),(.cond 8 .skip (.exit 0)),(.block 1 (zsq [(.reg [zia 9 5 7 [TI],zld 10 9 1,zmv 4 10]),(.reg [zmv 11 4,zca 12 217 [11],zno 13 12]),(.cond 13 (zsq [(.reg [zmv 2 (zkb false)]),.ret]) .skip)])),(.reg [zbi 14 .add 7 (zki 1),zmv 7 14])])
def QDk:List (Nat × Md):=zdl [5,6,7]
def QrJ:TCode :=
 (zsq [(.reg [zmv 2 (zkb true)]),.ret])
def QP0:TCode :=
 (zsq [(.reg [zmv 2 (zkb false)]),(zsq [(.reg [zmv 5 0,zle 6 5,zmv 7 (zki 0)]),(.block 0 (.loop QDk Qrf))]),QrJ])
def QDX:List (ARv × Md):=[(.t 2,.one .d)]
def Qzn:Qb:=TQ 0 0 QDX K
def QGq:Qb:=Qseq (tawp QqN 0 QrJ (Qzn K)) (Qzn K)
def QGs:Qb:=Qblk 0 (QGq K)
def Qpa (v:List Int) (x:Int):Prop:=Loop QqN 0 QDk Qrf (QGs K) ⟨[(5,(zcs [TI] v)),(6,(zci (v.length:Int))),(7,(zci x))],[],0⟩
theorem QIw (v:List Int) (x:Int) (h :
 (zif (decide (x<(v.length:Int))) (((0:Int)≤x∧Int.toNat x<v.length)∧(zif (!(Zb (gtd (0:Int) v (Int.toNat x)))) (K (Qd3 false)) (Qpa K v (w64 (x+(1:Int)))))) (K (Qd3 true)))):Qpa K v x :=
 Loop.of (by kernel_rfl) h
theorem QJZ (v:List Int) (h :
 (Qpa K v 0)):Hold (tawp QqN (0+0) QP0 (TQ 0 0 QDX K) (Qh [(.c (.sl [TI]) v)])) :=
 Hold.of (by kernel_rfl) h
theorem QLd (v:List Int):TCon Tryz.prog 195 [(.c (.sl [TI]) v)] (Qd3 (ZD v)):=by
 refine Qo rfl fun hb=>tcg (n:=15) (sg:=QfQ.sg) Ql (TOk.cons Qno TOk.nil) (by kernel_rfl) (by kernel_rfl) (QJZ _ v ?_)
 have hl_v:v.length≤9223372036854775807:=hb.1.1
 exact Qb4 (Q:=fun x=>Qd3 x=Qd3 (ZD v)) (p:=Zb) (c:=fun x=>!(Zb x)) 0 hl_v (fun _=>rfl) (fun i h=>QIw _ v i h) (R_eq (by simp [ZD]))
theorem Qpt:Qi Tryz.prog QfQ:=Qm fun x _=>QLd x.1
def QeJ (t:Bool):TRes:=zre (zcb t)
def Y6:TRow:=Qj 42 [(.c (.sl [TI]))] fun x=>(none,QeJ (QK x.1))
def Qm3:List TRow:=[Qen,YL]
def QCB:TCode :=
 (zsq [(zsq [(.reg [zmv 4 3,zmv 5 0,zle 6 5,zbi 7 .lss 4 6]),(.cond 7 .skip (.exit 0))]),(.block 1 (zsq [(.reg [zmv 10 0,zmv 11 3,zia 12 10 11 [TI],zld 13 12 1,zca 14 110 [13],zno 15 14]),(.cond 15 (zsq [(.reg [zmv 2 (zkb false)]),.ret]) .skip)])),(.reg [zmv 8 3,zbi 9 .add 8 (zki 1),zmv 3 9])])
def QwI:List (Nat × Md):=zdl [0,3]
def QuM:TCode :=
 (zsq [(.reg [zmv 16 0,zle 17 16,zca 18 77 [17,(zki 1),(zki 6)],zmv 2 18]),.ret])
def QJh:TCode :=
 (zsq [(.reg [zmv 2 (zkb false)]),(zsq [(.reg [zmv 3 (zki 0)]),(.block 0 (.loop QwI QCB))]),QuM])
def Quz:List (ARv × Md):=[(.t 2,.one .d)]
def Qtn:Qb:=TQ 0 0 Quz K
def QUc:Qb:=Qseq (tawp Qm3 0 QuM (Qtn K)) (Qtn K)
def QSR:Qb:=Qblk 0 (QUc K)
def QoV (v:List Int) (i:Int):Prop:=Loop Qm3 0 QwI QCB (QSR K) ⟨[(0,(zcs [TI] v)),(3,(zci i))],[],0⟩
theorem QLi (v:List Int) (i:Int) (h :
 (zif (decide (i<(v.length:Int))) (((0:Int)≤i∧Int.toNat i<v.length)∧(zif (!(Zb (gtd (0:Int) v (Int.toNat i)))) (K (QeJ false)) (QoV K v (w64 (i+(1:Int)))))) (K (QeJ (m_in (v.length:Int) (1:Int) (6:Int)))))):QoV K v i :=
 Loop.of (by kernel_rfl) h
theorem QUv (v:List Int) (h :
 (QoV K v 0)):Hold (tawp Qm3 (0+0) QJh (TQ 0 0 Quz K) (Qh [(.c (.sl [TI]) v)])) :=
 Hold.of (by kernel_rfl) h
theorem QXC (v:List Int):TCon Tryz.prog 42 [(.c (.sl [TI]) v)] (QeJ (QK v)):=by
 refine Qo rfl fun hb=>tcg (n:=19) (sg:=Y6.sg) Ql (TOk.cons Qhr (TOk.cons Y2 TOk.nil)) (by kernel_rfl) (by kernel_rfl) (QUv _ v ?_)
 have hl_v:v.length≤9223372036854775807:=hb.1.1
 exact Qb4 (Q:=fun x=>QeJ x=QeJ (QK v)) (p:=Zb) (c:=fun x=>!(Zb x)) 0 hl_v (fun _=>rfl) (fun i h=>QLi _ v i h) (R_eq (by grind [QK,ZD]))
theorem Jp:Qi Tryz.prog Y6:=Qm fun x _=>QXC x.1
def QlD (t:Bool):TRes:=zre (zcb t)
def Qbg:TRow:=Qj 134 [(.c (.sl [TI]))] fun x=>(none,QlD (QK x.1))
def QNE:List TRow:=[QfQ]
def QFo:TCode :=
 (zsq [(.reg [zmv 2 (zkb false)]),(.reg [zmv 3 0,zle 4 3,zbi 5 .geq 4 (zki 1),zmv 6 5,.grp 6 true [zmv 7 0,zle 8 7,zbi 9 .leq 8 (zki 6)] 10 9,zmv 11 10,.grp 11 true [zmv 12 0,zca 13 195 [12]] 14 13,zmv 2 14]),.ret])
def QFF:List (ARv × Md):=[(.t 2,.one .d)]
theorem QUx (v:List Int) (h :
 K (QlD (((decide ((v.length:Int)≥(1:Int)))&&(decide ((v.length:Int)≤(6:Int))))&&(ZD v)))):Hold (tawp QNE (0+0) QFo (TQ 0 0 QFF K) (Qh [(.c (.sl [TI]) v)])) :=
 Hold.of (by kernel_rfl) h
theorem QL7 (v:List Int):TCon Tryz.prog 134 [(.c (.sl [TI]) v)] (QlD (QK v)):=by
 refine Qo rfl fun hb=>tcg (n:=15) (sg:=Qbg.sg) Ql (TOk.cons Qpt TOk.nil) (by kernel_rfl) (by kernel_rfl) (QUx _ v ?_)
 have hl_v:v.length≤9223372036854775807:=hb.1.1
 exact R_eq (by grind [QK,m_in])
theorem QcB:Qi Tryz.prog Qbg:=Qm fun x _=>QL7 x.1
def QmZ (t:Bool):TRes:=zre (zcb t)
def Qah:TRow:=Qj 114 [(.c (.sl [TI])),(.c TI)] fun x=>(none,QmZ (Qq x.1 x.2.1))
def QJq:List TRow:=[Qbg]
def QHg:TCode :=
 (zsq [(.reg [zmv 4 (zkb false)]),(.reg [zmv 5 0,zca 6 134 [5],zmv 7 6,.grp 7 true [zmv 8 0,zle 9 8,zmv 10 1,zbi 11 .eql 9 10] 12 11,zmv 4 12]),.ret])
def QUM:List (ARv × Md):=[(.t 4,.one .d)]
theorem QWZ (v:List Int) (n:Int) (h :
 K (QmZ ((QK v)&&((v.length:Int)==n)))):Hold (tawp QJq (0+0) QHg (TQ 0 0 QUM K) (Qh [(.c (.sl [TI]) v),(.c TI n)])) :=
 Hold.of (by kernel_rfl) h
theorem QV1 (v:List Int) (n:Int):TCon Tryz.prog 114 [(.c (.sl [TI]) v),(.c TI n)] (QmZ (Qq v n)):=by
 refine Qo rfl fun hb=>tcg (n:=13) (sg:=Qah.sg) Ql (TOk.cons QcB TOk.nil) (by kernel_rfl) (by kernel_rfl) (QWZ _ v n ?_)
 have hl_v:v.length≤9223372036854775807:=hb.1.1
 exact R_eq (by simp [Qq])
theorem QaM:Qi Tryz.prog Qah:=Qm fun x _=>QV1 x.1 x.2.1
def Qoo (t:Bool):TRes:=zre (zcb t)
def Qpu:TRow:=Qj 186 [(.c (.sl [TI])),(.c TI)] fun x=>(none,Qoo (Yh x.1 x.2.1))
def QJH:List TRow:=[Qah]
def QMg:TCode :=
 (zsq [(.reg [zmv 4 (zkb false)]),(.reg [zmv 5 0,zle 6 5,zbi 7 .eql 6 (zki 0),zmv 8 7,.grp 8 false [zmv 9 0,zmv 10 1,zca 11 114 [9,10]] 12 11,zmv 4 12]),.ret])
def QQP:List (ARv × Md):=[(.t 4,.one .d)]
theorem QSO (v:List Int) (n:Int) (h :
 K (Qoo (((v.length:Int)==(0:Int))||(Qq v n)))):Hold (tawp QJH (0+0) QMg (TQ 0 0 QQP K) (Qh [(.c (.sl [TI]) v),(.c TI n)])) :=
 Hold.of (by kernel_rfl) h
theorem QNh (v:List Int) (n:Int):TCon Tryz.prog 186 [(.c (.sl [TI]) v),(.c TI n)] (Qoo (Yh v n)):=by
 refine Qo rfl fun hb=>tcg (n:=13) (sg:=Qpu.sg) Ql (TOk.cons QaM TOk.nil) (by kernel_rfl) (by kernel_rfl) (QSO _ v n ?_)
 have hl_v:v.length≤9223372036854775807:=hb.1.1
 exact R_eq (by simp [Yh,Qq])
theorem QOL:Qi Tryz.prog Qpu:=Qm fun x _=>QNh x.1 x.2.1
def Ql6 (t:Bool):TRes:=zre (zcb t)
def QmV:TRow:=Qj 109 [(.c (.sl [TI])),(.c TI)] fun x=>(none,Ql6 (Yh x.1 x.2.1))
def QQU:List TRow:=[Y6]
def QVo:TCode :=
 (zsq [(.reg [zmv 4 (zkb false)]),(.reg [zmv 5 0,zle 6 5,zbi 7 .eql 6 (zki 0),zmv 8 7,.grp 8 false [zmv 9 0,zca 10 42 [9],zmv 11 10,.grp 11 true [zmv 12 0,zle 13 12,zmv 14 1,zbi 15 .eql 13 14] 16 15] 17 16,zmv 4 17]),.ret])
def QRt:List (ARv × Md):=[(.t 4,.one .d)]
theorem QUI (v:List Int) (n:Int) (h :
 K (Ql6 (((v.length:Int)==(0:Int))||((QK v)&&((v.length:Int)==n))))):Hold (tawp QQU (0+0) QVo (TQ 0 0 QRt K) (Qh [(.c (.sl [TI]) v),(.c TI n)])) :=
 Hold.of (by kernel_rfl) h
theorem QYM (v:List Int) (n:Int):TCon Tryz.prog 109 [(.c (.sl [TI]) v),(.c TI n)] (Ql6 (Yh v n)):=by
 refine Qo rfl fun hb=>tcg (n:=18) (sg:=QmV.sg) Ql (TOk.cons Jp TOk.nil) (by kernel_rfl) (by kernel_rfl) (QUI _ v n ?_)
 have hl_v:v.length≤9223372036854775807:=hb.1.1
 exact R_eq (by simp [Yh,Qq])
theorem QVx:Qi Tryz.prog QmV:=Qm fun x _=>QYM x.1 x.2.1
end
end Go.Proofs.YtjbdljkhbglnhaaGreat.Am

