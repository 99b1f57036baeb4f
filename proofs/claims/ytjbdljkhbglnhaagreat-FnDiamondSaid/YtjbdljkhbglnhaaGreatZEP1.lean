/- -/
import Derived.Test.YtjbdljkhbglnhaaGreatZEG8
namespace Go.Proofs.YtjbdljkhbglnhaaGreat.Am
open Go Go.RowKit Go.Proofs.YtjbdljkhbglnhaaGreat
set_option linter.all false
noncomputable section
variable (K:TRes→Prop)
def QoI (t:Bool):TRes:=zre (zcb t)
def YO:TRow:=Qk 77 [(.c TI),(.c TI),(.c TI)] fun x=>(none,QoI (m_in x.1 x.2.1 x.2.2.1))
def QV4:List TRow:=[]
def QTi:TCode :=
 (zsq [(.reg [zmv 6 (zkb false)]),(.reg [zmv 7 0,zmv 8 1,zbi 9 .geq 7 8,zmv 10 9,.grp 10 true [zmv 11 0,zmv 12 2,zbi 13 .leq 11 12] 14 13,zmv 6 14]),.ret])
def QY4:List (ARv × Md):=[(.t 6,.one .d)]
theorem QUL (x:Int) (low:Int) (high:Int) (h :
 K (QoI ((decide (x≥low))&&(decide (x≤high))))):Hold (tawp QV4 (0+0) QTi (TQ 0 0 QY4 K) (Qg [(.c TI x),(.c TI low),(.c TI high)])) :=
 Hold.of (by kernel_rfl) h
theorem QK7 (x:Int) (low:Int) (high:Int):TCon Tryz.prog 77 [(.c TI x),(.c TI low),(.c TI high)] (QoI (m_in x low high)):=by
 refine Qo rfl fun hb=>tcg (n:=15) (sg:=YO.sg) Qm TOk.nil (by kernel_rfl) (by kernel_rfl) (QUL _ x low high ?_)
 exact R_eq rfl
theorem YX:Qj Tryz.prog YO:=Qn fun x _=>QK7 x.1 x.2.1 x.2.2.1
def QqC (t:Bool):TRes:=zre (zcb t)
def QdT:TRow:=Qk 110 [(.c TI)] fun x=>(none,QqC (Zc x.1))
def QGk:List TRow:=[YO]
def QOU:TCode :=
 (zsq [(.reg [zmv 2 (zkb false)]),(.reg [zmv 3 0,zca 4 77 [3,(zki (-2147483647)),(zki 2147483647)],zmv 2 4]),.ret])
def QS3:List (ARv × Md):=[(.t 2,.one .d)]
theorem QKo (x:Int) (h :
 K (QqC (m_in x (-2147483647:Int) (2147483647:Int)))):Hold (tawp QGk (0+0) QOU (TQ 0 0 QS3 K) (Qg [(.c TI x)])) :=
 Hold.of (by kernel_rfl) h
theorem QIW (x:Int):TCon Tryz.prog 110 [(.c TI x)] (QqC (Zc x)):=by
 refine Qo rfl fun hb=>tcg (n:=5) (sg:=QdT.sg) Qm (TOk.cons YX TOk.nil) (by kernel_rfl) (by kernel_rfl) (QKo _ x ?_)
 exact R_eq rfl
theorem QhM:Qj Tryz.prog QdT:=Qn fun x _=>QIW x.1
def QoT (t:Bool):TRes:=zre (zcb t)
def Qgq:TRow:=Qk 217 [(.c TI)] fun x=>(none,QoT (Zc x.1))
def QS4:List TRow:=[]
def QKB:TCode :=
 (zsq [(.reg [zmv 2 (zkb false)]),(.reg [zmv 3 0,zbi 4 .geq 3 (zki (-2147483647)),zmv 5 4,.grp 5 true [zmv 6 0,zbi 7 .leq 6 (zki 2147483647)] 8 7,zmv 2 8]),.ret])
def QR7:List (ARv × Md):=[(.t 2,.one .d)]
theorem QEX (x:Int) (h :
 K (QoT ((decide (x≥(-2147483647:Int)))&&(decide (x≤(2147483647:Int)))))):Hold (tawp QS4 (0+0) QKB (TQ 0 0 QR7 K) (Qg [(.c TI x)])) :=
 Hold.of (by kernel_rfl) h
theorem QJC (x:Int):TCon Tryz.prog 217 [(.c TI x)] (QoT (Zc x)):=by
 refine Qo rfl fun hb=>tcg (n:=9) (sg:=Qgq.sg) Qm TOk.nil (by kernel_rfl) (by kernel_rfl) (QEX _ x ?_)
 exact R_eq rfl
theorem QnW:Qj Tryz.prog Qgq:=Qn fun x _=>QJC x.1
def Qen (t:Bool):TRes:=zre (zcb t)
def QfY:TRow:=Qk 195 [(.c (.sl [TI]))] fun x=>(none,Qen (ZB x.1))
def QnF:List TRow:=[Qgq]
def QxZ:TCode :=
 (zsq [(.reg [zbi 8 .lss 7 6]),(.cond 8 .skip (.exit 0)),(.block 1 (zsq [(.reg [zia 9 5 7 [TI],zld 10 9 1,zmv 4 10]),(.reg [zmv 11 4,zca 12 217 [11],zno 13 12]),(.cond 13 (zsq [(.reg [zmv 2 (zkb false)]),.ret]) .skip)])),(.reg [zbi 14 .add 7 (zki 1),zmv 7 14])])
def QDE:List (Nat × Md):=zdl [5,6,7]
def Quy:TCode :=
 (zsq [(.reg [zmv 2 (zkb true)]),.ret])
def QKn:TCode :=
 (zsq [(.reg [zmv 2 (zkb false)]),(zsq [(.reg [zmv 5 0,zle 6 5,zmv 7 (zki 0)]),(.block 0 (.loop QDE QxZ))]),Quy])
def QEz:List (ARv × Md):=[(.t 2,.one .d)]
def QzW:Qb:=TQ 0 0 QEz K
def QFC:Qb:=Qseq (tawp QnF 0 Quy (QzW K)) (QzW K)
def QLJ:Qb:=Qblk 0 (QFC K)
def QlV (v:List Int) (x:Int):Prop:=Loop QnF 0 QDE QxZ (QLJ K) ⟨[(5,(zcs [TI] v)),(6,(zci (v.length:Int))),(7,(zci x))],[],0⟩
theorem QEZ (v:List Int) (x:Int) (h :
 (zif (decide (x<(v.length:Int))) (((0:Int)≤x∧Int.toNat x<v.length)∧(zif (!(Zc (gtd (0:Int) v (Int.toNat x)))) (K (Qen false)) (QlV K v (w64 (x+(1:Int)))))) (K (Qen true)))):QlV K v x :=
 Loop.of (by kernel_rfl) h
theorem QVR (v:List Int) (h :
 (QlV K v 0)):Hold (tawp QnF (0+0) QKn (TQ 0 0 QEz K) (Qg [(.c (.sl [TI]) v)])) :=
 Hold.of (by kernel_rfl) h
theorem QJj (v:List Int):TCon Tryz.prog 195 [(.c (.sl [TI]) v)] (Qen (ZB v)):=by
 refine Qo rfl fun hb=>tcg (n:=15) (sg:=QfY.sg) Qm (TOk.cons QnW TOk.nil) (by kernel_rfl) (by kernel_rfl) (QVR _ v ?_)
 have hl_v:v.length≤9223372036854775807:=hb.1.1
 exact QbA (Q:=fun x=>Qen x=Qen (ZB v)) (p:=Zc) (c:=fun x=>!(Zc x)) 0 hl_v (fun _=>rfl) (fun i h=>QEZ _ v i h) (R_eq (by simp [ZB]))
theorem Qof:Qj Tryz.prog QfY:=Qn fun x _=>QJj x.1
def Qez (t:Bool):TRes:=zre (zcb t)
def Y7:TRow:=Qk 42 [(.c (.sl [TI]))] fun x=>(none,Qez (QJ x.1))
def Qqd:List TRow:=[QdT,YO]
def Qtj:TCode :=
 (zsq [(zsq [(.reg [zmv 4 3,zmv 5 0,zle 6 5,zbi 7 .lss 4 6]),(.cond 7 .skip (.exit 0))]),(.block 1 (zsq [(.reg [zmv 10 0,zmv 11 3,zia 12 10 11 [TI],zld 13 12 1,zca 14 110 [13],zno 15 14]),(.cond 15 (zsq [(.reg [zmv 2 (zkb false)]),.ret]) .skip)])),(.reg [zmv 8 3,zbi 9 .add 8 (zki 1),zmv 3 9])])
def QwZ:List (Nat × Md):=zdl [0,3]
def QBT:TCode :=
 (zsq [(.reg [zmv 16 0,zle 17 16,zca 18 77 [17,(zki 1),(zki 6)],zmv 2 18]),.ret])
def QWB:TCode :=
 (zsq [(.reg [zmv 2 (zkb false)]),(zsq [(.reg [zmv 3 (zki 0)]),(.block 0 (.loop QwZ Qtj))]),QBT])
def Qtw:List (ARv × Md):=[(.t 2,.one .d)]
def QvQ:Qb:=TQ 0 0 Qtw K
def QYe:Qb:=Qseq (tawp Qqd 0 QBT (QvQ K)) (QvQ K)
def QKM:Qb:=Qblk 0 (QYe K)
def QmN (v:List Int) (i:Int):Prop:=Loop Qqd 0 QwZ Qtj (QKM K) ⟨[(0,(zcs [TI] v)),(3,(zci i))],[],0⟩
theorem QVF (v:List Int) (i:Int) (h :
 (zif (decide (i<(v.length:Int))) (((0:Int)≤i∧Int.toNat i<v.length)∧(zif (!(Zc (gtd (0:Int) v (Int.toNat i)))) (K (Qez false)) (QmN K v (w64 (i+(1:Int)))))) (K (Qez (m_in (v.length:Int) (1:Int) (6:Int)))))):QmN K v i :=
 Loop.of (by kernel_rfl) h
theorem QXF (v:List Int) (h :
 (QmN K v 0)):Hold (tawp Qqd (0+0) QWB (TQ 0 0 Qtw K) (Qg [(.c (.sl [TI]) v)])) :=
 Hold.of (by kernel_rfl) h
theorem QUx (v:List Int):TCon Tryz.prog 42 [(.c (.sl [TI]) v)] (Qez (QJ v)):=by
 refine Qo rfl fun hb=>tcg (n:=19) (sg:=Y7.sg) Qm (TOk.cons QhM (TOk.cons YX TOk.nil)) (by kernel_rfl) (by kernel_rfl) (QXF _ v ?_)
 have hl_v:v.length≤9223372036854775807:=hb.1.1
 exact QbA (Q:=fun x=>Qez x=Qez (QJ v)) (p:=Zc) (c:=fun x=>!(Zc x)) 0 hl_v (fun _=>rfl) (fun i h=>QVF _ v i h) (R_eq (by grind [QJ,ZB]))
theorem Jp:Qj Tryz.prog Y7:=Qn fun x _=>QUx x.1
def Qla (t:Bool):TRes:=zre (zcb t)
def Qa6:TRow:=Qk 134 [(.c (.sl [TI]))] fun x=>(none,Qla (QJ x.1))
def QF1:List TRow:=[QfY]
def QUN:TCode :=
 (zsq [(.reg [zmv 2 (zkb false)]),(.reg [zmv 3 0,zle 4 3,zbi 5 .geq 4 (zki 1),zmv 6 5,.grp 6 true [zmv 7 0,zle 8 7,zbi 9 .leq 8 (zki 6)] 10 9,zmv 11 10,.grp 11 true [zmv 12 0,zca 13 195 [12]] 14 13,zmv 2 14]),.ret])
def QGO:List (ARv × Md):=[(.t 2,.one .d)]
theorem QLa (v:List Int) (h :
 K (Qla (((decide ((v.length:Int)≥(1:Int)))&&(decide ((v.length:Int)≤(6:Int))))&&(ZB v)))):Hold (tawp QF1 (0+0) QUN (TQ 0 0 QGO K) (Qg [(.c (.sl [TI]) v)])) :=
 Hold.of (by kernel_rfl) h
theorem QMg (v:List Int):TCon Tryz.prog 134 [(.c (.sl [TI]) v)] (Qla (QJ v)):=by
 refine Qo rfl fun hb=>tcg (n:=15) (sg:=Qa6.sg) Qm (TOk.cons Qof TOk.nil) (by kernel_rfl) (by kernel_rfl) (QLa _ v ?_)
 have hl_v:v.length≤9223372036854775807:=hb.1.1
 exact R_eq (by grind [QJ,m_in])
theorem Qdc:Qj Tryz.prog Qa6:=Qn fun x _=>QMg x.1
def QkP (t:Bool):TRes:=zre (zcb t)
def Qai:TRow:=Qk 114 [(.c (.sl [TI])),(.c TI)] fun x=>(none,QkP (Qq x.1 x.2.1))
def QTs:List TRow:=[Qa6]
def QPR:TCode :=
 (zsq [(.reg [zmv 4 (zkb false)]),(.reg [zmv 5 0,zca 6 134 [5],zmv 7 6,.grp 7 true [zmv 8 0,zle 9 8,zmv 10 1,zbi 11 .eql 9 10] 12 11,zmv 4 12]),.ret])
def QGh:List (ARv × Md):=[(.t 4,.one .d)]
theorem QWN (v:List Int) (n:Int) (h :
 K (QkP ((QJ v)&&((v.length:Int)==n)))):Hold (tawp QTs (0+0) QPR (TQ 0 0 QGh K) (Qg [(.c (.sl [TI]) v),(.c TI n)])) :=
 Hold.of (by kernel_rfl) h
theorem QWd (v:List Int) (n:Int):TCon Tryz.prog 114 [(.c (.sl [TI]) v),(.c TI n)] (QkP (Qq v n)):=by
 refine Qo rfl fun hb=>tcg (n:=13) (sg:=Qai.sg) Qm (TOk.cons Qdc TOk.nil) (by kernel_rfl) (by kernel_rfl) (QWN _ v n ?_)
 have hl_v:v.length≤9223372036854775807:=hb.1.1
 exact R_eq (by simp [Qq])
theorem QaD:Qj Tryz.prog Qai:=Qn fun x _=>QWd x.1 x.2.1
def QlB (t:Bool):TRes:=zre (zcb t)
def Qlp:TRow:=Qk 186 [(.c (.sl [TI])),(.c TI)] fun x=>(none,QlB (Yk x.1 x.2.1))
def QJY:List TRow:=[Qai]
def QF5:TCode :=
 (zsq [(.reg [zmv 4 (zkb false)]),(.reg [zmv 5 0,zle 6 5,zbi 7 .eql 6 (zki 0),zmv 8 7,.grp 8 false [zmv 9 0,zmv 10 1,zca 11 114 [9,10]] 12 11,zmv 4 12]),.ret])
def QJV:List (ARv × Md):=[(.t 4,.one .d)]
theorem QLV (v:List Int) (n:Int) (h :
 K (QlB (((v.length:Int)==(0:Int))||(Qq v n)))):Hold (tawp QJY (0+0) QF5 (TQ 0 0 QJV K) (Qg [(.c (.sl [TI]) v),(.c TI n)])) :=
 Hold.of (by kernel_rfl) h
theorem QQS (v:List Int) (n:Int):TCon Tryz.prog 186 [(.c (.sl [TI]) v),(.c TI n)] (QlB (Yk v n)):=by
 refine Qo rfl fun hb=>tcg (n:=13) (sg:=Qlp.sg) Qm (TOk.cons QaD TOk.nil) (by kernel_rfl) (by kernel_rfl) (QLV _ v n ?_)
 have hl_v:v.length≤9223372036854775807:=hb.1.1
 exact R_eq (by simp [Yk,Qq])
theorem QIF:Qj Tryz.prog Qlp:=Qn fun x _=>QQS x.1 x.2.1
def QlT (t:Bool):TRes:=zre (zcb t)
def Qmp:TRow:=Qk 109 [(.c (.sl [TI])),(.c TI)] fun x=>(none,QlT (Yk x.1 x.2.1))
def QPr:List TRow:=[Y7]
def QXC:TCode :=
 (zsq [(.reg [zmv 4 (zkb false)]),(.reg [zmv 5 0,zle 6 5,zbi 7 .eql 6 (zki 0),zmv 8 7,.grp 8 false [zmv 9 0,zca 10 42 [9],zmv 11 10,.grp 11 true [zmv 12 0,zle 13 12,zmv 14 1,zbi 15 .eql 13 14] 16 15] 17 16,zmv 4 17]),.ret])
def QY6:List (ARv × Md):=[(.t 4,.one .d)]
theorem QNr (v:List Int) (n:Int) (h :
 K (QlT (((v.length:Int)==(0:Int))||((QJ v)&&((v.length:Int)==n))))):Hold (tawp QPr (0+0) QXC (TQ 0 0 QY6 K) (Qg [(.c (.sl [TI]) v),(.c TI n)])) :=
 Hold.of (by kernel_rfl) h
theorem QK5 (v:List Int) (n:Int):TCon Tryz.prog 109 [(.c (.sl [TI]) v),(.c TI n)] (QlT (Yk v n)):=by
 refine Qo rfl fun hb=>tcg (n:=18) (sg:=Qmp.sg) Qm (TOk.cons Jp TOk.nil) (by kernel_rfl) (by kernel_rfl) (QNr _ v n ?_)
 have hl_v:v.length≤9223372036854775807:=hb.1.1
 exact R_eq (by simp [Yk,Qq])
theorem QIj:Qj Tryz.prog Qmp:=Qn fun x _=>QK5 x.1 x.2.1
end
end Go.Proofs.YtjbdljkhbglnhaaGreat.Am

