/- -/
import Derived.Test.YtjbdljkhbglnhaaGreatZHG8
namespace Go.Proofs.YtjbdljkhbglnhaaGreat.Am
open Go Go.RowKit Go.Proofs.YtjbdljkhbglnhaaGreat
set_option linter.all false
noncomputable section
variable (K:TRes→Prop)
def QmT (t:Bool):TRes:=zre (zcb t)
def Jz:TRow:=Qg 77 [(.c TI),(.c TI),(.c TI)] fun x=>(none,QmT (m_in x.1 x.2.1 x.2.2.1))
def QJL:List TRow:=[]
def QDC:TCode :=
 (zsq [(.reg [zmv 6 (zkb false)]),(.reg [zmv 7 0,zmv 8 1,zbi 9 .geq 7 8,zmv 10 9,.grp 10 true [zmv 11 0,zmv 12 2,zbi 13 .leq 11 12] 14 13,zmv 6 14]),.ret])
def QJK:List (ARv × Md):=[(.t 6,.one .d)]
theorem QJM (x:Int) (low:Int) (high:Int) (h :
 K (QmT ((decide (x≥low))&&(decide (x≤high))))):Hold (tawp QJL (0+0) QDC (TQ 0 0 QJK K) (Qf [(.c TI x),(.c TI low),(.c TI high)])) :=
 Hold.of (by kernel_rfl) h
theorem QRk (x:Int) (low:Int) (high:Int):TCon Tryz.prog 77 [(.c TI x),(.c TI low),(.c TI high)] (QmT (m_in x low high)):=by
 refine Qq rfl fun hb=>tcg (n:=15) (sg:=Jz.sg) Qj TOk.nil (by kernel_rfl) (by kernel_rfl) (QJM _ x low high ?_)
 exact R_eq rfl
theorem JU:Qh Tryz.prog Jz:=Qk fun x _=>QRk x.1 x.2.1 x.2.2.1
def Qls (t:Bool):TRes:=zre (zcb t)
def Qf5:TRow:=Qg 110 [(.c TI)] fun x=>(none,Qls (Za x.1))
def QEN:List TRow:=[Jz]
def QRd:TCode :=
 (zsq [(.reg [zmv 2 (zkb false)]),(.reg [zmv 3 0,zca 4 77 [3,(zki (-2147483647)),(zki 2147483647)],zmv 2 4]),.ret])
def QMR:List (ARv × Md):=[(.t 2,.one .d)]
theorem QF0 (x:Int) (h :
 K (Qls (m_in x (-2147483647:Int) (2147483647:Int)))):Hold (tawp QEN (0+0) QRd (TQ 0 0 QMR K) (Qf [(.c TI x)])) :=
 Hold.of (by kernel_rfl) h
theorem QEs (x:Int):TCon Tryz.prog 110 [(.c TI x)] (Qls (Za x)):=by
 refine Qq rfl fun hb=>tcg (n:=5) (sg:=Qf5.sg) Qj (TOk.cons JU TOk.nil) (by kernel_rfl) (by kernel_rfl) (QF0 _ x ?_)
 exact R_eq rfl
theorem QtB:Qh Tryz.prog Qf5:=Qk fun x _=>QEs x.1
def Qk2 (t:Bool):TRes:=zre (zcb t)
def QfH:TRow:=Qg 217 [(.c TI)] fun x=>(none,Qk2 (Za x.1))
def QDx:List TRow:=[]
def QE6:TCode :=
 (zsq [(.reg [zmv 2 (zkb false)]),(.reg [zmv 3 0,zbi 4 .geq 3 (zki (-2147483647)),zmv 5 4,.grp 5 true [zmv 6 0,zbi 7 .leq 6 (zki 2147483647)] 8 7,zmv 2 8]),.ret])
def QBP:List (ARv × Md):=[(.t 2,.one .d)]
theorem QKE (x:Int) (h :
 K (Qk2 ((decide (x≥(-2147483647:Int)))&&(decide (x≤(2147483647:Int)))))):Hold (tawp QDx (0+0) QE6 (TQ 0 0 QBP K) (Qf [(.c TI x)])) :=
 Hold.of (by kernel_rfl) h
theorem QEu (x:Int):TCon Tryz.prog 217 [(.c TI x)] (Qk2 (Za x)):=by
 refine Qq rfl fun hb=>tcg (n:=9) (sg:=QfH.sg) Qj TOk.nil (by kernel_rfl) (by kernel_rfl) (QKE _ x ?_)
 exact R_eq rfl
theorem QlM:Qh Tryz.prog QfH:=Qk fun x _=>QEu x.1
def Qd1 (t:Bool):TRes:=zre (zcb t)
def Qfe:TRow:=Qg 195 [(.c (.sl [TI]))] fun x=>(none,Qd1 (Zu x.1))
def Qld:List TRow:=[QfH]
def Qu0:TCode :=
 (zsq [(.reg [zbi 8 .lss 7 6]),(.cond 8 .skip (.exit 0)),(.block 1 (zsq [(.reg [zia 9 5 7 [TI],zld 10 9 1,zmv 4 10]),(.reg [zmv 11 4,zca 12 217 [11],zno 13 12]),(.cond 13 (zsq [(.reg [zmv 2 (zkb false)]),.ret]) .skip)])),(.reg [zbi 14 .add 7 (zki 1),zmv 7 14])])
def Qu2:List (Nat × Md):=zdl [5,6,7]
def Quv:TCode :=
 (zsq [(.reg [zmv 2 (zkb true)]),.ret])
def QQs:TCode :=
 (zsq [(.reg [zmv 2 (zkb false)]),(zsq [(.reg [zmv 5 0,zle 6 5,zmv 7 (zki 0)]),(.block 0 (.loop Qu2 Qu0))]),Quv])
def Qth:List (ARv × Md):=[(.t 2,.one .d)]
def Qso:Qb:=TQ 0 0 Qth K
def QP9:Qb:=Qseq (tawp Qld 0 Quv (Qso K)) (Qso K)
def QHX:Qb:=Qblk 0 (QP9 K)
def Qoh (v:List Int) (x:Int):Prop:=Loop Qld 0 Qu2 Qu0 (QHX K) ⟨[(5,(zcs [TI] v)),(6,(zci (v.length:Int))),(7,(zci x))],[],0⟩
theorem QNP (v:List Int) (x:Int) (h :
 (zif (decide (x<(v.length:Int))) (((0:Int)≤x∧Int.toNat x<v.length)∧(zif (!(Za (gtd (0:Int) v (Int.toNat x)))) (K (Qd1 false)) (Qoh K v (w64 (x+(1:Int)))))) (K (Qd1 true)))):Qoh K v x :=
 Loop.of (by kernel_rfl) h
theorem QLi (v:List Int) (h :
 (Qoh K v 0)):Hold (tawp Qld (0+0) QQs (TQ 0 0 Qth K) (Qf [(.c (.sl [TI]) v)])) :=
 Hold.of (by kernel_rfl) h
theorem QKe (v:List Int):TCon Tryz.prog 195 [(.c (.sl [TI]) v)] (Qd1 (Zu v)):=by
 refine Qq rfl fun hb=>tcg (n:=15) (sg:=Qfe.sg) Qj (TOk.cons QlM TOk.nil) (by kernel_rfl) (by kernel_rfl) (QLi _ v ?_)
 have hl_v:v.length≤9223372036854775807:=hb.1.1
 exact Qb3 (Q:=fun x=>Qd1 x=Qd1 (Zu v)) (p:=Za) (c:=fun x=>!(Za x)) 0 hl_v (fun _=>rfl) (fun i h=>QNP _ v i h) (R_eq (by simp [Zu]))
theorem QjD:Qh Tryz.prog Qfe:=Qk fun x _=>QKe x.1
def Qdy (t:Bool):TRes:=zre (zcb t)
def QnH:TRow:=Qg 42 [(.c (.sl [TI]))] fun x=>(none,Qdy (Q8 x.1))
def Qkj:List TRow:=[Qf5,Jz]
def Qto:TCode :=
 (zsq [(zsq [(.reg [zmv 4 3,zmv 5 0,zle 6 5,zbi 7 .lss 4 6]),(.cond 7 .skip (.exit 0))]),(.block 1 (zsq [(.reg [zmv 10 0,zmv 11 3,zia 12 10 11 [TI],zld 13 12 1,zca 14 110 [13],zno 15 14]),(.cond 15 (zsq [(.reg [zmv 2 (zkb false)]),.ret]) .skip)])),(.reg [zmv 8 3,zbi 9 .add 8 (zki 1),zmv 3 9])])
def QqM:List (Nat × Md):=zdl [0,3]
def Qs9:TCode :=
 (zsq [(.reg [zmv 16 0,zle 17 16,zca 18 77 [17,(zki 1),(zki 6)],zmv 2 18]),.ret])
def QEA:TCode :=
 (zsq [(.reg [zmv 2 (zkb false)]),(zsq [(.reg [zmv 3 (zki 0)]),(.block 0 (.loop QqM Qto))]),Qs9])
def QoF:List (ARv × Md):=[(.t 2,.one .d)]
def QsR:Qb:=TQ 0 0 QoF K
def QKm:Qb:=Qseq (tawp Qkj 0 Qs9 (QsR K)) (QsR K)
def QP3:Qb:=Qblk 0 (QKm K)
def Qme (v:List Int) (i:Int):Prop:=Loop Qkj 0 QqM Qto (QP3 K) ⟨[(0,(zcs [TI] v)),(3,(zci i))],[],0⟩
theorem QAj (v:List Int) (i:Int) (h :
 (zif (decide (i<(v.length:Int))) (((0:Int)≤i∧Int.toNat i<v.length)∧(zif (!(Za (gtd (0:Int) v (Int.toNat i)))) (K (Qdy false)) (Qme K v (w64 (i+(1:Int)))))) (K (Qdy (m_in (v.length:Int) (1:Int) (6:Int)))))):Qme K v i :=
 Loop.of (by kernel_rfl) h
theorem QEq (v:List Int) (h :
 (Qme K v 0)):Hold (tawp Qkj (0+0) QEA (TQ 0 0 QoF K) (Qf [(.c (.sl [TI]) v)])) :=
 Hold.of (by kernel_rfl) h
theorem QFd (v:List Int):TCon Tryz.prog 42 [(.c (.sl [TI]) v)] (Qdy (Q8 v)):=by
 refine Qq rfl fun hb=>tcg (n:=19) (sg:=QnH.sg) Qj (TOk.cons QtB (TOk.cons JU TOk.nil)) (by kernel_rfl) (by kernel_rfl) (QEq _ v ?_)
 have hl_v:v.length≤9223372036854775807:=hb.1.1
 exact Qb3 (Q:=fun x=>Qdy x=Qdy (Q8 v)) (p:=Za) (c:=fun x=>!(Za x)) 0 hl_v (fun _=>rfl) (fun i h=>QAj _ v i h) (R_eq (by grind [Q8,Zu]))
theorem QHL:Qh Tryz.prog QnH:=Qk fun x _=>QFd x.1
def QlN (t:Bool):TRes:=zre (zcb t)
def Qa0:TRow:=Qg 134 [(.c (.sl [TI]))] fun x=>(none,QlN (Q8 x.1))
def QBt:List TRow:=[Qfe]
def QA7:TCode :=
 (zsq [(.reg [zmv 2 (zkb false)]),(.reg [zmv 3 0,zle 4 3,zbi 5 .geq 4 (zki 1),zmv 6 5,.grp 6 true [zmv 7 0,zle 8 7,zbi 9 .leq 8 (zki 6)] 10 9,zmv 11 10,.grp 11 true [zmv 12 0,zca 13 195 [12]] 14 13,zmv 2 14]),.ret])
def QLq:List (ARv × Md):=[(.t 2,.one .d)]
theorem QBQ (v:List Int) (h :
 K (QlN (((decide ((v.length:Int)≥(1:Int)))&&(decide ((v.length:Int)≤(6:Int))))&&(Zu v)))):Hold (tawp QBt (0+0) QA7 (TQ 0 0 QLq K) (Qf [(.c (.sl [TI]) v)])) :=
 Hold.of (by kernel_rfl) h
theorem QP2 (v:List Int):TCon Tryz.prog 134 [(.c (.sl [TI]) v)] (QlN (Q8 v)):=by
 refine Qq rfl fun hb=>tcg (n:=15) (sg:=Qa0.sg) Qj (TOk.cons QjD TOk.nil) (by kernel_rfl) (by kernel_rfl) (QBQ _ v ?_)
 have hl_v:v.length≤9223372036854775807:=hb.1.1
 exact R_eq (by grind [Q8,m_in])
theorem QcT:Qh Tryz.prog Qa0:=Qk fun x _=>QP2 x.1
def Qjc (t:Bool):TRes:=zre (zcb t)
def JA:TRow:=Qg 114 [(.c (.sl [TI])),(.c TI)] fun x=>(none,Qjc (Qs x.1 x.2.1))
def QBs:List TRow:=[Qa0]
def QND:TCode :=
 (zsq [(.reg [zmv 4 (zkb false)]),(.reg [zmv 5 0,zca 6 134 [5],zmv 7 6,.grp 7 true [zmv 8 0,zle 9 8,zmv 10 1,zbi 11 .eql 9 10] 12 11,zmv 4 12]),.ret])
def QI1:List (ARv × Md):=[(.t 4,.one .d)]
theorem QFN (v:List Int) (n:Int) (h :
 K (Qjc ((Q8 v)&&((v.length:Int)==n)))):Hold (tawp QBs (0+0) QND (TQ 0 0 QI1 K) (Qf [(.c (.sl [TI]) v),(.c TI n)])) :=
 Hold.of (by kernel_rfl) h
theorem QPs (v:List Int) (n:Int):TCon Tryz.prog 114 [(.c (.sl [TI]) v),(.c TI n)] (Qjc (Qs v n)):=by
 refine Qq rfl fun hb=>tcg (n:=13) (sg:=JA.sg) Qj (TOk.cons QcT TOk.nil) (by kernel_rfl) (by kernel_rfl) (QFN _ v n ?_)
 have hl_v:v.length≤9223372036854775807:=hb.1.1
 exact R_eq (by simp [Qs])
theorem Qao:Qh Tryz.prog JA:=Qk fun x _=>QPs x.1 x.2.1
def QlW (t:Bool):TRes:=zre (zcb t)
def Qmu:TRow:=Qg 186 [(.c (.sl [TI])),(.c TI)] fun x=>(none,QlW (YT x.1 x.2.1))
def QPk:List TRow:=[JA]
def QMJ:TCode :=
 (zsq [(.reg [zmv 4 (zkb false)]),(.reg [zmv 5 0,zle 6 5,zbi 7 .eql 6 (zki 0),zmv 8 7,.grp 8 false [zmv 9 0,zmv 10 1,zca 11 114 [9,10]] 12 11,zmv 4 12]),.ret])
def QMG:List (ARv × Md):=[(.t 4,.one .d)]
theorem QGK (v:List Int) (n:Int) (h :
 K (QlW (((v.length:Int)==(0:Int))||(Qs v n)))):Hold (tawp QPk (0+0) QMJ (TQ 0 0 QMG K) (Qf [(.c (.sl [TI]) v),(.c TI n)])) :=
 Hold.of (by kernel_rfl) h
theorem QBy (v:List Int) (n:Int):TCon Tryz.prog 186 [(.c (.sl [TI]) v),(.c TI n)] (QlW (YT v n)):=by
 refine Qq rfl fun hb=>tcg (n:=13) (sg:=Qmu.sg) Qj (TOk.cons Qao TOk.nil) (by kernel_rfl) (by kernel_rfl) (QGK _ v n ?_)
 have hl_v:v.length≤9223372036854775807:=hb.1.1
 exact R_eq (by simp [YT,Qs])
theorem QDW:Qh Tryz.prog Qmu:=Qk fun x _=>QBy x.1 x.2.1
end
end Go.Proofs.YtjbdljkhbglnhaaGreat.Am

