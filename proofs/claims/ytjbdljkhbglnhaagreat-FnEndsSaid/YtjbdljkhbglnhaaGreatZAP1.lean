/- -/
import Derived.Test.YtjbdljkhbglnhaaGreatZAG8
namespace Go.Proofs.YtjbdljkhbglnhaaGreat.Am
open Go Go.RowKit Go.Proofs.YtjbdljkhbglnhaaGreat
set_option linter.all false
noncomputable section
variable (K:TRes→Prop)
def Qoh (t:Bool):TRes:=zre (zcb t)
def JH:TRow:=Qj 77 [(.c TI),(.c TI),(.c TI)] fun x=>(none,Qoh (m_in x.1 x.2.1 x.2.2.1))
def QIJ:List TRow:=[]
def QC5:TCode :=
 (zsq [(.reg [zmv 6 (zkb false)]),(.reg [zmv 7 0,zmv 8 1,zbi 9 .geq 7 8,zmv 10 9,.grp 10 true [zmv 11 0,zmv 12 2,zbi 13 .leq 11 12] 14 13,zmv 6 14]),.ret])
def QPg:List (ARv × Md):=[(.t 6,.one .d)]
theorem QOM (x:Int) (low:Int) (high:Int) (h :
 K (Qoh ((decide (x≥low))&&(decide (x≤high))))):Hold (tawp QIJ (0+0) QC5 (TQ 0 0 QPg K) (Qf [(.c TI x),(.c TI low),(.c TI high)])) :=
 Hold.of (by kernel_rfl) h
theorem QPL (x:Int) (low:Int) (high:Int):TCon Tryz.prog 77 [(.c TI x),(.c TI low),(.c TI high)] (Qoh (m_in x low high)):=by
 refine Qq rfl fun hb=>tcg (n:=15) (sg:=JH.sg) Ql TOk.nil (by kernel_rfl) (by kernel_rfl) (QOM _ x low high ?_)
 exact R_eq rfl
theorem Qac:Qi Tryz.prog JH:=Qm fun x _=>QPL x.1 x.2.1 x.2.2.1
def QmW (t:Bool):TRes:=zre (zcb t)
def Qgr:TRow:=Qj 110 [(.c TI)] fun x=>(none,QmW (Q6 x.1))
def QF3:List TRow:=[JH]
def QBM:TCode :=
 (zsq [(.reg [zmv 2 (zkb false)]),(.reg [zmv 3 0,zca 4 77 [3,(zki (-2147483647)),(zki 2147483647)],zmv 2 4]),.ret])
def QBE:List (ARv × Md):=[(.t 2,.one .d)]
theorem QGm (x:Int) (h :
 K (QmW (m_in x (-2147483647:Int) (2147483647:Int)))):Hold (tawp QF3 (0+0) QBM (TQ 0 0 QBE K) (Qf [(.c TI x)])) :=
 Hold.of (by kernel_rfl) h
theorem QIF (x:Int):TCon Tryz.prog 110 [(.c TI x)] (QmW (Q6 x)):=by
 refine Qq rfl fun hb=>tcg (n:=5) (sg:=Qgr.sg) Ql (TOk.cons Qac TOk.nil) (by kernel_rfl) (by kernel_rfl) (QGm _ x ?_)
 exact R_eq rfl
theorem QwJ:Qi Tryz.prog Qgr:=Qm fun x _=>QIF x.1
def Qoi (t:Bool):TRes:=zre (zcb t)
def Qen:TRow:=Qj 217 [(.c TI)] fun x=>(none,Qoi (Q6 x.1))
def QIP:List TRow:=[]
def QGo:TCode :=
 (zsq [(.reg [zmv 2 (zkb false)]),(.reg [zmv 3 0,zbi 4 .geq 3 (zki (-2147483647)),zmv 5 4,.grp 5 true [zmv 6 0,zbi 7 .leq 6 (zki 2147483647)] 8 7,zmv 2 8]),.ret])
def QLo:List (ARv × Md):=[(.t 2,.one .d)]
theorem QPJ (x:Int) (h :
 K (Qoi ((decide (x≥(-2147483647:Int)))&&(decide (x≤(2147483647:Int)))))):Hold (tawp QIP (0+0) QGo (TQ 0 0 QLo K) (Qf [(.c TI x)])) :=
 Hold.of (by kernel_rfl) h
theorem QFC (x:Int):TCon Tryz.prog 217 [(.c TI x)] (Qoi (Q6 x)):=by
 refine Qq rfl fun hb=>tcg (n:=9) (sg:=Qen.sg) Ql TOk.nil (by kernel_rfl) (by kernel_rfl) (QPJ _ x ?_)
 exact R_eq rfl
theorem Qnw:Qi Tryz.prog Qen:=Qm fun x _=>QFC x.1
def Qdb (t:Bool):TRes:=zre (zcb t)
def QeO:TRow:=Qj 195 [(.c (.sl [TI]))] fun x=>(none,Qdb (Zr x.1))
def Qkb:List TRow:=[Qen]
def Qtp:TCode :=
 (zsq [(.reg [zbi 8 .lss 7 6]),(.cond 8 .skip (.exit 0)),(.block 1 (zsq [(.reg [zia 9 5 7 [TI],zld 10 9 1,zmv 4 10]),(.reg [zmv 11 4,zca 12 217 [11],zno 13 12]),(.cond 13 (zsq [(.reg [zmv 2 (zkb false)]),.ret]) .skip)])),(.reg [zbi 14 .add 7 (zki 1),zmv 7 14])])
def Qxt:List (Nat × Md):=zdl [5,6,7]
def QyR:TCode :=
 (zsq [(.reg [zmv 2 (zkb true)]),.ret])
def QOd:TCode :=
 (zsq [(.reg [zmv 2 (zkb false)]),(zsq [(.reg [zmv 5 0,zle 6 5,zmv 7 (zki 0)]),(.block 0 (.loop Qxt Qtp))]),QyR])
def Qo6:List (ARv × Md):=[(.t 2,.one .d)]
def Qs3:Qb:=TQ 0 0 Qo6 K
def QCt:Qb:=Qseq (tawp Qkb 0 QyR (Qs3 K)) (Qs3 K)
def QOU:Qb:=Qblk 0 (QCt K)
def Qjw (v:List Int) (x:Int):Prop:=Loop Qkb 0 Qxt Qtp (QOU K) ⟨[(5,(zcs [TI] v)),(6,(zci (v.length:Int))),(7,(zci x))],[],0⟩
theorem QJW (v:List Int) (x:Int) (h :
 (zif (decide (x<(v.length:Int))) (((0:Int)≤x∧Int.toNat x<v.length)∧(zif (!(Q6 (gtd (0:Int) v (Int.toNat x)))) (K (Qdb false)) (Qjw K v (w64 (x+(1:Int)))))) (K (Qdb true)))):Qjw K v x :=
 Loop.of (by kernel_rfl) h
theorem QIB (v:List Int) (h :
 (Qjw K v 0)):Hold (tawp Qkb (0+0) QOd (TQ 0 0 Qo6 K) (Qf [(.c (.sl [TI]) v)])) :=
 Hold.of (by kernel_rfl) h
theorem QDz (v:List Int):TCon Tryz.prog 195 [(.c (.sl [TI]) v)] (Qdb (Zr v)):=by
 refine Qq rfl fun hb=>tcg (n:=15) (sg:=QeO.sg) Ql (TOk.cons Qnw TOk.nil) (by kernel_rfl) (by kernel_rfl) (QIB _ v ?_)
 have hl_v:v.length≤9223372036854775807:=hb.1.1
 exact Qb6 (Q:=fun x=>Qdb x=Qdb (Zr v)) (p:=Q6) (c:=fun x=>!(Q6 x)) 0 hl_v (fun _=>rfl) (fun i h=>QJW _ v i h) (R_eq (by simp [Zr]))
theorem Qnn:Qi Tryz.prog QeO:=Qm fun x _=>QDz x.1
def Qdy (t:Bool):TRes:=zre (zcb t)
def Qh6:TRow:=Qj 42 [(.c (.sl [TI]))] fun x=>(none,Qdy (Q2 x.1))
def Qmz:List TRow:=[Qgr,JH]
def QwN:TCode :=
 (zsq [(zsq [(.reg [zmv 4 3,zmv 5 0,zle 6 5,zbi 7 .lss 4 6]),(.cond 7 .skip (.exit 0))]),(.block 1 (zsq [(.reg [zmv 10 0,zmv 11 3,zia 12 10 11 [TI],zld 13 12 1,zca 14 110 [13],zno 15 14]),(.cond 15 (zsq [(.reg [zmv 2 (zkb false)]),.ret]) .skip)])),(.reg [zmv 8 3,zbi 9 .add 8 (zki 1),zmv 3 9])])
def QvI:List (Nat × Md):=zdl [0,3]
def Qr5:TCode :=
 (zsq [(.reg [zmv 16 0,zle 17 16,zca 18 77 [17,(zki 1),(zki 6)],zmv 2 18]),.ret])
def QC9:TCode :=
 (zsq [(.reg [zmv 2 (zkb false)]),(zsq [(.reg [zmv 3 (zki 0)]),(.block 0 (.loop QvI QwN))]),Qr5])
def QwD:List (ARv × Md):=[(.t 2,.one .d)]
def Qtk:Qb:=TQ 0 0 QwD K
def QMD:Qb:=Qseq (tawp Qmz 0 Qr5 (Qtk K)) (Qtk K)
def QQm:Qb:=Qblk 0 (QMD K)
def QmS (v:List Int) (i:Int):Prop:=Loop Qmz 0 QvI QwN (QQm K) ⟨[(0,(zcs [TI] v)),(3,(zci i))],[],0⟩
theorem QBf (v:List Int) (i:Int) (h :
 (zif (decide (i<(v.length:Int))) (((0:Int)≤i∧Int.toNat i<v.length)∧(zif (!(Q6 (gtd (0:Int) v (Int.toNat i)))) (K (Qdy false)) (QmS K v (w64 (i+(1:Int)))))) (K (Qdy (m_in (v.length:Int) (1:Int) (6:Int)))))):QmS K v i :=
 Loop.of (by kernel_rfl) h
theorem QBx (v:List Int) (h :
 (QmS K v 0)):Hold (tawp Qmz (0+0) QC9 (TQ 0 0 QwD K) (Qf [(.c (.sl [TI]) v)])) :=
 Hold.of (by kernel_rfl) h
theorem QCr (v:List Int):TCon Tryz.prog 42 [(.c (.sl [TI]) v)] (Qdy (Q2 v)):=by
 refine Qq rfl fun hb=>tcg (n:=19) (sg:=Qh6.sg) Ql (TOk.cons QwJ (TOk.cons Qac TOk.nil)) (by kernel_rfl) (by kernel_rfl) (QBx _ v ?_)
 have hl_v:v.length≤9223372036854775807:=hb.1.1
 exact Qb6 (Q:=fun x=>Qdy x=Qdy (Q2 v)) (p:=Q6) (c:=fun x=>!(Q6 x)) 0 hl_v (fun _=>rfl) (fun i h=>QBf _ v i h) (R_eq (by grind [Q2,Zr]))
theorem QuI:Qi Tryz.prog Qh6:=Qm fun x _=>QCr x.1
def Qma (t:Bool):TRes:=zre (zcb t)
def Qba:TRow:=Qj 134 [(.c (.sl [TI]))] fun x=>(none,Qma (Q2 x.1))
def QPI:List TRow:=[QeO]
def QA7:TCode :=
 (zsq [(.reg [zmv 2 (zkb false)]),(.reg [zmv 3 0,zle 4 3,zbi 5 .geq 4 (zki 1),zmv 6 5,.grp 6 true [zmv 7 0,zle 8 7,zbi 9 .leq 8 (zki 6)] 10 9,zmv 11 10,.grp 11 true [zmv 12 0,zca 13 195 [12]] 14 13,zmv 2 14]),.ret])
def QFI:List (ARv × Md):=[(.t 2,.one .d)]
theorem QIx (v:List Int) (h :
 K (Qma (((decide ((v.length:Int)≥(1:Int)))&&(decide ((v.length:Int)≤(6:Int))))&&(Zr v)))):Hold (tawp QPI (0+0) QA7 (TQ 0 0 QFI K) (Qf [(.c (.sl [TI]) v)])) :=
 Hold.of (by kernel_rfl) h
theorem QRr (v:List Int):TCon Tryz.prog 134 [(.c (.sl [TI]) v)] (Qma (Q2 v)):=by
 refine Qq rfl fun hb=>tcg (n:=15) (sg:=Qba.sg) Ql (TOk.cons Qnn TOk.nil) (by kernel_rfl) (by kernel_rfl) (QIx _ v ?_)
 have hl_v:v.length≤9223372036854775807:=hb.1.1
 exact R_eq (by grind [Q2,m_in])
theorem QcM:Qi Tryz.prog Qba:=Qm fun x _=>QRr x.1
def QmB (t:Bool):TRes:=zre (zcb t)
def JJ:TRow:=Qj 114 [(.c (.sl [TI])),(.c TI)] fun x=>(none,QmB (Qt x.1 x.2.1))
def QLN:List TRow:=[Qba]
def QKL:TCode :=
 (zsq [(.reg [zmv 4 (zkb false)]),(.reg [zmv 5 0,zca 6 134 [5],zmv 7 6,.grp 7 true [zmv 8 0,zle 9 8,zmv 10 1,zbi 11 .eql 9 10] 12 11,zmv 4 12]),.ret])
def QHY:List (ARv × Md):=[(.t 4,.one .d)]
theorem QL7 (v:List Int) (n:Int) (h :
 K (QmB ((Q2 v)&&((v.length:Int)==n)))):Hold (tawp QLN (0+0) QKL (TQ 0 0 QHY K) (Qf [(.c (.sl [TI]) v),(.c TI n)])) :=
 Hold.of (by kernel_rfl) h
theorem QDr (v:List Int) (n:Int):TCon Tryz.prog 114 [(.c (.sl [TI]) v),(.c TI n)] (QmB (Qt v n)):=by
 refine Qq rfl fun hb=>tcg (n:=13) (sg:=JJ.sg) Ql (TOk.cons QcM TOk.nil) (by kernel_rfl) (by kernel_rfl) (QL7 _ v n ?_)
 have hl_v:v.length≤9223372036854775807:=hb.1.1
 exact R_eq (by simp [Qt])
theorem Qak:Qi Tryz.prog JJ:=Qm fun x _=>QDr x.1 x.2.1
def QmM (t:Bool):TRes:=zre (zcb t)
def Qln:TRow:=Qj 186 [(.c (.sl [TI])),(.c TI)] fun x=>(none,QmM (YU x.1 x.2.1))
def QII:List TRow:=[JJ]
def QA5:TCode :=
 (zsq [(.reg [zmv 4 (zkb false)]),(.reg [zmv 5 0,zle 6 5,zbi 7 .eql 6 (zki 0),zmv 8 7,.grp 8 false [zmv 9 0,zmv 10 1,zca 11 114 [9,10]] 12 11,zmv 4 12]),.ret])
def QBL:List (ARv × Md):=[(.t 4,.one .d)]
theorem QO0 (v:List Int) (n:Int) (h :
 K (QmM (((v.length:Int)==(0:Int))||(Qt v n)))):Hold (tawp QII (0+0) QA5 (TQ 0 0 QBL K) (Qf [(.c (.sl [TI]) v),(.c TI n)])) :=
 Hold.of (by kernel_rfl) h
theorem QNL (v:List Int) (n:Int):TCon Tryz.prog 186 [(.c (.sl [TI]) v),(.c TI n)] (QmM (YU v n)):=by
 refine Qq rfl fun hb=>tcg (n:=13) (sg:=Qln.sg) Ql (TOk.cons Qak TOk.nil) (by kernel_rfl) (by kernel_rfl) (QO0 _ v n ?_)
 have hl_v:v.length≤9223372036854775807:=hb.1.1
 exact R_eq (by simp [YU,Qt])
theorem QKX:Qi Tryz.prog Qln:=Qm fun x _=>QNL x.1 x.2.1
end
end Go.Proofs.YtjbdljkhbglnhaaGreat.Am

