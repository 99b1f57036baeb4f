/- -/
import Derived.Test.YtjbdljkhbglnhaaGreatZJG8
namespace Go.Proofs.YtjbdljkhbglnhaaGreat.Am
open Go Go.RowKit Go.Proofs.YtjbdljkhbglnhaaGreat
set_option linter.all false
noncomputable section
variable (K:TRes→Prop)
def QhZ (t:Bool):TRes:=zre (zcb t)
def Y4:TRow:=Qg 77 [(.c TI),(.c TI),(.c TI)] fun x=>(none,QhZ (m_in x.1 x.2.1 x.2.2.1))
def QER:List TRow:=[]
def QvL:TCode :=
 (zsq [(.reg [zmv 6 (zkb false)]),(.reg [zmv 7 0,zmv 8 1,zbi 9 .geq 7 8,zmv 10 9,.grp 10 true [zmv 11 0,zmv 12 2,zbi 13 .leq 11 12] 14 13,zmv 6 14]),.ret])
def QEZ:List (ARv × Md):=[(.t 6,.one .d)]
theorem QIr (x:Int) (low:Int) (high:Int) (h :
 K (QhZ ((decide (x≥low))&&(decide (x≤high))))):Hold (tawp QER (0+0) QvL (TQ 0 0 QEZ K) (Qe [(.c TI x),(.c TI low),(.c TI high)])) :=
 Hold.of (by kernel_rfl) h
theorem QGw (x:Int) (low:Int) (high:Int):TCon Tryz.prog 77 [(.c TI x),(.c TI low),(.c TI high)] (QhZ (m_in x low high)):=by
 refine Ql rfl fun hb=>tcg (n:=15) (sg:=Y4.sg) Qi TOk.nil (by kernel_rfl) (by kernel_rfl) (QIr _ x low high ?_)
 exact R_eq rfl
theorem JB:Qh Tryz.prog Y4:=Qk fun x _=>QGw x.1 x.2.1 x.2.2.1
def Qgw (t:Bool):TRes:=zre (zcb t)
def QbA:TRow:=Qg 110 [(.c TI)] fun x=>(none,Qgw (QU x.1))
def QGQ:List TRow:=[Y4]
def QwS:TCode :=
 (zsq [(.reg [zmv 2 (zkb false)]),(.reg [zmv 3 0,zca 4 77 [3,(zki (-2147483647)),(zki 2147483647)],zmv 2 4]),.ret])
def QEK:List (ARv × Md):=[(.t 2,.one .d)]
theorem QEF (x:Int) (h :
 K (Qgw (m_in x (-2147483647:Int) (2147483647:Int)))):Hold (tawp QGQ (0+0) QwS (TQ 0 0 QEK K) (Qe [(.c TI x)])) :=
 Hold.of (by kernel_rfl) h
theorem QIG (x:Int):TCon Tryz.prog 110 [(.c TI x)] (Qgw (QU x)):=by
 refine Ql rfl fun hb=>tcg (n:=5) (sg:=QbA.sg) Qi (TOk.cons JB TOk.nil) (by kernel_rfl) (by kernel_rfl) (QEF _ x ?_)
 exact R_eq rfl
theorem QfC:Qh Tryz.prog QbA:=Qk fun x _=>QIG x.1
def QjK (t:Bool):TRes:=zre (zcb t)
def Qci:TRow:=Qg 217 [(.c TI)] fun x=>(none,QjK (QU x.1))
def QzF:List TRow:=[]
def QBM:TCode :=
 (zsq [(.reg [zmv 2 (zkb false)]),(.reg [zmv 3 0,zbi 4 .geq 3 (zki (-2147483647)),zmv 5 4,.grp 5 true [zmv 6 0,zbi 7 .leq 6 (zki 2147483647)] 8 7,zmv 2 8]),.ret])
def QEB:List (ARv × Md):=[(.t 2,.one .d)]
theorem QIL (x:Int) (h :
 K (QjK ((decide (x≥(-2147483647:Int)))&&(decide (x≤(2147483647:Int)))))):Hold (tawp QzF (0+0) QBM (TQ 0 0 QEB K) (Qe [(.c TI x)])) :=
 Hold.of (by kernel_rfl) h
theorem QHx (x:Int):TCon Tryz.prog 217 [(.c TI x)] (QjK (QU x)):=by
 refine Ql rfl fun hb=>tcg (n:=9) (sg:=Qci.sg) Qi TOk.nil (by kernel_rfl) (by kernel_rfl) (QIL _ x ?_)
 exact R_eq rfl
theorem Qkk:Qh Tryz.prog Qci:=Qk fun x _=>QHx x.1
def QbI (t:Bool):TRes:=zre (zcb t)
def Qdq:TRow:=Qg 195 [(.c (.sl [TI]))] fun x=>(none,QbI (Q8 x.1))
def Qle:List TRow:=[Qci]
def Qp1:TCode :=
 (zsq [(.reg [zbi 8 .lss 7 6]),(.cond 8 .skip (.exit 0)),(.block 1 (zsq [(.reg [zia 9 5 7 [TI],zld 10 9 1,zmv 4 10]),(.reg [zmv 11 4,zca 12 217 [11],zno 13 12]),(.cond 13 (zsq [(.reg [zmv 2 (zkb false)]),.ret]) .skip)])),(.reg [zbi 14 .add 7 (zki 1),zmv 7 14])])
def QtV:List (Nat × Md):=zdl [5,6,7]
def Qoc:TCode :=
 (zsq [(.reg [zmv 2 (zkb true)]),.ret])
def QCb:TCode :=
 (zsq [(.reg [zmv 2 (zkb false)]),(zsq [(.reg [zmv 5 0,zle 6 5,zmv 7 (zki 0)]),(.block 0 (.loop QtV Qp1))]),Qoc])
def Qnf:List (ARv × Md):=[(.t 2,.one .d)]
def QlT:Qc:=TQ 0 0 Qnf K
def QwV:Qc:=Qseq (tawp Qle 0 Qoc (QlT K)) (QlT K)
def QHc:Qc:=Qblk 0 (QwV K)
def Qi1 (v:List Int) (x:Int):Prop:=Loop Qle 0 QtV Qp1 (QHc K) ⟨[(5,(zcs [TI] v)),(6,(zci (v.length:Int))),(7,(zci x))],[],0⟩
theorem Qzt (v:List Int) (x:Int) (h :
 (zif (decide (x<(v.length:Int))) (((0:Int)≤x∧Int.toNat x<v.length)∧(zif (!(QU (gtd (0:Int) v (Int.toNat x)))) (K (QbI false)) (Qi1 K v (w64 (x+(1:Int)))))) (K (QbI true)))):Qi1 K v x :=
 Loop.of (by kernel_rfl) h
theorem Qx1 (v:List Int) (h :
 (Qi1 K v 0)):Hold (tawp Qle (0+0) QCb (TQ 0 0 Qnf K) (Qe [(.c (.sl [TI]) v)])) :=
 Hold.of (by kernel_rfl) h
theorem Qvj (v:List Int):TCon Tryz.prog 195 [(.c (.sl [TI]) v)] (QbI (Q8 v)):=by
 refine Ql rfl fun hb=>tcg (n:=15) (sg:=Qdq.sg) Qi (TOk.cons Qkk TOk.nil) (by kernel_rfl) (by kernel_rfl) (Qx1 _ v ?_)
 have hl_v:v.length≤9223372036854775807:=hb.1.1
 exact Qge (Q:=fun x=>QbI x=QbI (Q8 v)) (p:=QU) (c:=fun x=>!(QU x)) 0 hl_v (fun _=>rfl) (fun i h=>Qzt _ v i h) (R_eq (by simp [Q8]))
theorem QkU:Qh Tryz.prog Qdq:=Qk fun x _=>Qvj x.1
def QbH (t:Bool):TRes:=zre (zcb t)
def Ys:TRow:=Qg 42 [(.c (.sl [TI]))] fun x=>(none,QbH (Qu x.1))
def Qjn:List TRow:=[QbA,Y4]
def QmP:TCode :=
 (zsq [(zsq [(.reg [zmv 4 3,zmv 5 0,zle 6 5,zbi 7 .lss 4 6]),(.cond 7 .skip (.exit 0))]),(.block 1 (zsq [(.reg [zmv 10 0,zmv 11 3,zia 12 10 11 [TI],zld 13 12 1,zca 14 110 [13],zno 15 14]),(.cond 15 (zsq [(.reg [zmv 2 (zkb false)]),.ret]) .skip)])),(.reg [zmv 8 3,zbi 9 .add 8 (zki 1),zmv 3 9])])
def Qrf:List (Nat × Md):=zdl [0,3]
def Quy:TCode :=
 (zsq [(.reg [zmv 16 0,zle 17 16,zca 18 77 [17,(zki 1),(zki 6)],zmv 2 18]),.ret])
def QEw:TCode :=
 (zsq [(.reg [zmv 2 (zkb false)]),(zsq [(.reg [zmv 3 (zki 0)]),(.block 0 (.loop Qrf QmP))]),Quy])
def Qo2:List (ARv × Md):=[(.t 2,.one .d)]
def Qp8:Qc:=TQ 0 0 Qo2 K
def QF2:Qc:=Qseq (tawp Qjn 0 Quy (Qp8 K)) (Qp8 K)
def QEk:Qc:=Qblk 0 (QF2 K)
def QkB (v:List Int) (i:Int):Prop:=Loop Qjn 0 Qrf QmP (QEk K) ⟨[(0,(zcs [TI] v)),(3,(zci i))],[],0⟩
theorem QJy (v:List Int) (i:Int) (h :
 (zif (decide (i<(v.length:Int))) (((0:Int)≤i∧Int.toNat i<v.length)∧(zif (!(QU (gtd (0:Int) v (Int.toNat i)))) (K (QbH false)) (QkB K v (w64 (i+(1:Int)))))) (K (QbH (m_in (v.length:Int) (1:Int) (6:Int)))))):QkB K v i :=
 Loop.of (by kernel_rfl) h
theorem QAq (v:List Int) (h :
 (QkB K v 0)):Hold (tawp Qjn (0+0) QEw (TQ 0 0 Qo2 K) (Qe [(.c (.sl [TI]) v)])) :=
 Hold.of (by kernel_rfl) h
theorem QJp (v:List Int):TCon Tryz.prog 42 [(.c (.sl [TI]) v)] (QbH (Qu v)):=by
 refine Ql rfl fun hb=>tcg (n:=19) (sg:=Ys.sg) Qi (TOk.cons QfC (TOk.cons JB TOk.nil)) (by kernel_rfl) (by kernel_rfl) (QAq _ v ?_)
 have hl_v:v.length≤9223372036854775807:=hb.1.1
 exact Qge (Q:=fun x=>QbH x=QbH (Qu v)) (p:=QU) (c:=fun x=>!(QU x)) 0 hl_v (fun _=>rfl) (fun i h=>QJy _ v i h) (R_eq (by grind [Qu,Q8]))
theorem YF:Qh Tryz.prog Ys:=Qk fun x _=>QJp x.1
def Qht (t:Bool):TRes:=zre (zcb t)
def Qat:TRow:=Qg 134 [(.c (.sl [TI]))] fun x=>(none,Qht (Qu x.1))
def QA1:List TRow:=[Qdq]
def QwH:TCode :=
 (zsq [(.reg [zmv 2 (zkb false)]),(.reg [zmv 3 0,zle 4 3,zbi 5 .geq 4 (zki 1),zmv 6 5,.grp 6 true [zmv 7 0,zle 8 7,zbi 9 .leq 8 (zki 6)] 10 9,zmv 11 10,.grp 11 true [zmv 12 0,zca 13 195 [12]] 14 13,zmv 2 14]),.ret])
def QDL:List (ARv × Md):=[(.t 2,.one .d)]
theorem QAa (v:List Int) (h :
 K (Qht (((decide ((v.length:Int)≥(1:Int)))&&(decide ((v.length:Int)≤(6:Int))))&&(Q8 v)))):Hold (tawp QA1 (0+0) QwH (TQ 0 0 QDL K) (Qe [(.c (.sl [TI]) v)])) :=
 Hold.of (by kernel_rfl) h
theorem Qwa (v:List Int):TCon Tryz.prog 134 [(.c (.sl [TI]) v)] (Qht (Qu v)):=by
 refine Ql rfl fun hb=>tcg (n:=15) (sg:=Qat.sg) Qi (TOk.cons QkU TOk.nil) (by kernel_rfl) (by kernel_rfl) (QAa _ v ?_)
 have hl_v:v.length≤9223372036854775807:=hb.1.1
 exact R_eq (by grind [Qu,m_in])
theorem QcC:Qh Tryz.prog Qat:=Qk fun x _=>Qwa x.1
def Qhi (t:Bool):TRes:=zre (zcb t)
def Y0:TRow:=Qg 114 [(.c (.sl [TI])),(.c TI)] fun x=>(none,Qhi (Qf x.1 x.2.1))
def QEx:List TRow:=[Qat]
def QH0:TCode :=
 (zsq [(.reg [zmv 4 (zkb false)]),(.reg [zmv 5 0,zca 6 134 [5],zmv 7 6,.grp 7 true [zmv 8 0,zle 9 8,zmv 10 1,zbi 11 .eql 9 10] 12 11,zmv 4 12]),.ret])
def QyU:List (ARv × Md):=[(.t 4,.one .d)]
theorem QHU (v:List Int) (n:Int) (h :
 K (Qhi ((Qu v)&&((v.length:Int)==n)))):Hold (tawp QEx (0+0) QH0 (TQ 0 0 QyU K) (Qe [(.c (.sl [TI]) v),(.c TI n)])) :=
 Hold.of (by kernel_rfl) h
theorem QBX (v:List Int) (n:Int):TCon Tryz.prog 114 [(.c (.sl [TI]) v),(.c TI n)] (Qhi (Qf v n)):=by
 refine Ql rfl fun hb=>tcg (n:=13) (sg:=Y0.sg) Qi (TOk.cons QcC TOk.nil) (by kernel_rfl) (by kernel_rfl) (QHU _ v n ?_)
 have hl_v:v.length≤9223372036854775807:=hb.1.1
 exact R_eq (by simp [Qf])
theorem Js:Qh Tryz.prog Y0:=Qk fun x _=>QBX x.1 x.2.1
def Qjq (t:Bool):TRes:=zre (zcb t)
def Qhh:TRow:=Qg 186 [(.c (.sl [TI])),(.c TI)] fun x=>(none,Qjq (ZI x.1 x.2.1))
def QGC:List TRow:=[Y0]
def QCD:TCode :=
 (zsq [(.reg [zmv 4 (zkb false)]),(.reg [zmv 5 0,zle 6 5,zbi 7 .eql 6 (zki 0),zmv 8 7,.grp 8 false [zmv 9 0,zmv 10 1,zca 11 114 [9,10]] 12 11,zmv 4 12]),.ret])
def QCh:List (ARv × Md):=[(.t 4,.one .d)]
theorem QC9 (v:List Int) (n:Int) (h :
 K (Qjq (((v.length:Int)==(0:Int))||(Qf v n)))):Hold (tawp QGC (0+0) QCD (TQ 0 0 QCh K) (Qe [(.c (.sl [TI]) v),(.c TI n)])) :=
 Hold.of (by kernel_rfl) h
theorem QFR (v:List Int) (n:Int):TCon Tryz.prog 186 [(.c (.sl [TI]) v),(.c TI n)] (Qjq (ZI v n)):=by
 refine Ql rfl fun hb=>tcg (n:=13) (sg:=Qhh.sg) Qi (TOk.cons Js TOk.nil) (by kernel_rfl) (by kernel_rfl) (QC9 _ v n ?_)
 have hl_v:v.length≤9223372036854775807:=hb.1.1
 exact R_eq (by simp [ZI,Qf])
theorem QBv:Qh Tryz.prog Qhh:=Qk fun x _=>QFR x.1 x.2.1
def QgX (t:Bool):TRes:=zre (zcb t)
def Qll:TRow:=Qg 109 [(.c (.sl [TI])),(.c TI)] fun x=>(none,QgX (ZI x.1 x.2.1))
def QwW:List TRow:=[Ys]
def QG5:TCode :=
 (zsq [(.reg [zmv 4 (zkb false)]),(.reg [zmv 5 0,zle 6 5,zbi 7 .eql 6 (zki 0),zmv 8 7,.grp 8 false [zmv 9 0,zca 10 42 [9],zmv 11 10,.grp 11 true [zmv 12 0,zle 13 12,zmv 14 1,zbi 15 .eql 13 14] 16 15] 17 16,zmv 4 17]),.ret])
def QJQ:List (ARv × Md):=[(.t 4,.one .d)]
theorem QH9 (v:List Int) (n:Int) (h :
 K (QgX (((v.length:Int)==(0:Int))||((Qu v)&&((v.length:Int)==n))))):Hold (tawp QwW (0+0) QG5 (TQ 0 0 QJQ K) (Qe [(.c (.sl [TI]) v),(.c TI n)])) :=
 Hold.of (by kernel_rfl) h
theorem QJw (v:List Int) (n:Int):TCon Tryz.prog 109 [(.c (.sl [TI]) v),(.c TI n)] (QgX (ZI v n)):=by
 refine Ql rfl fun hb=>tcg (n:=18) (sg:=Qll.sg) Qi (TOk.cons YF TOk.nil) (by kernel_rfl) (by kernel_rfl) (QH9 _ v n ?_)
 have hl_v:v.length≤9223372036854775807:=hb.1.1
 exact R_eq (by simp [ZI,Qf])
theorem QxX:Qh Tryz.prog Qll:=Qk fun x _=>QJw x.1 x.2.1
end
end Go.Proofs.YtjbdljkhbglnhaaGreat.Am

