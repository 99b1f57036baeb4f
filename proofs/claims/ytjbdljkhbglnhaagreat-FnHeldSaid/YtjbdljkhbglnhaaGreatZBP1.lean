/- -/
import Derived.Test.YtjbdljkhbglnhaaGreatZBG8
namespace Go.Proofs.YtjbdljkhbglnhaaGreat.Am
open Go Go.RowKit Go.Proofs.YtjbdljkhbglnhaaGreat
set_option linter.all false
noncomputable section
variable (K:TRes→Prop)
def QkB (t:Bool):TRes:=zre (zcb t)
def J2:TRow:=Qi 77 [(.c TI),(.c TI),(.c TI)] fun x=>(none,QkB (m_in x.1 x.2.1 x.2.2.1))
def QLp:List TRow:=[]
def QLs:TCode :=
 (zsq [(.reg [zmv 6 (zkb false)]),(.reg [zmv 7 0,zmv 8 1,zbi 9 .geq 7 8,zmv 10 9,.grp 10 true [zmv 11 0,zmv 12 2,zbi 13 .leq 11 12] 14 13,zmv 6 14]),.ret])
def QOi:List (ARv × Md):=[(.t 6,.one .d)]
theorem QFr (x:Int) (low:Int) (high:Int) (h :
 K (QkB ((decide (x≥low))&&(decide (x≤high))))):Hold (tawp QLp (0+0) QLs (TQ 0 0 QOi K) (Qf [(.c TI x),(.c TI low),(.c TI high)])) :=
 Hold.of (by kernel_rfl) h
theorem QJh (x:Int) (low:Int) (high:Int):TCon Tryz.prog 77 [(.c TI x),(.c TI low),(.c TI high)] (QkB (m_in x low high)):=by
 refine Qr rfl fun hb=>tcg (n:=15) (sg:=J2.sg) Qk TOk.nil (by kernel_rfl) (by kernel_rfl) (QFr _ x low high ?_)
 exact R_eq rfl
theorem QaM:Qj Tryz.prog J2:=Qm fun x _=>QJh x.1 x.2.1 x.2.2.1
def Qld (t:Bool):TRes:=zre (zcb t)
def QhG:TRow:=Qi 110 [(.c TI)] fun x=>(none,Qld (Q5 x.1))
def QO3:List TRow:=[J2]
def QEJ:TCode :=
 (zsq [(.reg [zmv 2 (zkb false)]),(.reg [zmv 3 0,zca 4 77 [3,(zki (-2147483647)),(zki 2147483647)],zmv 2 4]),.ret])
def QLW:List (ARv × Md):=[(.t 2,.one .d)]
theorem QNI (x:Int) (h :
 K (Qld (m_in x (-2147483647:Int) (2147483647:Int)))):Hold (tawp QO3 (0+0) QEJ (TQ 0 0 QLW K) (Qf [(.c TI x)])) :=
 Hold.of (by kernel_rfl) h
theorem QB2 (x:Int):TCon Tryz.prog 110 [(.c TI x)] (Qld (Q5 x)):=by
 refine Qr rfl fun hb=>tcg (n:=5) (sg:=QhG.sg) Qk (TOk.cons QaM TOk.nil) (by kernel_rfl) (by kernel_rfl) (QNI _ x ?_)
 exact R_eq rfl
theorem Qs2:Qj Tryz.prog QhG:=Qm fun x _=>QB2 x.1
def QnZ (t:Bool):TRes:=zre (zcb t)
def Qd7:TRow:=Qi 217 [(.c TI)] fun x=>(none,QnZ (Q5 x.1))
def QFI:List TRow:=[]
def QBi:TCode :=
 (zsq [(.reg [zmv 2 (zkb false)]),(.reg [zmv 3 0,zbi 4 .geq 3 (zki (-2147483647)),zmv 5 4,.grp 5 true [zmv 6 0,zbi 7 .leq 6 (zki 2147483647)] 8 7,zmv 2 8]),.ret])
def QB8:List (ARv × Md):=[(.t 2,.one .d)]
theorem QE1 (x:Int) (h :
 K (QnZ ((decide (x≥(-2147483647:Int)))&&(decide (x≤(2147483647:Int)))))):Hold (tawp QFI (0+0) QBi (TQ 0 0 QB8 K) (Qf [(.c TI x)])) :=
 Hold.of (by kernel_rfl) h
theorem QFX (x:Int):TCon Tryz.prog 217 [(.c TI x)] (QnZ (Q5 x)):=by
 refine Qr rfl fun hb=>tcg (n:=9) (sg:=Qd7.sg) Qk TOk.nil (by kernel_rfl) (by kernel_rfl) (QE1 _ x ?_)
 exact R_eq rfl
theorem Qko:Qj Tryz.prog Qd7:=Qm fun x _=>QFX x.1
def Qdo (t:Bool):TRes:=zre (zcb t)
def Qe3:TRow:=Qi 195 [(.c (.sl [TI]))] fun x=>(none,Qdo (Zo x.1))
def Qlu:List TRow:=[Qd7]
def QpN:TCode :=
 (zsq [(.reg [zbi 8 .lss 7 6]),(.cond 8 .skip (.exit 0)),(.block 1 (zsq [(.reg [zia 9 5 7 [TI],zld 10 9 1,zmv 4 10]),(.reg [zmv 11 4,zca 12 217 [11],zno 13 12]),(.cond 13 (zsq [(.reg [zmv 2 (zkb false)]),.ret]) .skip)])),(.reg [zbi 14 .add 7 (zki 1),zmv 7 14])])
def Qvw:List (Nat × Md):=zdl [5,6,7]
def QrV:TCode :=
 (zsq [(.reg [zmv 2 (zkb true)]),.ret])
def QIz:TCode :=
 (zsq [(.reg [zmv 2 (zkb false)]),(zsq [(.reg [zmv 5 0,zle 6 5,zmv 7 (zki 0)]),(.block 0 (.loop Qvw QpN))]),QrV])
def Qva:List (ARv × Md):=[(.t 2,.one .d)]
def Qsg:Qb:=TQ 0 0 Qva K
def QH8:Qb:=Qseq (tawp Qlu 0 QrV (Qsg K)) (Qsg K)
def QFH:Qb:=Qblk 0 (QH8 K)
def QlM (v:List Int) (x:Int):Prop:=Loop Qlu 0 Qvw QpN (QFH K) ⟨[(5,(zcs [TI] v)),(6,(zci (v.length:Int))),(7,(zci x))],[],0⟩
theorem QAg (v:List Int) (x:Int) (h :
 (zif (decide (x<(v.length:Int))) (((0:Int)≤x∧Int.toNat x<v.length)∧(zif (!(Q5 (gtd (0:Int) v (Int.toNat x)))) (K (Qdo false)) (QlM K v (w64 (x+(1:Int)))))) (K (Qdo true)))):QlM K v x :=
 Loop.of (by kernel_rfl) h
theorem QKB (v:List Int) (h :
 (QlM K v 0)):Hold (tawp Qlu (0+0) QIz (TQ 0 0 Qva K) (Qf [(.c (.sl [TI]) v)])) :=
 Hold.of (by kernel_rfl) h
theorem QEV (v:List Int):TCon Tryz.prog 195 [(.c (.sl [TI]) v)] (Qdo (Zo v)):=by
 refine Qr rfl fun hb=>tcg (n:=15) (sg:=Qe3.sg) Qk (TOk.cons Qko TOk.nil) (by kernel_rfl) (by kernel_rfl) (QKB _ v ?_)
 have hl_v:v.length≤9223372036854775807:=hb.1.1
 exact Qae (Q:=fun x=>Qdo x=Qdo (Zo v)) (p:=Q5) (c:=fun x=>!(Q5 x)) 0 hl_v (fun _=>rfl) (fun i h=>QAg _ v i h) (R_eq (by simp [Zo]))
theorem Qms:Qj Tryz.prog Qe3:=Qm fun x _=>QEV x.1
def Qdp (t:Bool):TRes:=zre (zcb t)
def Qkk:TRow:=Qi 42 [(.c (.sl [TI]))] fun x=>(none,Qdp (Q3 x.1))
def Qji:List TRow:=[QhG,J2]
def QwL:TCode :=
 (zsq [(zsq [(.reg [zmv 4 3,zmv 5 0,zle 6 5,zbi 7 .lss 4 6]),(.cond 7 .skip (.exit 0))]),(.block 1 (zsq [(.reg [zmv 10 0,zmv 11 3,zia 12 10 11 [TI],zld 13 12 1,zca 14 110 [13],zno 15 14]),(.cond 15 (zsq [(.reg [zmv 2 (zkb false)]),.ret]) .skip)])),(.reg [zmv 8 3,zbi 9 .add 8 (zki 1),zmv 3 9])])
def QyD:List (Nat × Md):=zdl [0,3]
def Qub:TCode :=
 (zsq [(.reg [zmv 16 0,zle 17 16,zca 18 77 [17,(zki 1),(zki 6)],zmv 2 18]),.ret])
def QM9:TCode :=
 (zsq [(.reg [zmv 2 (zkb false)]),(zsq [(.reg [zmv 3 (zki 0)]),(.block 0 (.loop QyD QwL))]),Qub])
def Qu7:List (ARv × Md):=[(.t 2,.one .d)]
def Qtp:Qb:=TQ 0 0 Qu7 K
def QMC:Qb:=Qseq (tawp Qji 0 Qub (Qtp K)) (Qtp K)
def QCj:Qb:=Qblk 0 (QMC K)
def QmJ (v:List Int) (i:Int):Prop:=Loop Qji 0 QyD QwL (QCj K) ⟨[(0,(zcs [TI] v)),(3,(zci i))],[],0⟩
theorem QDl (v:List Int) (i:Int) (h :
 (zif (decide (i<(v.length:Int))) (((0:Int)≤i∧Int.toNat i<v.length)∧(zif (!(Q5 (gtd (0:Int) v (Int.toNat i)))) (K (Qdp false)) (QmJ K v (w64 (i+(1:Int)))))) (K (Qdp (m_in (v.length:Int) (1:Int) (6:Int)))))):QmJ K v i :=
 Loop.of (by kernel_rfl) h
theorem QCb (v:List Int) (h :
 (QmJ K v 0)):Hold (tawp Qji (0+0) QM9 (TQ 0 0 Qu7 K) (Qf [(.c (.sl [TI]) v)])) :=
 Hold.of (by kernel_rfl) h
theorem QG2 (v:List Int):TCon Tryz.prog 42 [(.c (.sl [TI]) v)] (Qdp (Q3 v)):=by
 refine Qr rfl fun hb=>tcg (n:=19) (sg:=Qkk.sg) Qk (TOk.cons Qs2 (TOk.cons QaM TOk.nil)) (by kernel_rfl) (by kernel_rfl) (QCb _ v ?_)
 have hl_v:v.length≤9223372036854775807:=hb.1.1
 exact Qae (Q:=fun x=>Qdp x=Qdp (Q3 v)) (p:=Q5) (c:=fun x=>!(Q5 x)) 0 hl_v (fun _=>rfl) (fun i h=>QDl _ v i h) (R_eq (by grind [Q3,Zo]))
theorem QNE:Qj Tryz.prog Qkk:=Qm fun x _=>QG2 x.1
def QnR (t:Bool):TRes:=zre (zcb t)
def Qa0:TRow:=Qi 134 [(.c (.sl [TI]))] fun x=>(none,QnR (Q3 x.1))
def QIr:List TRow:=[Qe3]
def QLQ:TCode :=
 (zsq [(.reg [zmv 2 (zkb false)]),(.reg [zmv 3 0,zle 4 3,zbi 5 .geq 4 (zki 1),zmv 6 5,.grp 6 true [zmv 7 0,zle 8 7,zbi 9 .leq 8 (zki 6)] 10 9,zmv 11 10,.grp 11 true [zmv 12 0,zca 13 195 [12]] 14 13,zmv 2 14]),.ret])
def QO5:List (ARv × Md):=[(.t 2,.one .d)]
theorem QJ8 (v:List Int) (h :
 K (QnR (((decide ((v.length:Int)≥(1:Int)))&&(decide ((v.length:Int)≤(6:Int))))&&(Zo v)))):Hold (tawp QIr (0+0) QLQ (TQ 0 0 QO5 K) (Qf [(.c (.sl [TI]) v)])) :=
 Hold.of (by kernel_rfl) h
theorem QOg (v:List Int):TCon Tryz.prog 134 [(.c (.sl [TI]) v)] (QnR (Q3 v)):=by
 refine Qr rfl fun hb=>tcg (n:=15) (sg:=Qa0.sg) Qk (TOk.cons Qms TOk.nil) (by kernel_rfl) (by kernel_rfl) (QJ8 _ v ?_)
 have hl_v:v.length≤9223372036854775807:=hb.1.1
 exact R_eq (by grind [Q3,m_in])
theorem Qca:Qj Tryz.prog Qa0:=Qm fun x _=>QOg x.1
def QlR (t:Bool):TRes:=zre (zcb t)
def JA:TRow:=Qi 114 [(.c (.sl [TI])),(.c TI)] fun x=>(none,QlR (Qs x.1 x.2.1))
def QAj:List TRow:=[Qa0]
def QNj:TCode :=
 (zsq [(.reg [zmv 4 (zkb false)]),(.reg [zmv 5 0,zca 6 134 [5],zmv 7 6,.grp 7 true [zmv 8 0,zle 9 8,zmv 10 1,zbi 11 .eql 9 10] 12 11,zmv 4 12]),.ret])
def QBl:List (ARv × Md):=[(.t 4,.one .d)]
theorem QAB (v:List Int) (n:Int) (h :
 K (QlR ((Q3 v)&&((v.length:Int)==n)))):Hold (tawp QAj (0+0) QNj (TQ 0 0 QBl K) (Qf [(.c (.sl [TI]) v),(.c TI n)])) :=
 Hold.of (by kernel_rfl) h
theorem QJL (v:List Int) (n:Int):TCon Tryz.prog 114 [(.c (.sl [TI]) v),(.c TI n)] (QlR (Qs v n)):=by
 refine Qr rfl fun hb=>tcg (n:=13) (sg:=JA.sg) Qk (TOk.cons Qca TOk.nil) (by kernel_rfl) (by kernel_rfl) (QAB _ v n ?_)
 have hl_v:v.length≤9223372036854775807:=hb.1.1
 exact R_eq (by simp [Qs])
theorem Qac:Qj Tryz.prog JA:=Qm fun x _=>QJL x.1 x.2.1
def QmQ (t:Bool):TRes:=zre (zcb t)
def Qi3:TRow:=Qi 186 [(.c (.sl [TI])),(.c TI)] fun x=>(none,QmQ (YR x.1 x.2.1))
def QCl:List TRow:=[JA]
def QLH:TCode :=
 (zsq [(.reg [zmv 4 (zkb false)]),(.reg [zmv 5 0,zle 6 5,zbi 7 .eql 6 (zki 0),zmv 8 7,.grp 8 false [zmv 9 0,zmv 10 1,zca 11 114 [9,10]] 12 11,zmv 4 12]),.ret])
def QDh:List (ARv × Md):=[(.t 4,.one .d)]
theorem QHX (v:List Int) (n:Int) (h :
 K (QmQ (((v.length:Int)==(0:Int))||(Qs v n)))):Hold (tawp QCl (0+0) QLH (TQ 0 0 QDh K) (Qf [(.c (.sl [TI]) v),(.c TI n)])) :=
 Hold.of (by kernel_rfl) h
theorem QLA (v:List Int) (n:Int):TCon Tryz.prog 186 [(.c (.sl [TI]) v),(.c TI n)] (QmQ (YR v n)):=by
 refine Qr rfl fun hb=>tcg (n:=13) (sg:=Qi3.sg) Qk (TOk.cons Qac TOk.nil) (by kernel_rfl) (by kernel_rfl) (QHX _ v n ?_)
 have hl_v:v.length≤9223372036854775807:=hb.1.1
 exact R_eq (by simp [YR,Qs])
theorem QCa:Qj Tryz.prog Qi3:=Qm fun x _=>QLA x.1 x.2.1
end
end Go.Proofs.YtjbdljkhbglnhaaGreat.Am

