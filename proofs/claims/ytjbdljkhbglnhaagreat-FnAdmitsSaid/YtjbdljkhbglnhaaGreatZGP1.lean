/- -/
import Derived.Test.YtjbdljkhbglnhaaGreatZGG8
namespace Go.Proofs.YtjbdljkhbglnhaaGreat.Am
open Go Go.RowKit Go.Proofs.YtjbdljkhbglnhaaGreat
set_option linter.all false
noncomputable section
variable (K:TRes→Prop)
def QnG (t:Bool):TRes:=zre (zcb t)
def Jj:TRow:=Qi 77 [(.c TI),(.c TI),(.c TI)] fun x=>(none,QnG (m_in x.1 x.2.1 x.2.2.1))
def QFX:List TRow:=[]
def QF2:TCode :=
 (zsq [(.reg [zmv 6 (zkb false)]),(.reg [zmv 7 0,zmv 8 1,zbi 9 .geq 7 8,zmv 10 9,.grp 10 true [zmv 11 0,zmv 12 2,zbi 13 .leq 11 12] 14 13,zmv 6 14]),.ret])
def QFA:List (ARv × Md):=[(.t 6,.one .d)]
theorem QOu (x:Int) (low:Int) (high:Int) (h :
 K (QnG ((decide (x≥low))&&(decide (x≤high))))):Hold (tawp QFX (0+0) QF2 (TQ 0 0 QFA K) (Qf [(.c TI x),(.c TI low),(.c TI high)])) :=
 Hold.of (by kernel_rfl) h
theorem QKW (x:Int) (low:Int) (high:Int):TCon Tryz.prog 77 [(.c TI x),(.c TI low),(.c TI high)] (QnG (m_in x low high)):=by
 refine Qr rfl fun hb=>tcg (n:=15) (sg:=Jj.sg) Qk TOk.nil (by kernel_rfl) (by kernel_rfl) (QOu _ x low high ?_)
 exact R_eq rfl
theorem JM:Qj Tryz.prog Jj:=Ql fun x _=>QKW x.1 x.2.1 x.2.2.1
def QlZ (t:Bool):TRes:=zre (zcb t)
def QiS:TRow:=Qi 110 [(.c TI)] fun x=>(none,QlZ (Zc x.1))
def QIF:List TRow:=[Jj]
def QJt:TCode :=
 (zsq [(.reg [zmv 2 (zkb false)]),(.reg [zmv 3 0,zca 4 77 [3,(zki (-2147483647)),(zki 2147483647)],zmv 2 4]),.ret])
def QE7:List (ARv × Md):=[(.t 2,.one .d)]
theorem QIw (x:Int) (h :
 K (QlZ (m_in x (-2147483647:Int) (2147483647:Int)))):Hold (tawp QIF (0+0) QJt (TQ 0 0 QE7 K) (Qf [(.c TI x)])) :=
 Hold.of (by kernel_rfl) h
theorem QEw (x:Int):TCon Tryz.prog 110 [(.c TI x)] (QlZ (Zc x)):=by
 refine Qr rfl fun hb=>tcg (n:=5) (sg:=QiS.sg) Qk (TOk.cons JM TOk.nil) (by kernel_rfl) (by kernel_rfl) (QIw _ x ?_)
 exact R_eq rfl
theorem Qwa:Qj Tryz.prog QiS:=Ql fun x _=>QEw x.1
def Qm5 (t:Bool):TRes:=zre (zcb t)
def Qe3:TRow:=Qi 217 [(.c TI)] fun x=>(none,Qm5 (Zc x.1))
def Qz3:List TRow:=[]
def QF1:TCode :=
 (zsq [(.reg [zmv 2 (zkb false)]),(.reg [zmv 3 0,zbi 4 .geq 3 (zki (-2147483647)),zmv 5 4,.grp 5 true [zmv 6 0,zbi 7 .leq 6 (zki 2147483647)] 8 7,zmv 2 8]),.ret])
def QA0:List (ARv × Md):=[(.t 2,.one .d)]
theorem QI7 (x:Int) (h :
 K (Qm5 ((decide (x≥(-2147483647:Int)))&&(decide (x≤(2147483647:Int)))))):Hold (tawp Qz3 (0+0) QF1 (TQ 0 0 QA0 K) (Qf [(.c TI x)])) :=
 Hold.of (by kernel_rfl) h
theorem QAH (x:Int):TCon Tryz.prog 217 [(.c TI x)] (Qm5 (Zc x)):=by
 refine Qr rfl fun hb=>tcg (n:=9) (sg:=Qe3.sg) Qk TOk.nil (by kernel_rfl) (by kernel_rfl) (QI7 _ x ?_)
 exact R_eq rfl
theorem QjM:Qj Tryz.prog Qe3:=Ql fun x _=>QAH x.1
def QdI (t:Bool):TRes:=zre (zcb t)
def Qed:TRow:=Qi 195 [(.c (.sl [TI]))] fun x=>(none,QdI (Zs x.1))
def Qmu:List TRow:=[Qe3]
def Qur:TCode :=
 (zsq [(.reg [zbi 8 .lss 7 6]),(.cond 8 .skip (.exit 0)),(.block 1 (zsq [(.reg [zia 9 5 7 [TI],zld 10 9 1,zmv 4 10]),(.reg [zmv 11 4,zca 12 217 [11],zno 13 12]),(.cond 13 (zsq [(.reg [zmv 2 (zkb false)]),.ret]) .skip)])),(.reg [zbi 14 .add 7 (zki 1),zmv 7 14])])
def QvT:List (Nat × Md):=zdl [5,6,7]
def QpY:TCode :=
 (zsq [(.reg [zmv 2 (zkb true)]),.ret])
def QML:TCode :=
 (zsq [(.reg [zmv 2 (zkb false)]),(zsq [(.reg [zmv 5 0,zle 6 5,zmv 7 (zki 0)]),(.block 0 (.loop QvT Qur))]),QpY])
def Qr1:List (ARv × Md):=[(.t 2,.one .d)]
def Qof:Qb:=TQ 0 0 Qr1 K
def Qzs:Qb:=Qseq (tawp Qmu 0 QpY (Qof K)) (Qof K)
def QFT:Qb:=Qblk 0 (Qzs K)
def Qm0 (v:List Int) (x:Int):Prop:=Loop Qmu 0 QvT Qur (QFT K) ⟨[(5,(zcs [TI] v)),(6,(zci (v.length:Int))),(7,(zci x))],[],0⟩
theorem QCd (v:List Int) (x:Int) (h :
 (zif (decide (x<(v.length:Int))) (((0:Int)≤x∧Int.toNat x<v.length)∧(zif (!(Zc (gtd (0:Int) v (Int.toNat x)))) (K (QdI false)) (Qm0 K v (w64 (x+(1:Int)))))) (K (QdI true)))):Qm0 K v x :=
 Loop.of (by kernel_rfl) h
theorem QQa (v:List Int) (h :
 (Qm0 K v 0)):Hold (tawp Qmu (0+0) QML (TQ 0 0 Qr1 K) (Qf [(.c (.sl [TI]) v)])) :=
 Hold.of (by kernel_rfl) h
theorem QHa (v:List Int):TCon Tryz.prog 195 [(.c (.sl [TI]) v)] (QdI (Zs v)):=by
 refine Qr rfl fun hb=>tcg (n:=15) (sg:=Qed.sg) Qk (TOk.cons QjM TOk.nil) (by kernel_rfl) (by kernel_rfl) (QQa _ v ?_)
 have hl_v:v.length≤9223372036854775807:=hb.1.1
 exact Qa1 (Q:=fun x=>QdI x=QdI (Zs v)) (p:=Zc) (c:=fun x=>!(Zc x)) 0 hl_v (fun _=>rfl) (fun i h=>QCd _ v i h) (R_eq (by simp [Zs]))
theorem QnV:Qj Tryz.prog Qed:=Ql fun x _=>QHa x.1
def Qc5 (t:Bool):TRes:=zre (zcb t)
def Qb7:TRow:=Qi 42 [(.c (.sl [TI]))] fun x=>(none,Qc5 (QW x.1))
def Qk2:List TRow:=[QiS,Jj]
def Qoj:TCode :=
 (zsq [(zsq [(.reg [zmv 4 3,zmv 5 0,zle 6 5,zbi 7 .lss 4 6]),(.cond 7 .skip (.exit 0))]),(.block 1 (zsq [(.reg [zmv 10 0,zmv 11 3,zia 12 10 11 [TI],zld 13 12 1,zca 14 110 [13],zno 15 14]),(.cond 15 (zsq [(.reg [zmv 2 (zkb false)]),.ret]) .skip)])),(.reg [zmv 8 3,zbi 9 .add 8 (zki 1),zmv 3 9])])
def QqS:List (Nat × Md):=zdl [0,3]
def QxW:TCode :=
 (zsq [(.reg [zmv 16 0,zle 17 16,zca 18 77 [17,(zki 1),(zki 6)],zmv 2 18]),.ret])
def QD6:TCode :=
 (zsq [(.reg [zmv 2 (zkb false)]),(zsq [(.reg [zmv 3 (zki 0)]),(.block 0 (.loop QqS Qoj))]),QxW])
def QvU:List (ARv × Md):=[(.t 2,.one .d)]
def Qs4:Qb:=TQ 0 0 QvU K
def QLX:Qb:=Qseq (tawp Qk2 0 QxW (Qs4 K)) (Qs4 K)
def QFj:Qb:=Qblk 0 (QLX K)
def Qj6 (v:List Int) (i:Int):Prop:=Loop Qk2 0 QqS Qoj (QFj K) ⟨[(0,(zcs [TI] v)),(3,(zci i))],[],0⟩
theorem QJb (v:List Int) (i:Int) (h :
 (zif (decide (i<(v.length:Int))) (((0:Int)≤i∧Int.toNat i<v.length)∧(zif (!(Zc (gtd (0:Int) v (Int.toNat i)))) (K (Qc5 false)) (Qj6 K v (w64 (i+(1:Int)))))) (K (Qc5 (m_in (v.length:Int) (1:Int) (6:Int)))))):Qj6 K v i :=
 Loop.of (by kernel_rfl) h
theorem QF5 (v:List Int) (h :
 (Qj6 K v 0)):Hold (tawp Qk2 (0+0) QD6 (TQ 0 0 QvU K) (Qf [(.c (.sl [TI]) v)])) :=
 Hold.of (by kernel_rfl) h
theorem QDV (v:List Int):TCon Tryz.prog 42 [(.c (.sl [TI]) v)] (Qc5 (QW v)):=by
 refine Qr rfl fun hb=>tcg (n:=19) (sg:=Qb7.sg) Qk (TOk.cons Qwa (TOk.cons JM TOk.nil)) (by kernel_rfl) (by kernel_rfl) (QF5 _ v ?_)
 have hl_v:v.length≤9223372036854775807:=hb.1.1
 exact Qa1 (Q:=fun x=>Qc5 x=Qc5 (QW v)) (p:=Zc) (c:=fun x=>!(Zc x)) 0 hl_v (fun _=>rfl) (fun i h=>QJb _ v i h) (R_eq (by grind [QW,Zs]))
theorem Qea:Qj Tryz.prog Qb7:=Ql fun x _=>QDV x.1
def QnQ (t:Bool):TRes:=zre (zcb t)
def Qba:TRow:=Qi 134 [(.c (.sl [TI]))] fun x=>(none,QnQ (QW x.1))
def QCC:List TRow:=[Qed]
def QDv:TCode :=
 (zsq [(.reg [zmv 2 (zkb false)]),(.reg [zmv 3 0,zle 4 3,zbi 5 .geq 4 (zki 1),zmv 6 5,.grp 6 true [zmv 7 0,zle 8 7,zbi 9 .leq 8 (zki 6)] 10 9,zmv 11 10,.grp 11 true [zmv 12 0,zca 13 195 [12]] 14 13,zmv 2 14]),.ret])
def QIM:List (ARv × Md):=[(.t 2,.one .d)]
theorem QFu (v:List Int) (h :
 K (QnQ (((decide ((v.length:Int)≥(1:Int)))&&(decide ((v.length:Int)≤(6:Int))))&&(Zs v)))):Hold (tawp QCC (0+0) QDv (TQ 0 0 QIM K) (Qf [(.c (.sl [TI]) v)])) :=
 Hold.of (by kernel_rfl) h
theorem QKT (v:List Int):TCon Tryz.prog 134 [(.c (.sl [TI]) v)] (QnQ (QW v)):=by
 refine Qr rfl fun hb=>tcg (n:=15) (sg:=Qba.sg) Qk (TOk.cons QnV TOk.nil) (by kernel_rfl) (by kernel_rfl) (QFu _ v ?_)
 have hl_v:v.length≤9223372036854775807:=hb.1.1
 exact R_eq (by grind [QW,m_in])
theorem Qce:Qj Tryz.prog Qba:=Ql fun x _=>QKT x.1
def QkP (t:Bool):TRes:=zre (zcb t)
def JJ:TRow:=Qi 114 [(.c (.sl [TI])),(.c TI)] fun x=>(none,QkP (Qq x.1 x.2.1))
def QzX:List TRow:=[Qba]
def QH3:TCode :=
 (zsq [(.reg [zmv 4 (zkb false)]),(.reg [zmv 5 0,zca 6 134 [5],zmv 7 6,.grp 7 true [zmv 8 0,zle 9 8,zmv 10 1,zbi 11 .eql 9 10] 12 11,zmv 4 12]),.ret])
def QKn:List (ARv × Md):=[(.t 4,.one .d)]
theorem QBY (v:List Int) (n:Int) (h :
 K (QkP ((QW v)&&((v.length:Int)==n)))):Hold (tawp QzX (0+0) QH3 (TQ 0 0 QKn K) (Qf [(.c (.sl [TI]) v),(.c TI n)])) :=
 Hold.of (by kernel_rfl) h
theorem QDb (v:List Int) (n:Int):TCon Tryz.prog 114 [(.c (.sl [TI]) v),(.c TI n)] (QkP (Qq v n)):=by
 refine Qr rfl fun hb=>tcg (n:=13) (sg:=JJ.sg) Qk (TOk.cons Qce TOk.nil) (by kernel_rfl) (by kernel_rfl) (QBY _ v n ?_)
 have hl_v:v.length≤9223372036854775807:=hb.1.1
 exact R_eq (by simp [Qq])
theorem Qaa:Qj Tryz.prog JJ:=Ql fun x _=>QDb x.1 x.2.1
def QnA (t:Bool):TRes:=zre (zcb t)
def Qi3:TRow:=Qi 186 [(.c (.sl [TI])),(.c TI)] fun x=>(none,QnA (Z7 x.1 x.2.1))
def QLO:List TRow:=[JJ]
def QFH:TCode :=
 (zsq [(.reg [zmv 4 (zkb false)]),(.reg [zmv 5 0,zle 6 5,zbi 7 .eql 6 (zki 0),zmv 8 7,.grp 8 false [zmv 9 0,zmv 10 1,zca 11 114 [9,10]] 12 11,zmv 4 12]),.ret])
def QMn:List (ARv × Md):=[(.t 4,.one .d)]
theorem QEl (v:List Int) (n:Int) (h :
 K (QnA (((v.length:Int)==(0:Int))||(Qq v n)))):Hold (tawp QLO (0+0) QFH (TQ 0 0 QMn K) (Qf [(.c (.sl [TI]) v),(.c TI n)])) :=
 Hold.of (by kernel_rfl) h
theorem QDU (v:List Int) (n:Int):TCon Tryz.prog 186 [(.c (.sl [TI]) v),(.c TI n)] (QnA (Z7 v n)):=by
 refine Qr rfl fun hb=>tcg (n:=13) (sg:=Qi3.sg) Qk (TOk.cons Qaa TOk.nil) (by kernel_rfl) (by kernel_rfl) (QEl _ v n ?_)
 have hl_v:v.length≤9223372036854775807:=hb.1.1
 exact R_eq (by simp [Z7,Qq])
theorem QO3:Qj Tryz.prog Qi3:=Ql fun x _=>QDU x.1 x.2.1
def Qmy (t:Bool):TRes:=zre (zcb t)
def Qng:TRow:=Qi 109 [(.c (.sl [TI])),(.c TI)] fun x=>(none,Qmy (Z7 x.1 x.2.1))
def QJO:List TRow:=[Qb7]
def QGF:TCode :=
 (zsq [(.reg [zmv 4 (zkb false)]),(.reg [zmv 5 0,zle 6 5,zbi 7 .eql 6 (zki 0),zmv 8 7,.grp 8 false [zmv 9 0,zca 10 42 [9],zmv 11 10,.grp 11 true [zmv 12 0,zle 13 12,zmv 14 1,zbi 15 .eql 13 14] 16 15] 17 16,zmv 4 17]),.ret])
def QFq:List (ARv × Md):=[(.t 4,.one .d)]
theorem QGn (v:List Int) (n:Int) (h :
 K (Qmy (((v.length:Int)==(0:Int))||((QW v)&&((v.length:Int)==n))))):Hold (tawp QJO (0+0) QGF (TQ 0 0 QFq K) (Qf [(.c (.sl [TI]) v),(.c TI n)])) :=
 Hold.of (by kernel_rfl) h
theorem QDR (v:List Int) (n:Int):TCon Tryz.prog 109 [(.c (.sl [TI]) v),(.c TI n)] (Qmy (Z7 v n)):=by
 refine Qr rfl fun hb=>tcg (n:=18) (sg:=Qng.sg) Qk (TOk.cons Qea TOk.nil) (by kernel_rfl) (by kernel_rfl) (QGn _ v n ?_)
 have hl_v:v.length≤9223372036854775807:=hb.1.1
 exact R_eq (by simp [Z7,Qq])
theorem QON:Qj Tryz.prog Qng:=Ql fun x _=>QDR x.1 x.2.1
end
end Go.Proofs.YtjbdljkhbglnhaaGreat.Am

