/- -/
import Derived.Test.YtjbdljkhbglnhaaGreatZFPF
import Derived.Test.YtjbdljkhbglnhaaGreatZFP4
namespace Go.Proofs.YtjbdljkhbglnhaaGreat.Am
open Go Go.RowKit Go.Proofs.YtjbdljkhbglnhaaGreat
set_option linter.all false
noncomputable section
variable (K:TRes→Prop)
def QdP (t:(List TOp')):TRes:=zra (zcs ctOp t)
def QhZ:TRow:=Qh 151 [(.c (.sl ctOp))] fun x=>(some (Qv (α:=List TOp') x.1),QdP (id (α:=List TOp') x.1))
def Qp4:List TRow:=[QaJ]
def QGU:TCode :=
 (zsq [(.reg [zbi 10 .lss 9 8]),(.cond 10 .skip (.exit 0)),(.block 1 (zsq [(.reg [zia 11 7 9 ctOp,zLd 12 11 4,zop 5 (.new 69 (z0s ctOp)),zst 5 12 4]),(.draw [zmv 13 3,zfa 14 5 0,zld 15 14 1,zfa 16 5 1,zld 17 16 1,zfa 18 5 2,zld 19 18 1,zfa 20 5 3,zld 21 20 1,zca 22 119 [21],zop 23 (.build (z0s ctOp) [(0,1,15),(1,1,17),(2,1,19),(3,1,22)]),zop 24 (.bsl 69 ctOp [23]),zop 25 (.app 13 24 69 ctOp),zmv 3 25] [(1,9),(2,9),(3,9),(4,9),(5,9),(6,9)])])),(.reg [zbi 26 .add 9 (zki 1),zmv 9 26])])
def QCx:List (Nat × Md):=[(3,.one .f),(7,.one .d),(8,.one .d),(9,.one .d)]
def Qxu:TCode :=
 (zsq [(.reg [zmv 27 3,zmv 2 27]),.ret])
def QTv:TCode :=
 (zsq [(.reg [zmv 2 (.k (.n ctOp))]),(.reg [zop 6 (.bsl 69 ctOp []),zmv 3 6]),(zsq [(.reg [zmv 7 0,zle 8 7,zmv 9 (zki 0)]),(.block 0 (.loop QCx QGU))]),Qxu])
def QEN:List (ARv × Md):=[(.t 2,.one .d)]
def QFy:Qb:=TQ 0 0 QEN K
def QW1:Qb:=Qseq (tawp Qp4 0 Qxu (QFy K)) (QFy K)
def QUu:Qb:=Qblk 0 (QW1 K)
def Qnb (l:List TOp') (x:Int) (ops:List TOp'):Prop:=Loop Qp4 0 QCx QGU (QUu K) ⟨[(3,(.r ctOp 0 0 ops.length)),(7,(zcs ctOp l)),(8,(zci (l.length:Int))),(9,(zci x))],[(0,(.sl 69 ctOp true ops))],1⟩
theorem Qut (l:List TOp') (x:Int) (ops:List TOp') (h :
 (zif (decide (x<(l.length:Int))) (((0:Int)≤x∧Int.toNat x<l.length)∧(((Qv (α:=List Int) ((gtd dOp l (Int.toNat x)).2.2.2))∧((ops.length=ops.length∨ops.length+1≤ops.length)∧ops.length+1≤big))∧(Qnb K l (w64 (x+(1:Int))) (List.take (ops.length+1) ((List.take ops.length ops)++([((gtd dOp l (Int.toNat x)).1,(gtd dOp l (Int.toNat x)).2.1,(gtd dOp l (Int.toNat x)).2.2.1,(List.take ((id (α:=List Int) ((gtd dOp l (Int.toNat x)).2.2.2)).length) (List.drop 0 (id (α:=List Int) ((gtd dOp l (Int.toNat x)).2.2.2)))))])))))) (K (QdP (List.take ops.length (List.drop 0 ops)))))):Qnb K l x ops :=
 Loop.of (by kernel_rfl) h
theorem QRh (l:List TOp') (h :
 (Qnb K l 0 ([]:List TOp'))):Hold (tawp Qp4 (0+0) QTv (TQ 0 0 QEN K) (Qf [(.c (.sl ctOp) l)])) :=
 Hold.of (by kernel_rfl) h
theorem QOh (l:List TOp') (hp:Qv (α:=List TOp') l):TCon Tryz.prog 151 [(.c (.sl ctOp) l)] (QdP (id (α:=List TOp') l)):=by
 refine Qo rfl fun hb=>tcg (n:=28) (sg:=QhZ.sg) Qj (TOk.cons Qbq TOk.nil) (by kernel_rfl) (by kernel_rfl) (QRh _ l ?_)
 have hl_l:l.length≤9223372036854775807:=hb.1.1
 refine Jx (Q:=fun z=>QdP z=QdP (id (α:=List TOp') l)) hp (fun k x v hk hl hg hv hx ih=>?_) (fun hq=>?_) (R_eq rfl)
 ·refine Qut (fun r'=>r'=QdP (id (α:=List TOp') l)) l _ _ ⟨fun _=>?_,fun h=>by simp at h;omega⟩
  try simp only [ZU,ZK,J7] at hx
  rw [Int.toNat_natCast,hg,sc1 (by omega),Q7,Qep]
  exact ⟨⟨by omega,hk⟩,⟨(show Sz.sz (_:List Int)≤2147483648 by omega),room (by omega)⟩,ih⟩
 ·refine Qut (fun r'=>r'=QdP (id (α:=List TOp') l)) l _ _ ⟨fun h=>by simp at h,fun _=>?_⟩
  exact R_eq (by simp)
theorem QAm:Qg Tryz.prog QhZ:=Qk fun x h=>QOh x.1 h
def Qdr (t:(List (List Int))):TRes:=zra (zcs [(.sl [TI])] t)
def Qgw:TRow:=Qh 86 [(.c (.sl [(.sl [TI])]))] fun x=>(some (Qv (α:=List (List Int)) x.1),Qdr (id (α:=List (List Int)) x.1))
def Qos:List TRow:=[QaJ]
def QDf:TCode :=
 (zsq [(.reg [zbi 10 .lss 9 8]),(.cond 10 .skip (.exit 0)),(.block 1 (zsq [(.reg [zia 11 7 9 [(.sl [TI])],zLd 12 11 1,zop 5 (.new 129 [(.n [TI])]),zst 5 12 1]),(.reg [zmv 13 3,zfa 14 5 0,zld 15 14 1,zca 16 119 [15],zop 17 (.build [(.n [TI])] [(0,1,16)]),zop 18 (.bsl 129 [(.sl [TI])] [17]),zop 19 (.app 13 18 129 [(.sl [TI])]),zmv 3 19])])),(.reg [zbi 20 .add 9 (zki 1),zmv 9 20])])
def QwH:List (Nat × Md):=[(3,.one .f),(7,.one .d),(8,.one .d),(9,.one .d)]
def Qz4:TCode :=
 (zsq [(.reg [zmv 21 3,zmv 2 21]),.ret])
def QXf:TCode :=
 (zsq [(.reg [zmv 2 (.k (.n [(.sl [TI])]))]),(.reg [zop 6 (.bsl 129 [(.sl [TI])] []),zmv 3 6]),(zsq [(.reg [zmv 7 0,zle 8 7,zmv 9 (zki 0)]),(.block 0 (.loop QwH QDf))]),Qz4])
def QDo:List (ARv × Md):=[(.t 2,.one .d)]
def QGd:Qb:=TQ 0 0 QDo K
def QM2:Qb:=Qseq (tawp Qos 0 Qz4 (QGd K)) (QGd K)
def QVq:Qb:=Qblk 0 (QM2 K)
def Ql5 (l:List (List Int)) (x:Int) (rows:List (List Int)):Prop:=Loop Qos 0 QwH QDf (QVq K) ⟨[(3,(.r [(.sl [TI])] 0 0 rows.length)),(7,(zcs [(.sl [TI])] l)),(8,(zci (l.length:Int))),(9,(zci x))],[(0,(.sl 129 [(.sl [TI])] true rows))],1⟩
theorem QCG (l:List (List Int)) (x:Int) (rows:List (List Int)) (h :
 (zif (decide (x<(l.length:Int))) (((0:Int)≤x∧Int.toNat x<l.length)∧(((Qv (α:=List Int) (gtd ([]:List Int) l (Int.toNat x)))∧((rows.length=rows.length∨rows.length+1≤rows.length)∧rows.length+1≤big))∧(Ql5 K l (w64 (x+(1:Int))) (List.take (rows.length+1) ((List.take rows.length rows)++([(List.take ((id (α:=List Int) (gtd ([]:List Int) l (Int.toNat x))).length) (List.drop 0 (id (α:=List Int) (gtd ([]:List Int) l (Int.toNat x)))))])))))) (K (Qdr (List.take rows.length (List.drop 0 rows)))))):Ql5 K l x rows :=
 Loop.of (by kernel_rfl) h
theorem QIc (l:List (List Int)) (h :
 (Ql5 K l 0 ([]:List (List Int)))):Hold (tawp Qos (0+0) QXf (TQ 0 0 QDo K) (Qf [(.c (.sl [(.sl [TI])]) l)])) :=
 Hold.of (by kernel_rfl) h
theorem QYg (l:List (List Int)) (hp:Qv (α:=List (List Int)) l):TCon Tryz.prog 86 [(.c (.sl [(.sl [TI])]) l)] (Qdr (id (α:=List (List Int)) l)):=by
 refine Qo rfl fun hb=>tcg (n:=22) (sg:=Qgw.sg) Qj (TOk.cons Qbq TOk.nil) (by kernel_rfl) (by kernel_rfl) (QIc _ l ?_)
 have hl_l:l.length≤9223372036854775807:=hb.1.1
 refine Jx (Q:=fun z=>Qdr z=Qdr (id (α:=List (List Int)) l)) hp (fun k x v hk hl hg hv hx ih=>?_) (fun hq=>?_) (R_eq rfl)
 ·refine QCG (fun r'=>r'=Qdr (id (α:=List (List Int)) l)) l _ _ ⟨fun _=>?_,fun h=>by simp at h;omega⟩
  try simp only [ZU,ZK,J7] at hx
  rw [Int.toNat_natCast,hg,sc1 (by omega),Q7,Qep]
  exact ⟨⟨by omega,hk⟩,⟨(show Sz.sz (_:List Int)≤2147483648 by omega),room (by omega)⟩,ih⟩
 ·refine QCG (fun r'=>r'=Qdr (id (α:=List (List Int)) l)) l _ _ ⟨fun h=>by simp at h,fun _=>?_⟩
  exact R_eq (by simp)
theorem QqQ:Qg Tryz.prog Qgw:=Qk fun x h=>QYg x.1 h
def QcZ (t:(List Qp)):TRes:=zra (zcs Qx t)
def Qih:TRow:=Qh 70 [(.c (.sl Qx))] fun x=>(some (Qv (α:=List Qp) x.1),QcZ (id (α:=List Qp) x.1))
def Qob:List TRow:=[QaJ]
def QA5:TCode :=
 (zsq [(.reg [zbi 10 .lss 9 8]),(.cond 10 .skip (.exit 0)),(.block 1 (zsq [(.reg [zia 11 7 9 Qx,zLd 12 11 2,zop 5 (.new 108 (z0s Qx)),zst 5 12 2]),(.draw [zmv 13 3,zfa 14 5 0,zld 15 14 1,zca 16 119 [15],zfa 17 5 1,zld 18 17 1,zca 19 119 [18],zop 20 (.build (z0s Qx) [(0,1,16),(1,1,19)]),zop 21 (.bsl 108 Qx [20]),zop 22 (.app 13 21 108 Qx),zmv 3 22] [(3,4),(3,5)])])),(.reg [zbi 23 .add 9 (zki 1),zmv 9 23])])
def QzU:List (Nat × Md):=[(3,.one .f),(7,.one .d),(8,.one .d),(9,.one .d)]
def Qx8:TCode :=
 (zsq [(.reg [zmv 24 3,zmv 2 24]),.ret])
def QWr:TCode :=
 (zsq [(.reg [zmv 2 (.k (.n Qx))]),(.reg [zop 6 (.bsl 108 Qx []),zmv 3 6]),(zsq [(.reg [zmv 7 0,zle 8 7,zmv 9 (zki 0)]),(.block 0 (.loop QzU QA5))]),Qx8])
def Qsc:List (ARv × Md):=[(.t 2,.one .d)]
def QtC:Qb:=TQ 0 0 Qsc K
def QMm:Qb:=Qseq (tawp Qob 0 Qx8 (QtC K)) (QtC K)
def Q2D:Qb:=Qblk 0 (QMm K)
def Qpt (b:List Qp) (x:Int) (YM:List Qp):Prop:=Loop Qob 0 QzU QA5 (Q2D K) ⟨[(3,(.r Qx 0 0 YM.length)),(7,(zcs Qx b)),(8,(zci (b.length:Int))),(9,(zci x))],[(0,(.sl 108 Qx true YM))],1⟩
theorem Qwd (b:List Qp) (x:Int) (YM:List Qp) (h :
 (zif (decide (x<(b.length:Int))) (((0:Int)≤x∧Int.toNat x<b.length)∧(((Qv (α:=List Int) ((gtd QY b (Int.toNat x)).1))∧((Qv (α:=List Int) ((gtd QY b (Int.toNat x)).2))∧((YM.length=YM.length∨YM.length+1≤YM.length)∧YM.length+1≤big)))∧(Qpt K b (w64 (x+(1:Int))) (List.take (YM.length+1) ((List.take YM.length YM)++([((List.take ((id (α:=List Int) ((gtd QY b (Int.toNat x)).1)).length) (List.drop 0 (id (α:=List Int) ((gtd QY b (Int.toNat x)).1)))),(List.take ((id (α:=List Int) ((gtd QY b (Int.toNat x)).2)).length) (List.drop 0 (id (α:=List Int) ((gtd QY b (Int.toNat x)).2)))))])))))) (K (QcZ (List.take YM.length (List.drop 0 YM)))))):Qpt K b x YM :=
 Loop.of (by kernel_rfl) h
theorem QYX (b:List Qp) (h :
 (Qpt K b 0 ([]:List Qp))):Hold (tawp Qob (0+0) QWr (TQ 0 0 Qsc K) (Qf [(.c (.sl Qx) b)])) :=
 Hold.of (by kernel_rfl) h
theorem QNj (b:List Qp) (hp:Qv (α:=List Qp) b):TCon Tryz.prog 70 [(.c (.sl Qx) b)] (QcZ (id (α:=List Qp) b)):=by
 refine Qo rfl fun hb=>tcg (n:=25) (sg:=Qih.sg) Qj (TOk.cons Qbq TOk.nil) (by kernel_rfl) (by kernel_rfl) (QYX _ b ?_)
 have hl_b:b.length≤9223372036854775807:=hb.1.1
 refine Jx (Q:=fun z=>QcZ z=QcZ (id (α:=List Qp) b)) hp (fun k x v hk hl hg hv hx ih=>?_) (fun hq=>?_) (R_eq rfl)
 ·refine Qwd (fun r'=>r'=QcZ (id (α:=List Qp) b)) b _ _ ⟨fun _=>?_,fun h=>by simp at h;omega⟩
  try simp only [ZU,ZK,J7] at hx
  rw [Int.toNat_natCast,hg,sc1 (by omega),Q7,Qep,Qep]
  exact ⟨⟨by omega,hk⟩,⟨(show Sz.sz (_:List Int)≤2147483648 by omega),(show Sz.sz (_:List Int)≤2147483648 by omega),room (by omega)⟩,ih⟩
 ·refine Qwd (fun r'=>r'=QcZ (id (α:=List Qp) b)) b _ _ ⟨fun h=>by simp at h,fun _=>?_⟩
  exact R_eq (by simp)
theorem Qyo:Qg Tryz.prog Qih:=Qk fun x h=>QNj x.1 h
def QmN (t:Q2):TRes:=zra (.a (Tup.cells Ze t))
def Qoc:TRow:=Qh 184 [(.a Ze)] fun x=>(some (Qv (α:=Q2) x.1),QmN (id (α:=Q2) x.1))
def QHn:List TRow:=[Qgw]
def QYx:TCode :=
 (zsq [(.reg [zop 1 (.box 46 0 3),zop 2 (.new 46 (z0s Ze))]),(.draw [zfa 3 1 0,zld 4 3 1,zca 5 86 [4],zfa 6 1 1,zld 7 6 1,zfa 8 1 2,zld 9 8 1,zop 10 (.build (z0s Ze) [(0,1,5),(1,1,7),(2,1,9)]),zst 2 10 3] [(2,3),(2,4),(2,5),(2,6)]),.ret])
def Q1M:List (ARv × Md):=[(.l 2 3 true,.b [.d,.d,.d])]
theorem QOz (g:Q2) (h :
 ((Qv (α:=List (List Int)) g.1)∧K (QmN ((id (α:=List (List Int)) g.1),g.2.1,g.2.2)))):Hold (tawp QHn (0+0) QYx (TQ 0 0 Q1M K) (Qf [(.a (Tup.cells Ze g))])) :=
 Hold.of (by kernel_rfl) h
theorem QOS (g:Q2) (hp:Qv (α:=Q2) g):TCon Tryz.prog 184 [(.a (Tup.cells Ze g))] (QmN (id (α:=Q2) g)):=by
 refine Qo rfl fun hb=>tcg (n:=11) (sg:=Qoc.sg) Qj (TOk.cons QqQ TOk.nil) (by kernel_rfl) (by kernel_rfl) (QOz _ g ?_)
 have hl_g_0:(g.1).length≤9223372036854775807:=hb.1.1.1
 unfold Qv at hp
 simp only [ZU,ZK,J7] at hp
 exact ⟨hp,R_eq rfl⟩
theorem QU0:Qg Tryz.prog Qoc:=Qk fun x h=>QOS x.1 h
def Qdd (t:(List TOp')):TRes:=zra (zcs ctOp t)
def QjM:TRow:=Qh 176 [(.c (.sl ctOp))] fun x=>(some (Qv (α:=List TOp') x.1),Qdd (id (α:=List TOp') x.1))
def QnJ:List TRow:=[]
def Qst:TCode :=
 (zsq [(zsq [(.reg [zmv 7 4,zmv 8 0,zle 9 8,zbi 10 .lss 7 9]),(.cond 10 .skip (.exit 0))]),(.block 1 (zsq [(.reg [zmv 13 0,zmv 14 4,zia 15 13 14 ctOp,zLd 16 15 4,zop 5 (.new 69 (z0s ctOp)),zst 5 16 4]),(.reg [zop 17 (.bsl 3 [TI] []),zmv 18 0,zmv 19 4,zia 20 18 19 ctOp,zfa 21 20 3,zld 22 21 1,zop 23 (.app 17 22 3 [TI]),zfa 24 5 3,zst 24 23 1]),(.reg [zmv 25 3,zLd 26 5 4,zop 27 (.bsl 69 ctOp [26]),zop 28 (.app 25 27 69 ctOp),zmv 3 28])])),(.reg [zmv 11 4,zbi 12 .add 11 (zki 1),zmv 4 12])])
def QEy:List (Nat × Md):=[(0,.one .d),(3,.one .f),(4,.one .d)]
def QCQ:TCode :=
 (zsq [(.reg [zmv 29 3,zmv 2 29]),.ret])
def QLY:TCode :=
 (zsq [(.reg [zmv 2 (.k (.n ctOp))]),(.reg [zop 6 (.bsl 69 ctOp []),zmv 3 6]),(zsq [(.reg [zmv 4 (zki 0)]),(.block 0 (.loop QEy Qst))]),QCQ])
def Qxj:List (ARv × Md):=[(.t 2,.one .d)]
def QxZ:Qb:=TQ 0 0 Qxj K
def QYc:Qb:=Qseq (tawp QnJ 0 QCQ (QxZ K)) (QxZ K)
def QVE:Qb:=Qblk 0 (QYc K)
def Qm2 (l:List TOp') (i:Int) (out:List TOp'):Prop:=Loop QnJ 0 QEy Qst (QVE K) ⟨[(0,(zcs ctOp l)),(3,(.r ctOp 0 0 out.length)),(4,(zci i))],[(0,(.sl 69 ctOp true out))],1⟩
theorem QvJ (l:List TOp') (i:Int) (out:List TOp') (h :
 (zif (decide (i<(l.length:Int))) (((0:Int)≤i∧Int.toNat i<l.length)∧((((0:Int)≤i∧Int.toNat i<l.length)∧((0=0∨0+((gtd dOp l (Int.toNat i)).2.2.2).length≤0)∧0+((gtd dOp l (Int.toNat i)).2.2.2).length≤big))∧(((out.length=out.length∨out.length+1≤out.length)∧out.length+1≤big)∧(Qm2 K l (w64 (i+(1:Int))) (List.take (out.length+1) ((List.take out.length out)++([((gtd dOp l (Int.toNat i)).1,(gtd dOp l (Int.toNat i)).2.1,(gtd dOp l (Int.toNat i)).2.2.1,(List.take (0+((gtd dOp l (Int.toNat i)).2.2.2).length) (List.drop 0 ((gtd dOp l (Int.toNat i)).2.2.2))))]))))))) (K (Qdd (List.take out.length (List.drop 0 out)))))):Qm2 K l i out :=
 Loop.of (by kernel_rfl) h
theorem QUr (l:List TOp') (h :
 (Qm2 K l 0 ([]:List TOp'))):Hold (tawp QnJ (0+0) QLY (TQ 0 0 Qxj K) (Qf [(.c (.sl ctOp) l)])) :=
 Hold.of (by kernel_rfl) h
theorem QSp (l:List TOp') (hp:Qv (α:=List TOp') l):TCon Tryz.prog 176 [(.c (.sl ctOp) l)] (Qdd (id (α:=List TOp') l)):=by
 refine Qo rfl fun hb=>tcg (n:=30) (sg:=QjM.sg) Qj TOk.nil (by kernel_rfl) (by kernel_rfl) (QUr _ l ?_)
 have hl_l:l.length≤9223372036854775807:=hb.1.1
 refine Jx (Q:=fun z=>Qdd z=Qdd (id (α:=List TOp') l)) hp (fun k x v hk hl hg hv hx ih=>?_) (fun hq=>?_) (R_eq rfl)
 ·refine QvJ (fun r'=>r'=Qdd (id (α:=List TOp') l)) l _ _ ⟨fun _=>?_,fun h=>by simp at h;omega⟩
  try simp only [ZU,ZK,J7] at hx
  rw [Int.toNat_natCast,hg,sc1 (by omega),Q7,Qcu]
  exact ⟨⟨by omega,hk⟩,⟨⟨by omega,hk⟩,.inl rfl,by have:=ZW x.2.2.2;rw [Q1];omega⟩,room (by omega),ih⟩
 ·refine QvJ (fun r'=>r'=Qdd (id (α:=List TOp') l)) l _ _ ⟨fun h=>by simp at h,fun _=>?_⟩
  exact R_eq (by simp)
theorem QsX:Qg Tryz.prog QjM:=Qk fun x h=>QSp x.1 h
def Qdc (t:(List (List Int))):TRes:=zra (zcs [(.sl [TI])] t)
def QrD:TRow:=Qh 210 [(.c (.sl [(.sl [TI])]))] fun x=>(some (Qv (α:=List (List Int)) x.1),Qdc (id (α:=List (List Int)) x.1))
def QoB:List TRow:=[]
def QsI:TCode :=
 (zsq [(zsq [(.reg [zmv 6 4,zmv 7 0,zle 8 7,zbi 9 .lss 6 8]),(.cond 9 .skip (.exit 0))]),(.block 1 (.reg [zmv 12 3,zop 13 (.bsl 3 [TI] []),zmv 14 0,zmv 15 4,zia 16 14 15 [(.sl [TI])],zfa 17 16 0,zld 18 17 1,zop 19 (.app 13 18 3 [TI]),zop 20 (.build [(.n [TI])] [(0,1,19)]),zop 21 (.bsl 129 [(.sl [TI])] [20]),zop 22 (.app 12 21 129 [(.sl [TI])]),zmv 3 22])),(.reg [zmv 10 4,zbi 11 .add 10 (zki 1),zmv 4 11])])
def QEe:List (Nat × Md):=[(0,.one .d),(3,.one .f),(4,.one .d)]
def QDx:TCode :=
 (zsq [(.reg [zmv 23 3,zmv 2 23]),.ret])
def QIx:TCode :=
 (zsq [(.reg [zmv 2 (.k (.n [(.sl [TI])]))]),(.reg [zop 5 (.bsl 129 [(.sl [TI])] []),zmv 3 5]),(zsq [(.reg [zmv 4 (zki 0)]),(.block 0 (.loop QEe QsI))]),QDx])
def Qua:List (ARv × Md):=[(.t 2,.one .d)]
def QvS:Qb:=TQ 0 0 Qua K
def QKs:Qb:=Qseq (tawp QoB 0 QDx (QvS K)) (QvS K)
def QZX:Qb:=Qblk 0 (QKs K)
def Qr0 (l:List (List Int)) (i:Int) (out:List (List Int)):Prop:=Loop QoB 0 QEe QsI (QZX K) ⟨[(0,(zcs [(.sl [TI])] l)),(3,(.r [(.sl [TI])] 0 0 out.length)),(4,(zci i))],[(0,(.sl 129 [(.sl [TI])] true out))],1⟩
theorem QGt (l:List (List Int)) (i:Int) (out:List (List Int)) (h :
 (zif (decide (i<(l.length:Int))) ((((0:Int)≤i∧Int.toNat i<l.length)∧(((0=0∨0+(gtd ([]:List Int) l (Int.toNat i)).length≤0)∧0+(gtd ([]:List Int) l (Int.toNat i)).length≤big)∧((out.length=out.length∨out.length+1≤out.length)∧out.length+1≤big)))∧(Qr0 K l (w64 (i+(1:Int))) (List.take (out.length+1) ((List.take out.length out)++([(List.take (0+(gtd ([]:List Int) l (Int.toNat i)).length) (List.drop 0 (gtd ([]:List Int) l (Int.toNat i))))]))))) (K (Qdc (List.take out.length (List.drop 0 out)))))):Qr0 K l i out :=
 Loop.of (by kernel_rfl) h
theorem QR0 (l:List (List Int)) (h :
 (Qr0 K l 0 ([]:List (List Int)))):Hold (tawp QoB (0+0) QIx (TQ 0 0 Qua K) (Qf [(.c (.sl [(.sl [TI])]) l)])) :=
 Hold.of (by kernel_rfl) h
theorem QIy (l:List (List Int)) (hp:Qv (α:=List (List Int)) l):TCon Tryz.prog 210 [(.c (.sl [(.sl [TI])]) l)] (Qdc (id (α:=List (List Int)) l)):=by
 refine Qo rfl fun hb=>tcg (n:=24) (sg:=QrD.sg) Qj TOk.nil (by kernel_rfl) (by kernel_rfl) (QR0 _ l ?_)
 have hl_l:l.length≤9223372036854775807:=hb.1.1
 refine Jx (Q:=fun z=>Qdc z=Qdc (id (α:=List (List Int)) l)) hp (fun k x v hk hl hg hv hx ih=>?_) (fun hq=>?_) (R_eq rfl)
 ·refine QGt (fun r'=>r'=Qdc (id (α:=List (List Int)) l)) l _ _ ⟨fun _=>?_,fun h=>by simp at h;omega⟩
  try simp only [ZU,ZK,J7] at hx
  rw [Int.toNat_natCast,hg,sc1 (by omega),Q7,Qcu]
  exact ⟨⟨⟨by omega,hk⟩,⟨.inl rfl,by have:=ZW x;rw [Q1];omega⟩,room (by omega)⟩,ih⟩
 ·refine QGt (fun r'=>r'=Qdc (id (α:=List (List Int)) l)) l _ _ ⟨fun h=>by simp at h,fun _=>?_⟩
  exact R_eq (by simp)
theorem QLM:Qg Tryz.prog QrD:=Qk fun x h=>QIy x.1 h
def Qc2 (t:Q2):TRes:=zra (.a (Tup.cells Ze t))
def QpY:TRow:=Qh 88 [(.a [(.sl ctOp)])] fun x=>(none,Qc2 (ZO x.1))
def QlW:List TRow:=[Qaq]
def Qy1:TCode :=
 (zsq [(.reg [zbi 15 .lss 14 13]),(.cond 15 .skip (.exit 0)),(.block 1 (zsq [(.reg [zia 16 12 14 ctOp,zLd 17 16 4,zop 5 (.new 69 (z0s ctOp)),zst 5 17 4]),(.draw [zfa 18 3 0,zld 19 18 1,zfa 20 5 3,zld 21 20 1,zle 22 21,zop 23 (.mk 3 [TI] [(zci 0)] 22),zop 24 (.build [(.n [TI])] [(0,1,23)]),zop 25 (.bsl 129 [(.sl [TI])] [24]),zop 26 (.app 19 25 129 [(.sl [TI])]),zfa 27 3 0,zst 27 26 1] [(0,5),(1,5),(0,7),(1,7)])])),(.reg [zbi 28 .add 14 (zki 1),zmv 14 28])])
def QFd:List (Nat × Md):=[(2,.b [.d,.d,.d]),(3,.b [.o 129,.d,.d]),(12,.one .d),(13,.one .d),(14,.one .d)]
def QFc:TCode :=
 (zsq [(.reg [zLd 29 3 3,zst 2 29 3]),.ret])
def QMh:TCode :=
 (zsq [(.reg [zop 1 (.box 26 0 1),zop 2 (.new 46 (z0s Ze))]),(zsq [(.reg [zLd 6 1 1,zca 7 131 [6],zno 8 7]),(.cond 8 (zsq [(.reg [zop 9 (.build (z0s Ze) []),zst 2 9 3]),.ret]) .skip)]),(.reg [zop 10 (.build (z0s Ze) []),zop 3 (.new 46 (z0s Ze)),zst 3 10 3]),(zsq [(.reg [zfa 11 1 0,zld 12 11 1,zle 13 12,zmv 14 (zki 0)]),(.block 0 (.loop QFd Qy1))]),QFc])
def Qvc:List (ARv × Md):=[(.l 2 3 true,.b [.d,.d,.d])]
def QAR:Qb:=TQ 0 0 Qvc K
def QIC:Qb:=Qseq (tawp QlW 0 QFc (QAR K)) (QAR K)
def QU3:Qb:=Qblk 0 (QIC K)
def Qkg (m:List TOp') (x:Int) (g0:List (List Int)):Prop:=Loop QlW 0 QFd Qy1 (QU3 K) ⟨[(2,(.p 0 0 0)),(3,(.p 2 0 0)),(12,(zcs ctOp m)),(13,(zci (m.length:Int))),(14,(zci x))],[(0,(.box (Tup.cells Ze ([],(0:Int),false)))),(1,(.sl 129 [(.sl [TI])] true g0)),(2,(.box [(.r [(.sl [TI])] 1 0 g0.length),(zci 0),(zcb false)]))],3⟩
theorem QuA (m:List TOp') (x:Int) (g0:List (List Int)) (h :
 (zif (decide (x<(m.length:Int))) (((0:Int)≤x∧Int.toNat x<m.length)∧((((0:Int)≤(((gtd dOp m (Int.toNat x)).2.2.2).length:Int)∧(((gtd dOp m (Int.toNat x)).2.2.2).length:Int)≤big)∧((g0.length=g0.length∨g0.length+1≤g0.length)∧g0.length+1≤big))∧(Qkg K m (w64 (x+(1:Int))) (List.take (g0.length+1) ((List.take g0.length g0)++([(List.take (Int.toNat (((gtd dOp m (Int.toNat x)).2.2.2).length:Int)) (List.drop 0 (List.replicate (Int.toNat (((gtd dOp m (Int.toNat x)).2.2.2).length:Int)) (0:Int))))])))))) (K (Qc2 ((List.take g0.length (List.drop 0 g0)),(0:Int),false))))):Qkg K m x g0 :=
 Loop.of (by kernel_rfl) h
theorem QK2 (m:List TOp') (h :
 (zif (!(QT m)) (K (Qc2 ([],(0:Int),false))) (Qkg K m 0 ([]:List (List Int))))):Hold (tawp QlW (0+0) QMh (TQ 0 0 Qvc K) (Qf [(.a [(.c (.sl ctOp) m)])])) :=
 Hold.of (by kernel_rfl) h
theorem Q1N (m:List TOp'):TCon Tryz.prog 88 [(.a [(.c (.sl ctOp) m)])] (Qc2 (ZO m)):=by
 refine Qo rfl fun hb=>tcg (n:=30) (sg:=QpY.sg) Qj (TOk.cons Qbb TOk.nil) (by kernel_rfl) (by kernel_rfl) (QK2 _ m ?_)
 have hl_m_0:(m).length≤9223372036854775807:=hb.1.1.1
 refine ⟨fun h=>R_eq (by unfold ZO;rw [if_neg (by simpa using h)]),fun h=>?_⟩
 have hm:QT m=true:=by simpa using h
 have hl:=Yh hm
 have hv:(ZO m)=(m.map fun o=>List.replicate o.2.2.2.length (0:Int),0,false):=by unfold ZO;rw [if_pos hm]
 refine Zk m (fun r k=>∀ v:List (List Int),v.length=k→v++r.map (fun o=>List.replicate o.2.2.2.length (0:Int))=m.map (fun o=>List.replicate o.2.2.2.length (0:Int))→Qkg (fun r'=>r'=Qc2 (ZO m)) m k v) ?_ ?_ [] rfl rfl
 ·intro v hk he
  refine QuA (fun r'=>r'=Qc2 (ZO m)) m _ _ ⟨fun h=>by simp at h,fun _=>R_eq ?_⟩
  rw [hv,← he];simp
 ·intro k x r hk hlt hg ih v hvl he
  have ho:=Qhk (Qlc hm hlt)
  rw [hg] at ho
  refine QuA (fun r'=>r'=Qc2 (ZO m)) m _ _ ⟨fun _=>?_,fun h=>by simp [hm] at h;omega⟩
  rw [Int.toNat_natCast,hg,sc1 (by omega),Int.toNat_natCast,Q7,Qvo]
  refine ⟨⟨by omega,hlt⟩,⟨⟨by omega,by rw [bigI];omega⟩,room (by omega)⟩,ih _ (YQ hvl) ?_⟩
  rw [← he];simp
theorem QRq:Qg Tryz.prog QpY:=Qk fun x _=>Q1N x.1
def QdC (t:Q2):TRes:=zra (.a (Tup.cells Ze t))
def Qpd:TRow:=Qh 83 [(.a [(.sl ctOp)])] fun x=>(none,QdC (ZO x.1))
def Qpx:List TRow:=[Qa9]
def Qwg:TCode :=
 (zsq [(zsq [(.reg [zmv 6 4,zfa 7 1 0,zld 8 7 1,zle 9 8,zbi 10 .lss 6 9,zmv 11 10,.grp 11 true [zLd 12 1 1,zca 13 74 [12]] 14 13]),(.cond 14 .skip (.exit 0))]),(.block 1 (.draw [zfa 17 3 0,zld 18 17 1,zfa 19 1 0,zld 20 19 1,zmv 21 4,zia 22 20 21 ctOp,zfa 23 22 3,zld 24 23 1,zle 25 24,zop 26 (.mk 3 [TI] [(zci 0)] 25),zop 27 (.build [(.n [TI])] [(0,1,26)]),zop 28 (.bsl 129 [(.sl [TI])] [27]),zop 29 (.app 18 28 129 [(.sl [TI])]),zfa 30 3 0,zst 30 29 1] [(0,9),(1,9),(0,11),(1,11)])),(.reg [zmv 15 4,zbi 16 .add 15 (zki 1),zmv 4 16])])
def QGp:List (Nat × Md):=[(1,.b [.d]),(2,.b [.d,.d,.d]),(3,.b [.o 129,.d,.d]),(4,.one .d)]
def QD0:TCode :=
 (zsq [(.reg [zLd 31 3 3,zst 2 31 3]),.ret])
def QMA:TCode :=
 (zsq [(.reg [zop 1 (.box 26 0 1),zop 2 (.new 46 (z0s Ze))]),(.reg [zop 5 (.build (z0s Ze) []),zop 3 (.new 46 (z0s Ze)),zst 3 5 3]),(zsq [(.reg [zmv 4 (zki 0)]),(.block 0 (.loop QGp Qwg))]),QD0])
def Qy2:List (ARv × Md):=[(.l 2 3 true,.b [.d,.d,.d])]
def Qws:Qb:=TQ 0 0 Qy2 K
def QTJ:Qb:=Qseq (tawp Qpx 0 QD0 (Qws K)) (Qws K)
def QLv:Qb:=Qblk 0 (QTJ K)
def QkO (m:List TOp') (i:Int) (g0:List (List Int)):Prop:=Loop Qpx 0 QGp Qwg (QLv K) ⟨[(1,(.p 0 0 0)),(2,(.p 1 0 0)),(3,(.p 3 0 0)),(4,(zci i))],[(0,(.box [(zcs ctOp m)])),(1,(.box (Tup.cells Ze ([],(0:Int),false)))),(2,(.sl 129 [(.sl [TI])] true g0)),(3,(.box [(.r [(.sl [TI])] 2 0 g0.length),(zci 0),(zcb false)]))],4⟩
theorem QqK (m:List TOp') (i:Int) (g0:List (List Int)) (h :
 (zif ((decide (i<(m.length:Int)))&&(QT m)) ((((0:Int)≤i∧Int.toNat i<m.length)∧(((0:Int)≤(((gtd dOp m (Int.toNat i)).2.2.2).length:Int)∧(((gtd dOp m (Int.toNat i)).2.2.2).length:Int)≤big)∧((g0.length=g0.length∨g0.length+1≤g0.length)∧g0.length+1≤big)))∧(QkO K m (w64 (i+(1:Int))) (List.take (g0.length+1) ((List.take g0.length g0)++([(List.take (Int.toNat (((gtd dOp m (Int.toNat i)).2.2.2).length:Int)) (List.drop 0 (List.replicate (Int.toNat (((gtd dOp m (Int.toNat i)).2.2.2).length:Int)) (0:Int))))]))))) (K (QdC ((List.take g0.length (List.drop 0 g0)),(0:Int),false))))):QkO K m i g0 :=
 Loop.of (by kernel_rfl) h
theorem QPe (m:List TOp') (h :
 (QkO K m 0 ([]:List (List Int)))):Hold (tawp Qpx (0+0) QMA (TQ 0 0 Qy2 K) (Qf [(.a [(.c (.sl ctOp) m)])])) :=
 Hold.of (by kernel_rfl) h
theorem QRL (m:List TOp'):TCon Tryz.prog 83 [(.a [(.c (.sl ctOp) m)])] (QdC (ZO m)):=by
 refine Qo rfl fun hb=>tcg (n:=32) (sg:=Qpd.sg) Qj (TOk.cons QbY TOk.nil) (by kernel_rfl) (by kernel_rfl) (QPe _ m ?_)
 have hl_m_0:(m).length≤9223372036854775807:=hb.1.1.1
 by_cases hm:QT m=true
 rotate_left
 ·refine QqK (fun r'=>r'=QdC (ZO m)) m _ _ ⟨fun h=>by simp [hm] at h,fun _=>R_eq (by unfold ZO;rw [if_neg hm];rfl)⟩
 have hl:=Yh hm
 have hv:(ZO m)=(m.map fun o=>List.replicate o.2.2.2.length (0:Int),0,false):=by unfold ZO;rw [if_pos hm]
 refine Zk m (fun r k=>∀ v:List (List Int),v.length=k→v++r.map (fun o=>List.replicate o.2.2.2.length (0:Int))=m.map (fun o=>List.replicate o.2.2.2.length (0:Int))→QkO (fun r'=>r'=QdC (ZO m)) m k v) ?_ ?_ [] rfl rfl
 ·intro v hk he
  refine QqK (fun r'=>r'=QdC (ZO m)) m _ _ ⟨fun h=>by simp at h,fun _=>R_eq ?_⟩
  rw [hv,← he];simp
 ·intro k x r hk hlt hg ih v hvl he
  have ho:=Qhk (Qlc hm hlt)
  rw [hg] at ho
  refine QqK (fun r'=>r'=QdC (ZO m)) m _ _ ⟨fun _=>?_,fun h=>by simp [hm] at h;omega⟩
  rw [Int.toNat_natCast,hg,sc1 (by omega),Int.toNat_natCast,Q7,Qvo]
  refine ⟨⟨⟨by omega,hlt⟩,⟨by omega,by rw [bigI];omega⟩,room (by omega)⟩,ih _ (YQ hvl) ?_⟩
  rw [← he];simp
theorem QUh:Qg Tryz.prog Qpd:=Qk fun x _=>QRL x.1
def QcN (t:(List Int) × Bool):TRes:=zra (.tp [(zcs [TI] t.1),(zcb t.2)])
def QrL:TRow:=Qh 161 [(.c (.sl [TI])),(.c (.sl [TI]))] fun x=>(some (Z9 (α:=List Int) (β:=List Int) x.1 x.2.1),QcN (Qas x.1 x.2.1))
def QpZ:List TRow:=[Qc1]
def QsL:TCode :=
 (zsq [(zsq [(.reg [zmv 12 8,zmv 13 0,zle 14 13,zbi 15 .lss 12 14,zmv 16 15,.grp 16 true [zmv 17 8,zmv 18 1,zle 19 18,zbi 20 .lss 17 19] 21 20]),(.cond 21 .skip (.exit 0))]),(.block 1 (zsq [(.draw [zmv 25 0,zmv 26 8,zia 27 25 26 [TI],zld 28 27 1,zmv 29 1,zmv 30 8,zia 31 29 30 [TI],zld 32 31 1,zca 33 162 [28,32],zmv 24 33,zex 34 24 0,zex 35 24 1,zmv 9 34,zmv 10 35] []),(.reg [zmv 36 6,zmv 37 9,zop 38 (.bsl 3 [TI] [37]),zop 39 (.app 36 38 3 [TI]),zmv 6 39]),(.reg [zmv 40 7,zmv 41 40,.grp 41 false [zmv 42 10] 43 42,zmv 7 43])])),(.reg [zmv 22 8,zbi 23 .add 22 (zki 1),zmv 8 23])])
def Qzc:List (Nat × Md):=[(0,.one .d),(1,.one .d),(6,.one .f),(7,.one .d),(8,.one .d)]
def Qt4:TCode :=
 (zsq [(.reg [zmv 44 6,zmv 45 7,zmv 4 44,zmv 5 45]),.ret])
def QKu:TCode :=
 (zsq [(.reg [zmv 4 (.k (.n [TI])),zmv 5 (zkb false)]),(.reg [zop 11 (.bsl 3 [TI] []),zmv 6 11]),(.reg [zmv 7 (zkb false)]),(zsq [(.reg [zmv 8 (zki 0)]),(.block 0 (.loop Qzc QsL))]),Qt4])
def QBD:List (ARv × Md):=[(.t 4,.one .d),(.t 5,.one .d)]
def QAS:Qb:=TQ 0 0 QBD K
def QY2:Qb:=Qseq (tawp QpZ 0 Qt4 (QAS K)) (QAS K)
def QJT:Qb:=Qblk 0 (QY2 K)
def QkT (a:List Int) (b:List Int) (sat:Bool) (i:Int) (out:List Int):Prop:=Loop QpZ 0 Qzc QsL (QJT K) ⟨[(0,(zcs [TI] a)),(1,(zcs [TI] b)),(6,(.r [TI] 0 0 out.length)),(7,(zcb sat)),(8,(zci i))],[(0,(.sl 3 [TI] true out))],1⟩
theorem QoP (a:List Int) (b:List Int) (sat:Bool) (i:Int) (out:List Int) (h :
 (zif ((decide (i<(a.length:Int)))&&(decide (i<(b.length:Int)))) ((((0:Int)≤i∧Int.toNat i<a.length)∧((0:Int)≤i∧Int.toNat i<b.length))∧(((out.length=out.length∨out.length+1≤out.length)∧out.length+1≤big)∧(QkT K a b (sat||((Q9 (gtd (0:Int) a (Int.toNat i)) (gtd (0:Int) b (Int.toNat i))).2)) (w64 (i+(1:Int))) (List.take (out.length+1) ((List.take out.length out)++([(Q9 (gtd (0:Int) a (Int.toNat i)) (gtd (0:Int) b (Int.toNat i))).1])))))) (K (QcN ((List.take out.length (List.drop 0 out)),sat))))):QkT K a b sat i out :=
 Loop.of (by kernel_rfl) h
theorem QZv (a:List Int) (b:List Int) (h :
 (QkT K a b false 0 ([]:List Int))):Hold (tawp QpZ (0+0) QKu (TQ 0 0 QBD K) (Qf [(.c (.sl [TI]) a),(.c (.sl [TI]) b)])) :=
 Hold.of (by kernel_rfl) h
theorem QSO (a:List Int) (b:List Int) (hp:Z9 (α:=List Int) (β:=List Int) a b):TCon Tryz.prog 161 [(.c (.sl [TI]) a),(.c (.sl [TI]) b)] (QcN (Qas a b)):=by
 refine Qo rfl fun hb=>tcg (n:=46) (sg:=QrL.sg) Qj (TOk.cons Qge TOk.nil) (by kernel_rfl) (by kernel_rfl) (QZv _ a b ?_)
 have hl_a:a.length≤9223372036854775807:=hb.1.1
 have hl_b:b.length≤9223372036854775807:=hb.2.1.1
 unfold Z9 at hp
 have ha:=ZW a
 have hb2:=ZW b
 refine Zk a (fun r k=>∀ (v:List Int) (s:Bool),v.length=k→(v++(vz Q9 r (b.drop k)).1,s||(vz Q9 r (b.drop k)).2)=(Qas a b)→QkT (fun r'=>r'=QcN (Qas a b)) a b s k v) ?_ ?_ [] false rfl (by unfold Qas;simp)
 ·intro v s hv he
  refine QoP (fun r'=>r'=QcN (Qas a b)) a b _ _ _ ⟨fun h=>by simp at h,fun _=>R_eq ?_⟩
  rw [← he];simp [vz]
 ·intro k x r hk hlt hg ih v s hv he
  by_cases hkb:k<b.length
  ·obtain ⟨y,q,hq⟩:=Jt (l:=b) (k:=k) hkb
   refine QoP (fun r'=>r'=QcN (Qas a b)) a b _ _ _ ⟨fun _=>?_,fun h=>by simp at h;omega⟩
   rw [Int.toNat_natCast,hg,Yo hq,sc1 (by omega),Q7]
   refine ⟨⟨⟨by omega,hlt⟩,by omega,hkb⟩,room (by omega),ih _ _ (YQ hv) ?_⟩
   rw [← he,hq,vz,Z3 hq]
   simp [Bool.or_assoc]
  ·refine QoP (fun r'=>r'=QcN (Qas a b)) a b _ _ _ ⟨fun h=>by simp at h;omega,fun _=>R_eq ?_⟩
   rw [← he,Qj0 (l:=b) (by omega)];simp [vz]
theorem Q2Q:Qg Tryz.prog QrL:=Qk fun x h=>QSO x.1 x.2.1 h
def Qa3 (t:Q2):TRes:=zra (.a (Tup.cells Ze t))
def Qq5:TRow:=Qh 89 [(.a Ze),(.a Ze)] fun x=>(some (Z9 (α:=Q2) (β:=Q2) x.1 x.2.1),Qa3 (Ya x.1 x.2.1))
def QcS:List TRow:=[Qes]
def QwG:TCode :=
 (zsq [(zsq [(.reg [zmv 35 8,zfa 36 2 0,zld 37 36 1,zmv 38 6,zia 39 37 38 [(.sl [TI])],zfa 40 39 0,zld 41 40 1,zle 42 41,zbi 43 .lss 35 42,zmv 44 43,.grp 44 true [zmv 45 8,zfa 46 3 0,zld 47 46 1,zmv 48 6,zia 49 47 48 [(.sl [TI])],zfa 50 49 0,zld 51 50 1,zle 52 51,zbi 53 .lss 45 52] 54 53]),(.cond 54 .skip (.exit 2))]),(.block 3 (zsq [(.draw [zfa 58 2 0,zld 59 58 1,zmv 60 6,zia 61 59 60 [(.sl [TI])],zfa 62 61 0,zld 63 62 1,zmv 64 8,zia 65 63 64 [TI],zld 66 65 1,zfa 67 3 0,zld 68 67 1,zmv 69 6,zia 70 68 69 [(.sl [TI])],zfa 71 70 0,zld 72 71 1,zmv 73 8,zia 74 72 73 [TI],zld 75 74 1,zca 76 121 [66,75],zmv 57 76,zex 77 57 0,zex 78 57 1,zmv 9 77,zmv 10 78] []),(.reg [zfa 79 7 0,zld 80 79 1,zmv 81 9,zop 82 (.bsl 3 [TI] [81]),zop 83 (.app 80 82 3 [TI]),zfa 84 7 0,zst 84 83 1]),(.reg [zfa 85 5 2,zld 86 85 1,zmv 87 86,.grp 87 false [zmv 88 10] 89 88,zfa 90 5 2,zst 90 89 1])])),(.reg [zmv 55 8,zbi 56 .add 55 (zki 1),zmv 8 56])])
def QCE:List (Nat × Md):=[(2,.b [.d,.d,.d]),(3,.b [.d,.d,.d]),(4,.b [.d,.d,.d]),(5,.b [.f,.d,.d]),(6,.one .d),(7,.b [.o 3]),(8,.one .d)]
def Qsx:TCode :=
 (.reg [zfa 91 5 0,zld 92 91 1,zLd 93 7 1,zop 94 (.bsl 129 [(.sl [TI])] [93]),zop 95 (.app 92 94 129 [(.sl [TI])]),zfa 96 5 0,zst 96 95 1])
def Qsb:TCode :=
 (.reg [zmv 32 6,zbi 33 .add 32 (zki 1),zmv 6 33])
def QqS:TCode :=
 (zsq [(zsq [(.reg [zmv 20 6,zfa 21 2 0,zld 22 21 1,zle 23 22,zbi 24 .lss 20 23,zmv 25 24,.grp 25 true [zmv 26 6,zfa 27 3 0,zld 28 27 1,zle 29 28,zbi 30 .lss 26 29] 31 30]),(.cond 31 .skip (.exit 0))]),(.block 1 (zsq [(.reg [zop 34 (.build [(.n [TI])] []),zop 7 (.new 129 [(.n [TI])]),zst 7 34 1]),(zsq [(.reg [zmv 8 (zki 0)]),(.block 2 (.loop QCE QwG))]),Qsx])),Qsb])
def QhB:List (Nat × Md):=[(2,.b [.d,.d,.d]),(3,.b [.d,.d,.d]),(4,.b [.d,.d,.d]),(5,.b [.o 129,.d,.d]),(6,.one .d)]
def QFo:TCode :=
 (zsq [(.reg [zfa 98 2 1,zld 99 98 1,zfa 100 3 1,zld 101 100 1,zca 102 121 [99,101],zmv 97 102,zex 103 97 0,zex 104 97 1,zmv 11 103,zmv 12 104]),(.reg [zmv 105 11,zfa 106 5 1,zst 106 105 1]),(.reg [zfa 107 5 2,zld 108 107 1,zmv 109 108,.grp 109 false [zmv 110 12] 111 110,zfa 112 5 2,zst 112 111 1]),(.reg [zLd 113 5 3,zst 4 113 3]),.ret])
def QT3:TCode :=
 (zsq [(.reg [zop 2 (.box 46 0 3),zop 3 (.box 46 1 3),zop 4 (.new 46 (z0s Ze))]),(.reg [zfa 13 2 2,zld 14 13 1,zmv 15 14,.grp 15 false [zfa 16 3 2,zld 17 16 1] 18 17,zop 19 (.build (z0s Ze) [(2,1,18)]),zop 5 (.new 46 (z0s Ze)),zst 5 19 3]),(zsq [(.reg [zmv 6 (zki 0)]),(.block 0 (.loop QhB QqS))]),QFo])
def Qz3:List (ARv × Md):=[(.l 4 3 true,.b [.d,.d,.d])]
def QGj:Qb:=TQ 0 0 Qz3 K
def QST:Qb:=Qseq (tawp QcS 0 QFo (QGj K)) (QGj K)
def QmP:Qb:=Qblk 0 (QST K)
def QAa:Qb:=Qseq (fun s'=>Loop QcS 0 QhB QqS (QmP K) (gc 0 QhB s')) (QmP K)
def QMz:Qb:=Qseq (tawp QcS 0 Qsb (QAa K)) (QAa K)
def QuY:Qb:=Qblk 1 (QMz K)
def QKO:Qb:=Qseq (tawp QcS 0 Qsx (QuY K)) (QuY K)
def QQ2:Qb:=Qblk 2 (QKO K)
def QjC (a:Q2) (b:Q2) (k:Int) (g2:Bool) (row0:List Int) (i:Int) (g01:List (List Int)):Prop:=Loop QcS 0 QCE QwG (QQ2 K) ⟨[(2,(.p 0 0 0)),(3,(.p 1 0 0)),(4,(.p 2 0 0)),(5,(.p 4 0 0)),(6,(zci i)),(7,(.p 6 0 0)),(8,(zci k))],[(0,(.box (Tup.cells Ze a))),(1,(.box (Tup.cells Ze b))),(2,(.box (Tup.cells Ze ([],(0:Int),false)))),(3,(.sl 129 [(.sl [TI])] true g01)),(4,(.box [(.r [(.sl [TI])] 3 0 g01.length),(zci 0),(zcb g2)])),(5,(.sl 3 [TI] true row0)),(6,(.box [(.r [TI] 5 0 row0.length)]))],7⟩
def Qhh (a:Q2) (b:Q2) (i:Int) (g0:List (List Int)) (g21:Bool):Prop:=Loop QcS 0 QhB QqS (QmP K) ⟨[(2,(.p 0 0 0)),(3,(.p 1 0 0)),(4,(.p 2 0 0)),(5,(.p 4 0 0)),(6,(zci i))],[(0,(.box (Tup.cells Ze a))),(1,(.box (Tup.cells Ze b))),(2,(.box (Tup.cells Ze ([],(0:Int),false)))),(3,(.sl 129 [(.sl [TI])] true g0)),(4,(.box [(.r [(.sl [TI])] 3 0 g0.length),(zci 0),(zcb g21)]))],5⟩
theorem QEU (a:Q2) (b:Q2) (k:Int) (g2:Bool) (row0:List Int) (i:Int) (g01:List (List Int)) (h :
 ((((0:Int)≤i∧Int.toNat i<(a.1).length)∧((decide (k<((gtd ([]:List Int) a.1 (Int.toNat i)).length:Int)))=true→((0:Int)≤i∧Int.toNat i<(b.1).length)))∧(zif ((decide (k<((gtd ([]:List Int) a.1 (Int.toNat i)).length:Int)))&&(decide (k<((gtd ([]:List Int) b.1 (Int.toNat i)).length:Int)))) ((((0:Int)≤i∧Int.toNat i<(a.1).length)∧(((0:Int)≤k∧Int.toNat k<(gtd ([]:List Int) a.1 (Int.toNat i)).length)∧(((0:Int)≤i∧Int.toNat i<(b.1).length)∧((0:Int)≤k∧Int.toNat k<(gtd ([]:List Int) b.1 (Int.toNat i)).length))))∧(((row0.length=row0.length∨row0.length+1≤row0.length)∧row0.length+1≤big)∧(QjC K a b (w64 (k+(1:Int))) (g2||((Q9 (gtd (0:Int) (gtd ([]:List Int) a.1 (Int.toNat i)) (Int.toNat k)) (gtd (0:Int) (gtd ([]:List Int) b.1 (Int.toNat i)) (Int.toNat k))).2)) (List.take (row0.length+1) ((List.take row0.length row0)++([(Q9 (gtd (0:Int) (gtd ([]:List Int) a.1 (Int.toNat i)) (Int.toNat k)) (gtd (0:Int) (gtd ([]:List Int) b.1 (Int.toNat i)) (Int.toNat k))).1]))) i (List.take g01.length g01)))) (((g01.length=g01.length∨g01.length+1≤g01.length)∧g01.length+1≤big)∧(Qhh K a b (w64 (i+(1:Int))) (List.take (g01.length+1) ((List.take g01.length g01)++([(List.take row0.length (List.drop 0 row0))]))) g2))))):QjC K a b k g2 row0 i g01 :=
 Loop.of (by kernel_rfl) h
theorem QmK (a:Q2) (b:Q2) (i:Int) (g0:List (List Int)) (g21:Bool) (h :
 (zif ((decide (i<((a.1).length:Int)))&&(decide (i<((b.1).length:Int)))) (QjC K a b 0 g21 ([]:List Int) i (List.take g0.length g0)) (K (Qa3 ((List.take g0.length (List.drop 0 g0)),(Q9 a.2.1 b.2.1).1,(g21||((Q9 a.2.1 b.2.1).2))))))):Qhh K a b i g0 g21 :=
 Loop.of (by kernel_rfl) h
theorem QUA (a:Q2) (b:Q2) (h :
 (Qhh K a b 0 ([]:List (List Int)) (a.2.2||b.2.2))):Hold (tawp QcS (0+0) QT3 (TQ 0 0 Qz3 K) (Qf [(.a (Tup.cells Ze a)),(.a (Tup.cells Ze b))])) :=
 Hold.of (by kernel_rfl) h
theorem QIX (a:Q2) (b:Q2) (hp:Z9 (α:=Q2) (β:=Q2) a b):TCon Tryz.prog 89 [(.a (Tup.cells Ze a)),(.a (Tup.cells Ze b))] (Qa3 (Ya a b)):=by
 refine Qo rfl fun hb=>tcg (n:=114) (sg:=Qq5.sg) Qj (TOk.cons QkV TOk.nil) (by kernel_rfl) (by kernel_rfl) (QUA _ a b ?_)
 have hl_a_0:(a.1).length≤9223372036854775807:=hb.1.1.1
 have hl_b_0:(b.1).length≤9223372036854775807:=hb.2.1.1.1
 unfold Z9 at hp
 simp only [ZU,ZK,J7] at hp
 have ha:=YT a.1
 refine Zk a.1 (fun r k=>∀ (v:List (List Int)) (z:Bool),v.length=k→v++(ZG r (b.1.drop k)).1=(ZG a.1 b.1).1→(z||(ZG r (b.1.drop k)).2)=(a.2.2||b.2.2||(ZG a.1 b.1).2)→Qhh (fun r'=>r'=Qa3 (Ya a b)) a b k v z) ?_ ?_ [] _ rfl (by simp) (by simp)
 ·intro v z hv he hz
  refine QmK (fun r'=>r'=Qa3 (Ya a b)) a b _ _ _ ⟨fun h=>by simp at h,fun _=>R_eq ?_⟩
  unfold Ya;rw [← he,← hz];simp [ZG]
 ·intro k x r hk hlt hg ih v z hv he hz
  by_cases hkb:k<b.1.length
  ·obtain ⟨y,q,hq⟩:=Jt (l:=b.1) (k:=k) hkb
   have hx:=QgL hk
   have hxl:=ZW x
   refine QmK (fun r'=>r'=Qa3 (Ya a b)) a b _ _ _ ⟨fun _=>?_,fun h=>by simp at h;omega⟩
   rw [List.take_length]
   refine Zk x (fun r2 j=>∀ (w:List Int) (z2:Bool),w.length=j→w++(vz Q9 r2 (y.drop j)).1=(vz Q9 x y).1→(z2||(vz Q9 r2 (y.drop j)).2)=(z||(vz Q9 x y).2)→QjC (fun r'=>r'=Qa3 (Ya a b)) a b j z2 w k v) ?_ ?_ [] z rfl (by simp) (by simp)
   ·intro w z2 hw he2 hz2
    refine QEU (fun r'=>r'=Qa3 (Ya a b)) a b _ _ _ _ _ ?_
    rw [Int.toNat_natCast,hg,Yo hq]
    refine ⟨⟨⟨by omega,hlt⟩,fun h=>by simp at h⟩,fun h=>by simp at h,fun _=>⟨room (by omega),?_⟩⟩
    rw [QbP,sc1 (by omega),Q7]
    simp only [vz,List.append_nil,Bool.or_false] at he2 hz2
    refine ih _ _ (YQ hv) ?_ ?_
    ·rw [← he,hq,ZG,Z3 hq,he2];simp
    ·rw [← hz,hq,ZG,Z3 hq,hz2];simp [Bool.or_assoc]
   ·intro j e r2 hj hlt2 hg2 ih2 w z2 hw he2 hz2
    refine QEU (fun r'=>r'=Qa3 (Ya a b)) a b _ _ _ _ _ ?_
    rw [Int.toNat_natCast,Int.toNat_natCast,hg,Yo hq]
    by_cases hjy:j<y.length
    ·obtain ⟨f,q2,hq2⟩:=Jt (l:=y) (k:=j) hjy
     refine ⟨⟨⟨by omega,hlt⟩,fun _=>⟨by omega,hkb⟩⟩,fun _=>?_,fun h=>by simp at h;omega⟩
     rw [hg2,Yo hq2,sc1 (by omega),Q7,List.take_length]
     refine ⟨⟨⟨by omega,hlt⟩,⟨by omega,hlt2⟩,⟨by omega,hkb⟩,by omega,hjy⟩,room (by omega),ih2 _ _ (YQ hw) ?_ ?_⟩
     ·rw [← he2,hq2,vz,Z3 hq2];simp
     ·rw [← hz2,hq2,vz,Z3 hq2];simp [Bool.or_assoc]
    ·refine ⟨⟨⟨by omega,hlt⟩,fun _=>⟨by omega,hkb⟩⟩,fun h=>by simp at h;omega,fun _=>⟨room (by omega),?_⟩⟩
     rw [QbP,sc1 (by omega),Q7]
     rw [Qj0 (l:=y) (by omega)] at he2 hz2
     simp only [vz,List.append_nil,Bool.or_false] at he2 hz2
     refine ih _ _ (YQ hv) ?_ ?_
     ·rw [← he,hq,ZG,Z3 hq,he2];simp
     ·rw [← hz,hq,ZG,Z3 hq,hz2];simp [Bool.or_assoc]
  ·refine QmK (fun r'=>r'=Qa3 (Ya a b)) a b _ _ _ ⟨fun h=>by simp at h;omega,fun _=>R_eq ?_⟩
   unfold Ya;rw [← he,← hz,Qj0 (l:=b.1) (by omega)];simp [ZG]
theorem QUj:Qg Tryz.prog Qq5:=Qk fun x h=>QIX x.1 x.2.1 h
def Qdu (t:Q2):TRes:=zra (.a (Tup.cells Ze t))
def QmU:TRow:=Qh 84 [(.a Ze),(.a Ze)] fun x=>(some (Z9 (α:=Q2) (β:=Q2) x.1 x.2.1),Qdu (Ya x.1 x.2.1))
def QnW:List TRow:=[QrL,Qc1]
def QzV:TCode :=
 (zsq [(zsq [(.reg [zmv 18 6,zfa 19 2 0,zld 20 19 1,zle 21 20,zbi 22 .lss 18 21,zmv 23 22,.grp 23 true [zmv 24 6,zfa 25 3 0,zld 26 25 1,zle 27 26,zbi 28 .lss 24 27] 29 28]),(.cond 29 .skip (.exit 0))]),(.block 1 (zsq [(.draw [zfa 33 2 0,zld 34 33 1,zmv 35 6,zia 36 34 35 [(.sl [TI])],zfa 37 36 0,zld 38 37 1,zfa 39 3 0,zld 40 39 1,zmv 41 6,zia 42 40 41 [(.sl [TI])],zfa 43 42 0,zld 44 43 1,zca 45 161 [38,44],zmv 32 45,zex 46 32 0,zex 47 32 1,zmv 7 46,zmv 8 47] []),(.reg [zfa 48 5 0,zld 49 48 1,zmv 50 7,zop 51 (.build [(.n [TI])] [(0,1,50)]),zop 52 (.bsl 129 [(.sl [TI])] [51]),zop 53 (.app 49 52 129 [(.sl [TI])]),zfa 54 5 0,zst 54 53 1]),(.reg [zfa 55 5 2,zld 56 55 1,zmv 57 56,.grp 57 false [zmv 58 8] 59 58,zfa 60 5 2,zst 60 59 1])])),(.reg [zmv 30 6,zbi 31 .add 30 (zki 1),zmv 6 31])])
def Qs4:List (Nat × Md):=[(2,.b [.d,.d,.d]),(3,.b [.d,.d,.d]),(4,.b [.d,.d,.d]),(5,.b [.o 129,.d,.d]),(6,.one .d)]
def QF5:TCode :=
 (zsq [(.reg [zfa 62 2 1,zld 63 62 1,zfa 64 3 1,zld 65 64 1,zca 66 162 [63,65],zmv 61 66,zex 67 61 0,zex 68 61 1,zmv 9 67,zmv 10 68]),(.reg [zmv 69 9,zfa 70 5 1,zst 70 69 1]),(.reg [zfa 71 5 2,zld 72 71 1,zmv 73 72,.grp 73 false [zmv 74 10] 75 74,zfa 76 5 2,zst 76 75 1]),(.reg [zLd 77 5 3,zst 4 77 3]),.ret])
def QYn:TCode :=
 (zsq [(.reg [zop 2 (.box 46 0 3),zop 3 (.box 46 1 3),zop 4 (.new 46 (z0s Ze))]),(.reg [zfa 11 2 2,zld 12 11 1,zmv 13 12,.grp 13 false [zfa 14 3 2,zld 15 14 1] 16 15,zop 17 (.build (z0s Ze) [(2,1,16)]),zop 5 (.new 46 (z0s Ze)),zst 5 17 3]),(zsq [(.reg [zmv 6 (zki 0)]),(.block 0 (.loop Qs4 QzV))]),QF5])
def QuV:List (ARv × Md):=[(.l 4 3 true,.b [.d,.d,.d])]
def QsF:Qb:=TQ 0 0 QuV K
def QNY:Qb:=Qseq (tawp QnW 0 QF5 (QsF K)) (QsF K)
def QVp:Qb:=Qblk 0 (QNY K)
def Qjq (a:Q2) (b:Q2) (i:Int) (g0:List (List Int)) (g2:Bool):Prop:=Loop QnW 0 Qs4 QzV (QVp K) ⟨[(2,(.p 0 0 0)),(3,(.p 1 0 0)),(4,(.p 2 0 0)),(5,(.p 4 0 0)),(6,(zci i))],[(0,(.box (Tup.cells Ze a))),(1,(.box (Tup.cells Ze b))),(2,(.box (Tup.cells Ze ([],(0:Int),false)))),(3,(.sl 129 [(.sl [TI])] true g0)),(4,(.box [(.r [(.sl [TI])] 3 0 g0.length),(zci 0),(zcb g2)]))],5⟩
theorem Qms (a:Q2) (b:Q2) (i:Int) (g0:List (List Int)) (g2:Bool) (h :
 (zif ((decide (i<((a.1).length:Int)))&&(decide (i<((b.1).length:Int)))) ((((0:Int)≤i∧Int.toNat i<(a.1).length)∧(((0:Int)≤i∧Int.toNat i<(b.1).length)∧(Z9 (α:=List Int) (β:=List Int) (gtd ([]:List Int) a.1 (Int.toNat i)) (gtd ([]:List Int) b.1 (Int.toNat i)))))∧(((g0.length=g0.length∨g0.length+1≤g0.length)∧g0.length+1≤big)∧(Qjq K a b (w64 (i+(1:Int))) (List.take (g0.length+1) ((List.take g0.length g0)++([(Qas (gtd ([]:List Int) a.1 (Int.toNat i)) (gtd ([]:List Int) b.1 (Int.toNat i))).1]))) (g2||((Qas (gtd ([]:List Int) a.1 (Int.toNat i)) (gtd ([]:List Int) b.1 (Int.toNat i))).2))))) (K (Qdu ((List.take g0.length (List.drop 0 g0)),(Q9 a.2.1 b.2.1).1,(g2||((Q9 a.2.1 b.2.1).2))))))):Qjq K a b i g0 g2 :=
 Loop.of (by kernel_rfl) h
theorem QMd (a:Q2) (b:Q2) (h :
 (Qjq K a b 0 ([]:List (List Int)) (a.2.2||b.2.2))):Hold (tawp QnW (0+0) QYn (TQ 0 0 QuV K) (Qf [(.a (Tup.cells Ze a)),(.a (Tup.cells Ze b))])) :=
 Hold.of (by kernel_rfl) h
theorem QWL (a:Q2) (b:Q2) (hp:Z9 (α:=Q2) (β:=Q2) a b):TCon Tryz.prog 84 [(.a (Tup.cells Ze a)),(.a (Tup.cells Ze b))] (Qdu (Ya a b)):=by
 refine Qo rfl fun hb=>tcg (n:=78) (sg:=QmU.sg) Qj (TOk.cons Q2Q (TOk.cons Qge TOk.nil)) (by kernel_rfl) (by kernel_rfl) (QMd _ a b ?_)
 have hl_a_0:(a.1).length≤9223372036854775807:=hb.1.1.1
 have hl_b_0:(b.1).length≤9223372036854775807:=hb.2.1.1.1
 unfold Z9 at hp
 simp only [ZU,ZK,J7] at hp
 have ha:=YT a.1
 refine Zk a.1 (fun r k=>∀ (v:List (List Int)) (z:Bool),v.length=k→v++(ZG r (b.1.drop k)).1=(ZG a.1 b.1).1→(z||(ZG r (b.1.drop k)).2)=(a.2.2||b.2.2||(ZG a.1 b.1).2)→Qjq (fun r'=>r'=Qdu (Ya a b)) a b k v z) ?_ ?_ [] _ rfl (by simp) (by simp)
 ·intro v z hv he hz
  refine Qms (fun r'=>r'=Qdu (Ya a b)) a b _ _ _ ⟨fun h=>by simp at h,fun _=>R_eq ?_⟩
  unfold Ya;rw [← he,← hz];simp [ZG]
 ·intro k x r hk hlt hg ih v z hv he hz
  by_cases hkb:k<b.1.length
  ·obtain ⟨y,q,hq⟩:=Jt (l:=b.1) (k:=k) hkb
   have hx:=QgL hk
   have hy:=QgL hq
   refine Qms (fun r'=>r'=Qdu (Ya a b)) a b _ _ _ ⟨fun _=>?_,fun h=>by simp at h;omega⟩
   rw [Int.toNat_natCast,hg,Yo hq,sc1 (by omega),Q7]
   refine ⟨⟨⟨by omega,hlt⟩,⟨by omega,hkb⟩,by unfold Z9;omega⟩,room (by omega),ih _ _ (YQ hv) ?_ ?_⟩
   ·rw [← he,hq,ZG,Z3 hq];simp [Qas]
   ·rw [← hz,hq,ZG,Z3 hq];simp [Qas,Bool.or_assoc]
  ·refine Qms (fun r'=>r'=Qdu (Ya a b)) a b _ _ _ ⟨fun h=>by simp at h;omega,fun _=>R_eq ?_⟩
   unfold Ya;rw [← he,← hz,Qj0 (l:=b.1) (by omega)];simp [ZG]
theorem QX3:Qg Tryz.prog QmU:=Qk fun x h=>QWL x.1 x.2.1 h
end
end Go.Proofs.YtjbdljkhbglnhaaGreat.Am

