/- -/
import Derived.Test.YtjbdljkhbglnhaaGreatZAPF
import Derived.Test.YtjbdljkhbglnhaaGreatZAP4
namespace Go.Proofs.YtjbdljkhbglnhaaGreat.Am
open Go Go.RowKit Go.Proofs.YtjbdljkhbglnhaaGreat
set_option linter.all false
noncomputable section
variable (K:TRes→Prop)
def Qcs (t:(List TOp')):TRes:=zra (zcs ctOp t)
def Qgm:TRow:=Qj 151 [(.c (.sl ctOp))] fun x=>(some (QE (α:=List TOp') x.1),Qcs (id (α:=List TOp') x.1))
def Qob:List TRow:=[Qah]
def Qx1:TCode :=
 (zsq [(.reg [zbi 10 .lss 9 8]),(.cond 10 .skip (.exit 0)),(.block 1 (zsq [(.reg [zia 11 7 9 ctOp,zLd 12 11 4,zop 5 (.new 69 (z0s ctOp)),zst 5 12 4]),(.draw [zmv 13 3,zfa 14 5 0,zld 15 14 1,zfa 16 5 1,zld 17 16 1,zfa 18 5 2,zld 19 18 1,zfa 20 5 3,zld 21 20 1,zca 22 119 [21],zop 23 (.build (z0s ctOp) [(0,1,15),(1,1,17),(2,1,19),(3,1,22)]),zop 24 (.bsl 69 ctOp [23]),zop 25 (.app 13 24 69 ctOp),zmv 3 25] [(1,9),(2,9),(3,9),(4,9),(5,9),(6,9)])])),(.reg [zbi 26 .add 9 (zki 1),zmv 9 26])])
def Qum:List (Nat × Md):=[(3,.one .f),(7,.one .d),(8,.one .d),(9,.one .d)]
def Qz7:TCode :=
 (zsq [(.reg [zmv 27 3,zmv 2 27]),.ret])
def QBe:TCode :=
 (zsq [(.reg [zmv 2 (.k (.n ctOp))]),(.reg [zop 6 (.bsl 69 ctOp []),zmv 3 6]),(zsq [(.reg [zmv 7 0,zle 8 7,zmv 9 (zki 0)]),(.block 0 (.loop Qum Qx1))]),Qz7])
def QAo:List (ARv × Md):=[(.t 2,.one .d)]
def Qrc:Qb:=TQ 0 0 QAo K
def QG6:Qb:=Qseq (tawp Qob 0 Qz7 (Qrc K)) (Qrc K)
def QLq:Qb:=Qblk 0 (QG6 K)
def Qna (l:List TOp') (x:Int) (ops:List TOp'):Prop:=Loop Qob 0 Qum Qx1 (QLq K) ⟨[(3,(.r ctOp 0 0 ops.length)),(7,(zcs ctOp l)),(8,(zci (l.length:Int))),(9,(zci x))],[(0,(.sl 69 ctOp true ops))],1⟩
theorem Qzb (l:List TOp') (x:Int) (ops:List TOp') (h :
 (zif (decide (x<(l.length:Int))) (((0:Int)≤x∧Int.toNat x<l.length)∧(((QE (α:=List Int) ((gtd dOp l (Int.toNat x)).2.2.2))∧((ops.length=ops.length∨ops.length+1≤ops.length)∧ops.length+1≤big))∧(Qna K l (w64 (x+(1:Int))) (List.take (ops.length+1) ((List.take ops.length ops)++([((gtd dOp l (Int.toNat x)).1,(gtd dOp l (Int.toNat x)).2.1,(gtd dOp l (Int.toNat x)).2.2.1,(List.take ((id (α:=List Int) ((gtd dOp l (Int.toNat x)).2.2.2)).length) (List.drop 0 (id (α:=List Int) ((gtd dOp l (Int.toNat x)).2.2.2)))))])))))) (K (Qcs (List.take ops.length (List.drop 0 ops)))))):Qna K l x ops :=
 Loop.of (by kernel_rfl) h
theorem QHG (l:List TOp') (h :
 (Qna K l 0 ([]:List TOp'))):Hold (tawp Qob (0+0) QBe (TQ 0 0 QAo K) (Qf [(.c (.sl ctOp) l)])) :=
 Hold.of (by kernel_rfl) h
theorem QKF (l:List TOp') (hp:QE (α:=List TOp') l):TCon Tryz.prog 151 [(.c (.sl ctOp) l)] (Qcs (id (α:=List TOp') l)):=by
 refine Qq rfl fun hb=>tcg (n:=28) (sg:=Qgm.sg) Ql (TOk.cons Qbf TOk.nil) (by kernel_rfl) (by kernel_rfl) (QHG _ l ?_)
 have hl_l:l.length≤9223372036854775807:=hb.1.1
 refine QbD (Q:=fun z=>Qcs z=Qcs (id (α:=List TOp') l)) hp (fun k x v hk hl hg hv hx ih=>?_) (fun hq=>?_) (R_eq rfl)
 ·refine Qzb (fun r'=>r'=Qcs (id (α:=List TOp') l)) l _ _ ⟨fun _=>?_,fun h=>by simp at h;omega⟩
  try simp only [YC,Yc,QaY] at hx
  rw [Int.toNat_natCast,hg,sc1 (by omega),Zv,QdF]
  exact ⟨⟨by omega,hk⟩,⟨(show Sz.sz (_:List Int)≤2147483648 by omega),room (by omega)⟩,ih⟩
 ·refine Qzb (fun r'=>r'=Qcs (id (α:=List TOp') l)) l _ _ ⟨fun h=>by simp at h,fun _=>?_⟩
  exact R_eq (by simp)
theorem Qrj:Qi Tryz.prog Qgm:=Qm fun x h=>QKF x.1 h
def Qcd (t:(List (List Int))):TRes:=zra (zcs [(.sl [TI])] t)
def Qfx:TRow:=Qj 86 [(.c (.sl [(.sl [TI])]))] fun x=>(some (QE (α:=List (List Int)) x.1),Qcd (id (α:=List (List Int)) x.1))
def Qls:List TRow:=[Qah]
def Qt4:TCode :=
 (zsq [(.reg [zbi 10 .lss 9 8]),(.cond 10 .skip (.exit 0)),(.block 1 (zsq [(.reg [zia 11 7 9 [(.sl [TI])],zLd 12 11 1,zop 5 (.new 129 [(.n [TI])]),zst 5 12 1]),(.reg [zmv 13 3,zfa 14 5 0,zld 15 14 1,zca 16 119 [15],zop 17 (.build [(.n [TI])] [(0,1,16)]),zop 18 (.bsl 129 [(.sl [TI])] [17]),zop 19 (.app 13 18 129 [(.sl [TI])]),zmv 3 19])])),(.reg [zbi 20 .add 9 (zki 1),zmv 9 20])])
def Qyo:List (Nat × Md):=[(3,.one .f),(7,.one .d),(8,.one .d),(9,.one .d)]
def Qp9:TCode :=
 (zsq [(.reg [zmv 21 3,zmv 2 21]),.ret])
def QEY:TCode :=
 (zsq [(.reg [zmv 2 (.k (.n [(.sl [TI])]))]),(.reg [zop 6 (.bsl 129 [(.sl [TI])] []),zmv 3 6]),(zsq [(.reg [zmv 7 0,zle 8 7,zmv 9 (zki 0)]),(.block 0 (.loop Qyo Qt4))]),Qp9])
def QrE:List (ARv × Md):=[(.t 2,.one .d)]
def Qym:Qb:=TQ 0 0 QrE K
def QC8:Qb:=Qseq (tawp Qls 0 Qp9 (Qym K)) (Qym K)
def QRC:Qb:=Qblk 0 (QC8 K)
def QjU (l:List (List Int)) (x:Int) (rows:List (List Int)):Prop:=Loop Qls 0 Qyo Qt4 (QRC K) ⟨[(3,(.r [(.sl [TI])] 0 0 rows.length)),(7,(zcs [(.sl [TI])] l)),(8,(zci (l.length:Int))),(9,(zci x))],[(0,(.sl 129 [(.sl [TI])] true rows))],1⟩
theorem QxW (l:List (List Int)) (x:Int) (rows:List (List Int)) (h :
 (zif (decide (x<(l.length:Int))) (((0:Int)≤x∧Int.toNat x<l.length)∧(((QE (α:=List Int) (gtd ([]:List Int) l (Int.toNat x)))∧((rows.length=rows.length∨rows.length+1≤rows.length)∧rows.length+1≤big))∧(QjU K l (w64 (x+(1:Int))) (List.take (rows.length+1) ((List.take rows.length rows)++([(List.take ((id (α:=List Int) (gtd ([]:List Int) l (Int.toNat x))).length) (List.drop 0 (id (α:=List Int) (gtd ([]:List Int) l (Int.toNat x)))))])))))) (K (Qcd (List.take rows.length (List.drop 0 rows)))))):QjU K l x rows :=
 Loop.of (by kernel_rfl) h
theorem QIn (l:List (List Int)) (h :
 (QjU K l 0 ([]:List (List Int)))):Hold (tawp Qls (0+0) QEY (TQ 0 0 QrE K) (Qf [(.c (.sl [(.sl [TI])]) l)])) :=
 Hold.of (by kernel_rfl) h
theorem QIM (l:List (List Int)) (hp:QE (α:=List (List Int)) l):TCon Tryz.prog 86 [(.c (.sl [(.sl [TI])]) l)] (Qcd (id (α:=List (List Int)) l)):=by
 refine Qq rfl fun hb=>tcg (n:=22) (sg:=Qfx.sg) Ql (TOk.cons Qbf TOk.nil) (by kernel_rfl) (by kernel_rfl) (QIn _ l ?_)
 have hl_l:l.length≤9223372036854775807:=hb.1.1
 refine QbD (Q:=fun z=>Qcd z=Qcd (id (α:=List (List Int)) l)) hp (fun k x v hk hl hg hv hx ih=>?_) (fun hq=>?_) (R_eq rfl)
 ·refine QxW (fun r'=>r'=Qcd (id (α:=List (List Int)) l)) l _ _ ⟨fun _=>?_,fun h=>by simp at h;omega⟩
  try simp only [YC,Yc,QaY] at hx
  rw [Int.toNat_natCast,hg,sc1 (by omega),Zv,QdF]
  exact ⟨⟨by omega,hk⟩,⟨(show Sz.sz (_:List Int)≤2147483648 by omega),room (by omega)⟩,ih⟩
 ·refine QxW (fun r'=>r'=Qcd (id (α:=List (List Int)) l)) l _ _ ⟨fun h=>by simp at h,fun _=>?_⟩
  exact R_eq (by simp)
theorem Qkm:Qi Tryz.prog Qfx:=Qm fun x h=>QIM x.1 h
def Qc1 (t:(List Qh)):TRes:=zra (zcs QC t)
def QiH:TRow:=Qj 70 [(.c (.sl QC))] fun x=>(some (QE (α:=List Qh) x.1),Qc1 (id (α:=List Qh) x.1))
def Qju:List TRow:=[Qah]
def QvT:TCode :=
 (zsq [(.reg [zbi 10 .lss 9 8]),(.cond 10 .skip (.exit 0)),(.block 1 (zsq [(.reg [zia 11 7 9 QC,zLd 12 11 2,zop 5 (.new 108 (z0s QC)),zst 5 12 2]),(.draw [zmv 13 3,zfa 14 5 0,zld 15 14 1,zca 16 119 [15],zfa 17 5 1,zld 18 17 1,zca 19 119 [18],zop 20 (.build (z0s QC) [(0,1,16),(1,1,19)]),zop 21 (.bsl 108 QC [20]),zop 22 (.app 13 21 108 QC),zmv 3 22] [(3,4),(3,5)])])),(.reg [zbi 23 .add 9 (zki 1),zmv 9 23])])
def Quc:List (Nat × Md):=[(3,.one .f),(7,.one .d),(8,.one .d),(9,.one .d)]
def Qu0:TCode :=
 (zsq [(.reg [zmv 24 3,zmv 2 24]),.ret])
def QFl:TCode :=
 (zsq [(.reg [zmv 2 (.k (.n QC))]),(.reg [zop 6 (.bsl 108 QC []),zmv 3 6]),(zsq [(.reg [zmv 7 0,zle 8 7,zmv 9 (zki 0)]),(.block 0 (.loop Quc QvT))]),Qu0])
def QoZ:List (ARv × Md):=[(.t 2,.one .d)]
def QoR:Qb:=TQ 0 0 QoZ K
def QQI:Qb:=Qseq (tawp Qju 0 Qu0 (QoR K)) (QoR K)
def QAZ:Qb:=Qblk 0 (QQI K)
def Qmh (b:List Qh) (x:Int) (Yv:List Qh):Prop:=Loop Qju 0 Quc QvT (QAZ K) ⟨[(3,(.r QC 0 0 Yv.length)),(7,(zcs QC b)),(8,(zci (b.length:Int))),(9,(zci x))],[(0,(.sl 108 QC true Yv))],1⟩
theorem Qyz (b:List Qh) (x:Int) (Yv:List Qh) (h :
 (zif (decide (x<(b.length:Int))) (((0:Int)≤x∧Int.toNat x<b.length)∧(((QE (α:=List Int) ((gtd Zl b (Int.toNat x)).1))∧((QE (α:=List Int) ((gtd Zl b (Int.toNat x)).2))∧((Yv.length=Yv.length∨Yv.length+1≤Yv.length)∧Yv.length+1≤big)))∧(Qmh K b (w64 (x+(1:Int))) (List.take (Yv.length+1) ((List.take Yv.length Yv)++([((List.take ((id (α:=List Int) ((gtd Zl b (Int.toNat x)).1)).length) (List.drop 0 (id (α:=List Int) ((gtd Zl b (Int.toNat x)).1)))),(List.take ((id (α:=List Int) ((gtd Zl b (Int.toNat x)).2)).length) (List.drop 0 (id (α:=List Int) ((gtd Zl b (Int.toNat x)).2)))))])))))) (K (Qc1 (List.take Yv.length (List.drop 0 Yv)))))):Qmh K b x Yv :=
 Loop.of (by kernel_rfl) h
theorem QJ2 (b:List Qh) (h :
 (Qmh K b 0 ([]:List Qh))):Hold (tawp Qju (0+0) QFl (TQ 0 0 QoZ K) (Qf [(.c (.sl QC) b)])) :=
 Hold.of (by kernel_rfl) h
theorem QN1 (b:List Qh) (hp:QE (α:=List Qh) b):TCon Tryz.prog 70 [(.c (.sl QC) b)] (Qc1 (id (α:=List Qh) b)):=by
 refine Qq rfl fun hb=>tcg (n:=25) (sg:=QiH.sg) Ql (TOk.cons Qbf TOk.nil) (by kernel_rfl) (by kernel_rfl) (QJ2 _ b ?_)
 have hl_b:b.length≤9223372036854775807:=hb.1.1
 refine QbD (Q:=fun z=>Qc1 z=Qc1 (id (α:=List Qh) b)) hp (fun k x v hk hl hg hv hx ih=>?_) (fun hq=>?_) (R_eq rfl)
 ·refine Qyz (fun r'=>r'=Qc1 (id (α:=List Qh) b)) b _ _ ⟨fun _=>?_,fun h=>by simp at h;omega⟩
  try simp only [YC,Yc,QaY] at hx
  rw [Int.toNat_natCast,hg,sc1 (by omega),Zv,QdF,QdF]
  exact ⟨⟨by omega,hk⟩,⟨(show Sz.sz (_:List Int)≤2147483648 by omega),(show Sz.sz (_:List Int)≤2147483648 by omega),room (by omega)⟩,ih⟩
 ·refine Qyz (fun r'=>r'=Qc1 (id (α:=List Qh) b)) b _ _ ⟨fun h=>by simp at h,fun _=>?_⟩
  exact R_eq (by simp)
theorem QtJ:Qi Tryz.prog QiH:=Qm fun x h=>QN1 x.1 h
def QkN (t:Zb):TRes:=zra (.a (Tup.cells ZQ t))
def Qmj:TRow:=Qj 184 [(.a ZQ)] fun x=>(some (QE (α:=Zb) x.1),QkN (id (α:=Zb) x.1))
def QO2:List TRow:=[Qfx]
def QJo:TCode :=
 (zsq [(.reg [zop 1 (.box 46 0 3),zop 2 (.new 46 (z0s ZQ))]),(.draw [zfa 3 1 0,zld 4 3 1,zca 5 86 [4],zfa 6 1 1,zld 7 6 1,zfa 8 1 2,zld 9 8 1,zop 10 (.build (z0s ZQ) [(0,1,5),(1,1,7),(2,1,9)]),zst 2 10 3] [(2,3),(2,4),(2,5),(2,6)]),.ret])
def QP9:List (ARv × Md):=[(.l 2 3 true,.b [.d,.d,.d])]
theorem QLC (g:Zb) (h :
 ((QE (α:=List (List Int)) g.1)∧K (QkN ((id (α:=List (List Int)) g.1),g.2.1,g.2.2)))):Hold (tawp QO2 (0+0) QJo (TQ 0 0 QP9 K) (Qf [(.a (Tup.cells ZQ g))])) :=
 Hold.of (by kernel_rfl) h
theorem QOt (g:Zb) (hp:QE (α:=Zb) g):TCon Tryz.prog 184 [(.a (Tup.cells ZQ g))] (QkN (id (α:=Zb) g)):=by
 refine Qq rfl fun hb=>tcg (n:=11) (sg:=Qmj.sg) Ql (TOk.cons Qkm TOk.nil) (by kernel_rfl) (by kernel_rfl) (QLC _ g ?_)
 have hl_g_0:(g.1).length≤9223372036854775807:=hb.1.1.1
 unfold QE at hp
 simp only [YC,Yc,QaY] at hp
 exact ⟨hp,R_eq rfl⟩
theorem QEj:Qi Tryz.prog Qmj:=Qm fun x h=>QOt x.1 h
def Qc0 (t:Zb):TRes:=zra (.a (Tup.cells ZQ t))
def QmK:TRow:=Qj 88 [(.a [(.sl ctOp)])] fun x=>(none,Qc0 (ZN x.1))
def QjK:List TRow:=[JS]
def Qr7:TCode :=
 (zsq [(.reg [zbi 15 .lss 14 13]),(.cond 15 .skip (.exit 0)),(.block 1 (zsq [(.reg [zia 16 12 14 ctOp,zLd 17 16 4,zop 5 (.new 69 (z0s ctOp)),zst 5 17 4]),(.draw [zfa 18 3 0,zld 19 18 1,zfa 20 5 3,zld 21 20 1,zle 22 21,zop 23 (.mk 3 [TI] [(zci 0)] 22),zop 24 (.build [(.n [TI])] [(0,1,23)]),zop 25 (.bsl 129 [(.sl [TI])] [24]),zop 26 (.app 19 25 129 [(.sl [TI])]),zfa 27 3 0,zst 27 26 1] [(0,5),(1,5),(0,7),(1,7)])])),(.reg [zbi 28 .add 14 (zki 1),zmv 14 28])])
def QqK:List (Nat × Md):=[(2,.b [.d,.d,.d]),(3,.b [.o 129,.d,.d]),(12,.one .d),(13,.one .d),(14,.one .d)]
def QoQ:TCode :=
 (zsq [(.reg [zLd 29 3 3,zst 2 29 3]),.ret])
def QAV:TCode :=
 (zsq [(.reg [zop 1 (.box 26 0 1),zop 2 (.new 46 (z0s ZQ))]),(zsq [(.reg [zLd 6 1 1,zca 7 131 [6],zno 8 7]),(.cond 8 (zsq [(.reg [zop 9 (.build (z0s ZQ) []),zst 2 9 3]),.ret]) .skip)]),(.reg [zop 10 (.build (z0s ZQ) []),zop 3 (.new 46 (z0s ZQ)),zst 3 10 3]),(zsq [(.reg [zfa 11 1 0,zld 12 11 1,zle 13 12,zmv 14 (zki 0)]),(.block 0 (.loop QqK Qr7))]),QoQ])
def Qzu:List (ARv × Md):=[(.l 2 3 true,.b [.d,.d,.d])]
def QwC:Qb:=TQ 0 0 Qzu K
def QOc:Qb:=Qseq (tawp QjK 0 QoQ (QwC K)) (QwC K)
def QLT:Qb:=Qblk 0 (QOc K)
def Qgw (m:List TOp') (x:Int) (g0:List (List Int)):Prop:=Loop QjK 0 QqK Qr7 (QLT K) ⟨[(2,(.p 0 0 0)),(3,(.p 2 0 0)),(12,(zcs ctOp m)),(13,(zci (m.length:Int))),(14,(zci x))],[(0,(.box (Tup.cells ZQ ([],(0:Int),false)))),(1,(.sl 129 [(.sl [TI])] true g0)),(2,(.box [(.r [(.sl [TI])] 1 0 g0.length),(zci 0),(zcb false)]))],3⟩
theorem Qqu (m:List TOp') (x:Int) (g0:List (List Int)) (h :
 (zif (decide (x<(m.length:Int))) (((0:Int)≤x∧Int.toNat x<m.length)∧((((0:Int)≤(((gtd dOp m (Int.toNat x)).2.2.2).length:Int)∧(((gtd dOp m (Int.toNat x)).2.2.2).length:Int)≤big)∧((g0.length=g0.length∨g0.length+1≤g0.length)∧g0.length+1≤big))∧(Qgw K m (w64 (x+(1:Int))) (List.take (g0.length+1) ((List.take g0.length g0)++([(List.take (Int.toNat (((gtd dOp m (Int.toNat x)).2.2.2).length:Int)) (List.drop 0 (List.replicate (Int.toNat (((gtd dOp m (Int.toNat x)).2.2.2).length:Int)) (0:Int))))])))))) (K (Qc0 ((List.take g0.length (List.drop 0 g0)),(0:Int),false))))):Qgw K m x g0 :=
 Loop.of (by kernel_rfl) h
theorem QGA (m:List TOp') (h :
 (zif (!(QM m)) (K (Qc0 ([],(0:Int),false))) (Qgw K m 0 ([]:List (List Int))))):Hold (tawp QjK (0+0) QAV (TQ 0 0 Qzu K) (Qf [(.a [(.c (.sl ctOp) m)])])) :=
 Hold.of (by kernel_rfl) h
theorem QAD (m:List TOp'):TCon Tryz.prog 88 [(.a [(.c (.sl ctOp) m)])] (Qc0 (ZN m)):=by
 refine Qq rfl fun hb=>tcg (n:=30) (sg:=QmK.sg) Ql (TOk.cons QaQ TOk.nil) (by kernel_rfl) (by kernel_rfl) (QGA _ m ?_)
 have hl_m_0:(m).length≤9223372036854775807:=hb.1.1.1
 refine ⟨fun h=>R_eq (by unfold ZN;rw [if_neg (by simpa using h)]),fun h=>?_⟩
 have hm:QM m=true:=by simpa using h
 have hl:=YZ hm
 have hv:(ZN m)=(m.map fun o=>List.replicate o.2.2.2.length (0:Int),0,false):=by unfold ZN;rw [if_pos hm]
 refine Zj m (fun r k=>∀ v:List (List Int),v.length=k→v++r.map (fun o=>List.replicate o.2.2.2.length (0:Int))=m.map (fun o=>List.replicate o.2.2.2.length (0:Int))→Qgw (fun r'=>r'=Qc0 (ZN m)) m k v) ?_ ?_ [] rfl rfl
 ·intro v hk he
  refine Qqu (fun r'=>r'=Qc0 (ZN m)) m _ _ ⟨fun h=>by simp at h,fun _=>R_eq ?_⟩
  rw [hv,← he];simp
 ·intro k x r hk hlt hg ih v hvl he
  have ho:=Qkr (Qj9 hm hlt)
  rw [hg] at ho
  refine Qqu (fun r'=>r'=Qc0 (ZN m)) m _ _ ⟨fun _=>?_,fun h=>by simp [hm] at h;omega⟩
  rw [Int.toNat_natCast,hg,sc1 (by omega),Int.toNat_natCast,Zv,QLL]
  refine ⟨⟨by omega,hlt⟩,⟨⟨by omega,by rw [bigI];omega⟩,room (by omega)⟩,ih _ (JQ hvl) ?_⟩
  rw [← he];simp
theorem QEM:Qi Tryz.prog QmK:=Qm fun x _=>QAD x.1
def QaB (t:Zb):TRes:=zra (.a (Tup.cells ZQ t))
def QlC:TRow:=Qj 89 [(.a ZQ),(.a ZQ)] fun x=>(some (JP (α:=Zb) (β:=Zb) x.1 x.2.1),QaB (Yl x.1 x.2.1))
def QcZ:List TRow:=[QdI]
def Qz5:TCode :=
 (zsq [(zsq [(.reg [zmv 35 8,zfa 36 2 0,zld 37 36 1,zmv 38 6,zia 39 37 38 [(.sl [TI])],zfa 40 39 0,zld 41 40 1,zle 42 41,zbi 43 .lss 35 42,zmv 44 43,.grp 44 true [zmv 45 8,zfa 46 3 0,zld 47 46 1,zmv 48 6,zia 49 47 48 [(.sl [TI])],zfa 50 49 0,zld 51 50 1,zle 52 51,zbi 53 .lss 45 52] 54 53]),(.cond 54 .skip (.exit 2))]),(.block 3 (zsq [(.draw [zfa 58 2 0,zld 59 58 1,zmv 60 6,zia 61 59 60 [(.sl [TI])],zfa 62 61 0,zld 63 62 1,zmv 64 8,zia 65 63 64 [TI],zld 66 65 1,zfa 67 3 0,zld 68 67 1,zmv 69 6,zia 70 68 69 [(.sl [TI])],zfa 71 70 0,zld 72 71 1,zmv 73 8,zia 74 72 73 [TI],zld 75 74 1,zca 76 121 [66,75],zmv 57 76,zex 77 57 0,zex 78 57 1,zmv 9 77,zmv 10 78] []),(.reg [zfa 79 7 0,zld 80 79 1,zmv 81 9,zop 82 (.bsl 3 [TI] [81]),zop 83 (.app 80 82 3 [TI]),zfa 84 7 0,zst 84 83 1]),(.reg [zfa 85 5 2,zld 86 85 1,zmv 87 86,.grp 87 false [zmv 88 10] 89 88,zfa 90 5 2,zst 90 89 1])])),(.reg [zmv 55 8,zbi 56 .add 55 (zki 1),zmv 8 56])])
def Qvu:List (Nat × Md):=[(2,.b [.d,.d,.d]),(3,.b [.d,.d,.d]),(4,.b [.d,.d,.d]),(5,.b [.f,.d,.d]),(6,.one .d),(7,.b [.o 3]),(8,.one .d)]
def Qvr:TCode :=
 (.reg [zfa 91 5 0,zld 92 91 1,zLd 93 7 1,zop 94 (.bsl 129 [(.sl [TI])] [93]),zop 95 (.app 92 94 129 [(.sl [TI])]),zfa 96 5 0,zst 96 95 1])
def QAq:TCode :=
 (.reg [zmv 32 6,zbi 33 .add 32 (zki 1),zmv 6 33])
def QjW:TCode :=
 (zsq [(zsq [(.reg [zmv 20 6,zfa 21 2 0,zld 22 21 1,zle 23 22,zbi 24 .lss 20 23,zmv 25 24,.grp 25 true [zmv 26 6,zfa 27 3 0,zld 28 27 1,zle 29 28,zbi 30 .lss 26 29] 31 30]),(.cond 31 .skip (.exit 0))]),(.block 1 (zsq [(.reg [zop 34 (.build [(.n [TI])] []),zop 7 (.new 129 [(.n [TI])]),zst 7 34 1]),(zsq [(.reg [zmv 8 (zki 0)]),(.block 2 (.loop Qvu Qz5))]),Qvr])),QAq])
def QiI:List (Nat × Md):=[(2,.b [.d,.d,.d]),(3,.b [.d,.d,.d]),(4,.b [.d,.d,.d]),(5,.b [.o 129,.d,.d]),(6,.one .d)]
def QsI:TCode :=
 (zsq [(.reg [zfa 98 2 1,zld 99 98 1,zfa 100 3 1,zld 101 100 1,zca 102 121 [99,101],zmv 97 102,zex 103 97 0,zex 104 97 1,zmv 11 103,zmv 12 104]),(.reg [zmv 105 11,zfa 106 5 1,zst 106 105 1]),(.reg [zfa 107 5 2,zld 108 107 1,zmv 109 108,.grp 109 false [zmv 110 12] 111 110,zfa 112 5 2,zst 112 111 1]),(.reg [zLd 113 5 3,zst 4 113 3]),.ret])
def QI9:TCode :=
 (zsq [(.reg [zop 2 (.box 46 0 3),zop 3 (.box 46 1 3),zop 4 (.new 46 (z0s ZQ))]),(.reg [zfa 13 2 2,zld 14 13 1,zmv 15 14,.grp 15 false [zfa 16 3 2,zld 17 16 1] 18 17,zop 19 (.build (z0s ZQ) [(2,1,18)]),zop 5 (.new 46 (z0s ZQ)),zst 5 19 3]),(zsq [(.reg [zmv 6 (zki 0)]),(.block 0 (.loop QiI QjW))]),QsI])
def Qyu:List (ARv × Md):=[(.l 4 3 true,.b [.d,.d,.d])]
def QsR:Qb:=TQ 0 0 Qyu K
def QPu:Qb:=Qseq (tawp QcZ 0 QsI (QsR K)) (QsR K)
def Qlv:Qb:=Qblk 0 (QPu K)
def QyZ:Qb:=Qseq (fun s'=>Loop QcZ 0 QiI QjW (Qlv K) (gc 0 QiI s')) (Qlv K)
def QCA:Qb:=Qseq (tawp QcZ 0 QAq (QyZ K)) (QyZ K)
def Qyc:Qb:=Qblk 1 (QCA K)
def QQv:Qb:=Qseq (tawp QcZ 0 Qvr (Qyc K)) (Qyc K)
def QJm:Qb:=Qblk 2 (QQv K)
def QgC (a:Zb) (b:Zb) (k:Int) (g2:Bool) (row0:List Int) (i:Int) (g01:List (List Int)):Prop:=Loop QcZ 0 Qvu Qz5 (QJm K) ⟨[(2,(.p 0 0 0)),(3,(.p 1 0 0)),(4,(.p 2 0 0)),(5,(.p 4 0 0)),(6,(zci i)),(7,(.p 6 0 0)),(8,(zci k))],[(0,(.box (Tup.cells ZQ a))),(1,(.box (Tup.cells ZQ b))),(2,(.box (Tup.cells ZQ ([],(0:Int),false)))),(3,(.sl 129 [(.sl [TI])] true g01)),(4,(.box [(.r [(.sl [TI])] 3 0 g01.length),(zci 0),(zcb g2)])),(5,(.sl 3 [TI] true row0)),(6,(.box [(.r [TI] 5 0 row0.length)]))],7⟩
def Qgt (a:Zb) (b:Zb) (i:Int) (g0:List (List Int)) (g21:Bool):Prop:=Loop QcZ 0 QiI QjW (Qlv K) ⟨[(2,(.p 0 0 0)),(3,(.p 1 0 0)),(4,(.p 2 0 0)),(5,(.p 4 0 0)),(6,(zci i))],[(0,(.box (Tup.cells ZQ a))),(1,(.box (Tup.cells ZQ b))),(2,(.box (Tup.cells ZQ ([],(0:Int),false)))),(3,(.sl 129 [(.sl [TI])] true g0)),(4,(.box [(.r [(.sl [TI])] 3 0 g0.length),(zci 0),(zcb g21)]))],5⟩
theorem Quz (a:Zb) (b:Zb) (k:Int) (g2:Bool) (row0:List Int) (i:Int) (g01:List (List Int)) (h :
 ((((0:Int)≤i∧Int.toNat i<(a.1).length)∧((decide (k<((gtd ([]:List Int) a.1 (Int.toNat i)).length:Int)))=true→((0:Int)≤i∧Int.toNat i<(b.1).length)))∧(zif ((decide (k<((gtd ([]:List Int) a.1 (Int.toNat i)).length:Int)))&&(decide (k<((gtd ([]:List Int) b.1 (Int.toNat i)).length:Int)))) ((((0:Int)≤i∧Int.toNat i<(a.1).length)∧(((0:Int)≤k∧Int.toNat k<(gtd ([]:List Int) a.1 (Int.toNat i)).length)∧(((0:Int)≤i∧Int.toNat i<(b.1).length)∧((0:Int)≤k∧Int.toNat k<(gtd ([]:List Int) b.1 (Int.toNat i)).length))))∧(((row0.length=row0.length∨row0.length+1≤row0.length)∧row0.length+1≤big)∧(QgC K a b (w64 (k+(1:Int))) (g2||((Zi (gtd (0:Int) (gtd ([]:List Int) a.1 (Int.toNat i)) (Int.toNat k)) (gtd (0:Int) (gtd ([]:List Int) b.1 (Int.toNat i)) (Int.toNat k))).2)) (List.take (row0.length+1) ((List.take row0.length row0)++([(Zi (gtd (0:Int) (gtd ([]:List Int) a.1 (Int.toNat i)) (Int.toNat k)) (gtd (0:Int) (gtd ([]:List Int) b.1 (Int.toNat i)) (Int.toNat k))).1]))) i (List.take g01.length g01)))) (((g01.length=g01.length∨g01.length+1≤g01.length)∧g01.length+1≤big)∧(Qgt K a b (w64 (i+(1:Int))) (List.take (g01.length+1) ((List.take g01.length g01)++([(List.take row0.length (List.drop 0 row0))]))) g2))))):QgC K a b k g2 row0 i g01 :=
 Loop.of (by kernel_rfl) h
theorem QjO (a:Zb) (b:Zb) (i:Int) (g0:List (List Int)) (g21:Bool) (h :
 (zif ((decide (i<((a.1).length:Int)))&&(decide (i<((b.1).length:Int)))) (QgC K a b 0 g21 ([]:List Int) i (List.take g0.length g0)) (K (QaB ((List.take g0.length (List.drop 0 g0)),(Zi a.2.1 b.2.1).1,(g21||((Zi a.2.1 b.2.1).2))))))):Qgt K a b i g0 g21 :=
 Loop.of (by kernel_rfl) h
theorem QG2 (a:Zb) (b:Zb) (h :
 (Qgt K a b 0 ([]:List (List Int)) (a.2.2||b.2.2))):Hold (tawp QcZ (0+0) QI9 (TQ 0 0 Qyu K) (Qf [(.a (Tup.cells ZQ a)),(.a (Tup.cells ZQ b))])) :=
 Hold.of (by kernel_rfl) h
theorem QHr (a:Zb) (b:Zb) (hp:JP (α:=Zb) (β:=Zb) a b):TCon Tryz.prog 89 [(.a (Tup.cells ZQ a)),(.a (Tup.cells ZQ b))] (QaB (Yl a b)):=by
 refine Qq rfl fun hb=>tcg (n:=114) (sg:=QlC.sg) Ql (TOk.cons QfT TOk.nil) (by kernel_rfl) (by kernel_rfl) (QG2 _ a b ?_)
 have hl_a_0:(a.1).length≤9223372036854775807:=hb.1.1.1
 have hl_b_0:(b.1).length≤9223372036854775807:=hb.2.1.1.1
 unfold JP at hp
 simp only [YC,Yc,QaY] at hp
 have ha:=Qbi a.1
 refine Zj a.1 (fun r k=>∀ (v:List (List Int)) (z:Bool),v.length=k→v++(Zg r (b.1.drop k)).1=(Zg a.1 b.1).1→(z||(Zg r (b.1.drop k)).2)=(a.2.2||b.2.2||(Zg a.1 b.1).2)→Qgt (fun r'=>r'=QaB (Yl a b)) a b k v z) ?_ ?_ [] _ rfl (by simp) (by simp)
 ·intro v z hv he hz
  refine QjO (fun r'=>r'=QaB (Yl a b)) a b _ _ _ ⟨fun h=>by simp at h,fun _=>R_eq ?_⟩
  unfold Yl;rw [← he,← hz];simp [Zg]
 ·intro k x r hk hlt hg ih v z hv he hz
  by_cases hkb:k<b.1.length
  ·obtain ⟨y,q,hq⟩:=QbJ (l:=b.1) (k:=k) hkb
   have hx:=Qs7 hk
   have hxl:=Ja x
   refine QjO (fun r'=>r'=QaB (Yl a b)) a b _ _ _ ⟨fun _=>?_,fun h=>by simp at h;omega⟩
   rw [List.take_length]
   refine Zj x (fun r2 j=>∀ (w:List Int) (z2:Bool),w.length=j→w++(vz Zi r2 (y.drop j)).1=(vz Zi x y).1→(z2||(vz Zi r2 (y.drop j)).2)=(z||(vz Zi x y).2)→QgC (fun r'=>r'=QaB (Yl a b)) a b j z2 w k v) ?_ ?_ [] z rfl (by simp) (by simp)
   ·intro w z2 hw he2 hz2
    refine Quz (fun r'=>r'=QaB (Yl a b)) a b _ _ _ _ _ ?_
    rw [Int.toNat_natCast,hg,Y3 hq]
    refine ⟨⟨⟨by omega,hlt⟩,fun h=>by simp at h⟩,fun h=>by simp at h,fun _=>⟨room (by omega),?_⟩⟩
    rw [QlS,sc1 (by omega),Zv]
    simp only [vz,List.append_nil,Bool.or_false] at he2 hz2
    refine ih _ _ (JQ hv) ?_ ?_
    ·rw [← he,hq,Zg,YS hq,he2];simp
    ·rw [← hz,hq,Zg,YS hq,hz2];simp [Bool.or_assoc]
   ·intro j e r2 hj hlt2 hg2 ih2 w z2 hw he2 hz2
    refine Quz (fun r'=>r'=QaB (Yl a b)) a b _ _ _ _ _ ?_
    rw [Int.toNat_natCast,Int.toNat_natCast,hg,Y3 hq]
    by_cases hjy:j<y.length
    ·obtain ⟨f,q2,hq2⟩:=QbJ (l:=y) (k:=j) hjy
     refine ⟨⟨⟨by omega,hlt⟩,fun _=>⟨by omega,hkb⟩⟩,fun _=>?_,fun h=>by simp at h;omega⟩
     rw [hg2,Y3 hq2,sc1 (by omega),Zv,List.take_length]
     refine ⟨⟨⟨by omega,hlt⟩,⟨by omega,hlt2⟩,⟨by omega,hkb⟩,by omega,hjy⟩,room (by omega),ih2 _ _ (JQ hw) ?_ ?_⟩
     ·rw [← he2,hq2,vz,YS hq2];simp
     ·rw [← hz2,hq2,vz,YS hq2];simp [Bool.or_assoc]
    ·refine ⟨⟨⟨by omega,hlt⟩,fun _=>⟨by omega,hkb⟩⟩,fun h=>by simp at h;omega,fun _=>⟨room (by omega),?_⟩⟩
     rw [QlS,sc1 (by omega),Zv]
     rw [Qwg (l:=y) (by omega)] at he2 hz2
     simp only [vz,List.append_nil,Bool.or_false] at he2 hz2
     refine ih _ _ (JQ hv) ?_ ?_
     ·rw [← he,hq,Zg,YS hq,he2];simp
     ·rw [← hz,hq,Zg,YS hq,hz2];simp [Bool.or_assoc]
  ·refine QjO (fun r'=>r'=QaB (Yl a b)) a b _ _ _ ⟨fun h=>by simp at h;omega,fun _=>R_eq ?_⟩
   unfold Yl;rw [← he,← hz,Qwg (l:=b.1) (by omega)];simp [Zg]
theorem QDs:Qi Tryz.prog QlC:=Qm fun x h=>QHr x.1 x.2.1 h
end
end Go.Proofs.YtjbdljkhbglnhaaGreat.Am

