/- -/
import Derived.Test.YtjbdljkhbglnhaaGreatZHPF
import Derived.Test.YtjbdljkhbglnhaaGreatZHP4
namespace Go.Proofs.YtjbdljkhbglnhaaGreat.Am
open Go Go.RowKit Go.Proofs.YtjbdljkhbglnhaaGreat
set_option linter.all false
noncomputable section
variable (K:TRes→Prop)
def QcS (t:(List TOp')):TRes:=zra (zcs ctOp t)
def Qg8:TRow:=Qg 151 [(.c (.sl ctOp))] fun x=>(some (QI (α:=List TOp') x.1),QcS (id (α:=List TOp') x.1))
def QjL:List TRow:=[Qab]
def Quu:TCode :=
 (zsq [(.reg [zbi 10 .lss 9 8]),(.cond 10 .skip (.exit 0)),(.block 1 (zsq [(.reg [zia 11 7 9 ctOp,zLd 12 11 4,zop 5 (.new 69 (z0s ctOp)),zst 5 12 4]),(.draw [zmv 13 3,zfa 14 5 0,zld 15 14 1,zfa 16 5 1,zld 17 16 1,zfa 18 5 2,zld 19 18 1,zfa 20 5 3,zld 21 20 1,zca 22 119 [21],zop 23 (.build (z0s ctOp) [(0,1,15),(1,1,17),(2,1,19),(3,1,22)]),zop 24 (.bsl 69 ctOp [23]),zop 25 (.app 13 24 69 ctOp),zmv 3 25] [(1,9),(2,9),(3,9),(4,9),(5,9),(6,9)])])),(.reg [zbi 26 .add 9 (zki 1),zmv 9 26])])
def Qww:List (Nat × Md):=[(3,.one .f),(7,.one .d),(8,.one .d),(9,.one .d)]
def Qv4:TCode :=
 (zsq [(.reg [zmv 27 3,zmv 2 27]),.ret])
def QK3:TCode :=
 (zsq [(.reg [zmv 2 (.k (.n ctOp))]),(.reg [zop 6 (.bsl 69 ctOp []),zmv 3 6]),(zsq [(.reg [zmv 7 0,zle 8 7,zmv 9 (zki 0)]),(.block 0 (.loop Qww Quu))]),Qv4])
def Qp0:List (ARv × Md):=[(.t 2,.one .d)]
def Quo:Qb:=TQ 0 0 Qp0 K
def QAO:Qb:=Qseq (tawp QjL 0 Qv4 (Quo K)) (Quo K)
def QDQ:Qb:=Qblk 0 (QAO K)
def QmE (l:List TOp') (x:Int) (ops:List TOp'):Prop:=Loop QjL 0 Qww Quu (QDQ K) ⟨[(3,(.r ctOp 0 0 ops.length)),(7,(zcs ctOp l)),(8,(zci (l.length:Int))),(9,(zci x))],[(0,(.sl 69 ctOp true ops))],1⟩
theorem Qrj (l:List TOp') (x:Int) (ops:List TOp') (h :
 (zif (decide (x<(l.length:Int))) (((0:Int)≤x∧Int.toNat x<l.length)∧(((QI (α:=List Int) ((gtd dOp l (Int.toNat x)).2.2.2))∧((ops.length=ops.length∨ops.length+1≤ops.length)∧ops.length+1≤big))∧(QmE K l (w64 (x+(1:Int))) (List.take (ops.length+1) ((List.take ops.length ops)++([((gtd dOp l (Int.toNat x)).1,(gtd dOp l (Int.toNat x)).2.1,(gtd dOp l (Int.toNat x)).2.2.1,(List.take ((id (α:=List Int) ((gtd dOp l (Int.toNat x)).2.2.2)).length) (List.drop 0 (id (α:=List Int) ((gtd dOp l (Int.toNat x)).2.2.2)))))])))))) (K (QcS (List.take ops.length (List.drop 0 ops)))))):QmE K l x ops :=
 Loop.of (by kernel_rfl) h
theorem QIe (l:List TOp') (h :
 (QmE K l 0 ([]:List TOp'))):Hold (tawp QjL (0+0) QK3 (TQ 0 0 Qp0 K) (Qf [(.c (.sl ctOp) l)])) :=
 Hold.of (by kernel_rfl) h
theorem QIr (l:List TOp') (hp:QI (α:=List TOp') l):TCon Tryz.prog 151 [(.c (.sl ctOp) l)] (QcS (id (α:=List TOp') l)):=by
 refine Qq rfl fun hb=>tcg (n:=28) (sg:=Qg8.sg) Qj (TOk.cons Qbk TOk.nil) (by kernel_rfl) (by kernel_rfl) (QIe _ l ?_)
 have hl_l:l.length≤9223372036854775807:=hb.1.1
 refine Qca (Q:=fun z=>QcS z=QcS (id (α:=List TOp') l)) hp (fun k x v hk hl hg hv hx ih=>?_) (fun hq=>?_) (R_eq rfl)
 ·refine Qrj (fun r'=>r'=QcS (id (α:=List TOp') l)) l _ _ ⟨fun _=>?_,fun h=>by simp at h;omega⟩
  try simp only [YB,Yb,Qa3] at hx
  rw [Int.toNat_natCast,hg,sc1 (by omega),Zq,QdO]
  exact ⟨⟨by omega,hk⟩,⟨(show Sz.sz (_:List Int)≤2147483648 by omega),room (by omega)⟩,ih⟩
 ·refine Qrj (fun r'=>r'=QcS (id (α:=List TOp') l)) l _ _ ⟨fun h=>by simp at h,fun _=>?_⟩
  exact R_eq (by simp)
theorem QvN:Qh Tryz.prog Qg8:=Qk fun x h=>QIr x.1 h
def Qc0 (t:(List (List Int))):TRes:=zra (zcs [(.sl [TI])] t)
def Qdu:TRow:=Qg 86 [(.c (.sl [(.sl [TI])]))] fun x=>(some (QI (α:=List (List Int)) x.1),Qc0 (id (α:=List (List Int)) x.1))
def Qjb:List TRow:=[Qab]
def Qv7:TCode :=
 (zsq [(.reg [zbi 10 .lss 9 8]),(.cond 10 .skip (.exit 0)),(.block 1 (zsq [(.reg [zia 11 7 9 [(.sl [TI])],zLd 12 11 1,zop 5 (.new 129 [(.n [TI])]),zst 5 12 1]),(.reg [zmv 13 3,zfa 14 5 0,zld 15 14 1,zca 16 119 [15],zop 17 (.build [(.n [TI])] [(0,1,16)]),zop 18 (.bsl 129 [(.sl [TI])] [17]),zop 19 (.app 13 18 129 [(.sl [TI])]),zmv 3 19])])),(.reg [zbi 20 .add 9 (zki 1),zmv 9 20])])
def QzW:List (Nat × Md):=[(3,.one .f),(7,.one .d),(8,.one .d),(9,.one .d)]
def QvR:TCode :=
 (zsq [(.reg [zmv 21 3,zmv 2 21]),.ret])
def QQw:TCode :=
 (zsq [(.reg [zmv 2 (.k (.n [(.sl [TI])]))]),(.reg [zop 6 (.bsl 129 [(.sl [TI])] []),zmv 3 6]),(zsq [(.reg [zmv 7 0,zle 8 7,zmv 9 (zki 0)]),(.block 0 (.loop QzW Qv7))]),QvR])
def Qza:List (ARv × Md):=[(.t 2,.one .d)]
def QoJ:Qb:=TQ 0 0 Qza K
def QET:Qb:=Qseq (tawp Qjb 0 QvR (QoJ K)) (QoJ K)
def QFG:Qb:=Qblk 0 (QET K)
def QjI (l:List (List Int)) (x:Int) (rows:List (List Int)):Prop:=Loop Qjb 0 QzW Qv7 (QFG K) ⟨[(3,(.r [(.sl [TI])] 0 0 rows.length)),(7,(zcs [(.sl [TI])] l)),(8,(zci (l.length:Int))),(9,(zci x))],[(0,(.sl 129 [(.sl [TI])] true rows))],1⟩
theorem Qy5 (l:List (List Int)) (x:Int) (rows:List (List Int)) (h :
 (zif (decide (x<(l.length:Int))) (((0:Int)≤x∧Int.toNat x<l.length)∧(((QI (α:=List Int) (gtd ([]:List Int) l (Int.toNat x)))∧((rows.length=rows.length∨rows.length+1≤rows.length)∧rows.length+1≤big))∧(QjI K l (w64 (x+(1:Int))) (List.take (rows.length+1) ((List.take rows.length rows)++([(List.take ((id (α:=List Int) (gtd ([]:List Int) l (Int.toNat x))).length) (List.drop 0 (id (α:=List Int) (gtd ([]:List Int) l (Int.toNat x)))))])))))) (K (Qc0 (List.take rows.length (List.drop 0 rows)))))):QjI K l x rows :=
 Loop.of (by kernel_rfl) h
theorem QPL (l:List (List Int)) (h :
 (QjI K l 0 ([]:List (List Int)))):Hold (tawp Qjb (0+0) QQw (TQ 0 0 Qza K) (Qf [(.c (.sl [(.sl [TI])]) l)])) :=
 Hold.of (by kernel_rfl) h
theorem QFo (l:List (List Int)) (hp:QI (α:=List (List Int)) l):TCon Tryz.prog 86 [(.c (.sl [(.sl [TI])]) l)] (Qc0 (id (α:=List (List Int)) l)):=by
 refine Qq rfl fun hb=>tcg (n:=22) (sg:=Qdu.sg) Qj (TOk.cons Qbk TOk.nil) (by kernel_rfl) (by kernel_rfl) (QPL _ l ?_)
 have hl_l:l.length≤9223372036854775807:=hb.1.1
 refine Qca (Q:=fun z=>Qc0 z=Qc0 (id (α:=List (List Int)) l)) hp (fun k x v hk hl hg hv hx ih=>?_) (fun hq=>?_) (R_eq rfl)
 ·refine Qy5 (fun r'=>r'=Qc0 (id (α:=List (List Int)) l)) l _ _ ⟨fun _=>?_,fun h=>by simp at h;omega⟩
  try simp only [YB,Yb,Qa3] at hx
  rw [Int.toNat_natCast,hg,sc1 (by omega),Zq,QdO]
  exact ⟨⟨by omega,hk⟩,⟨(show Sz.sz (_:List Int)≤2147483648 by omega),room (by omega)⟩,ih⟩
 ·refine Qy5 (fun r'=>r'=Qc0 (id (α:=List (List Int)) l)) l _ _ ⟨fun h=>by simp at h,fun _=>?_⟩
  exact R_eq (by simp)
theorem Qf8:Qh Tryz.prog Qdu:=Qk fun x h=>QFo x.1 h
def Qck (t:(List Qd)):TRes:=zra (zcs QB t)
def Qh0:TRow:=Qg 70 [(.c (.sl QB))] fun x=>(some (QI (α:=List Qd) x.1),Qck (id (α:=List Qd) x.1))
def Qky:List TRow:=[Qab]
def Qxh:TCode :=
 (zsq [(.reg [zbi 10 .lss 9 8]),(.cond 10 .skip (.exit 0)),(.block 1 (zsq [(.reg [zia 11 7 9 QB,zLd 12 11 2,zop 5 (.new 108 (z0s QB)),zst 5 12 2]),(.draw [zmv 13 3,zfa 14 5 0,zld 15 14 1,zca 16 119 [15],zfa 17 5 1,zld 18 17 1,zca 19 119 [18],zop 20 (.build (z0s QB) [(0,1,16),(1,1,19)]),zop 21 (.bsl 108 QB [20]),zop 22 (.app 13 21 108 QB),zmv 3 22] [(3,4),(3,5)])])),(.reg [zbi 23 .add 9 (zki 1),zmv 9 23])])
def QqQ:List (Nat × Md):=[(3,.one .f),(7,.one .d),(8,.one .d),(9,.one .d)]
def Qzp:TCode :=
 (zsq [(.reg [zmv 24 3,zmv 2 24]),.ret])
def QIX:TCode :=
 (zsq [(.reg [zmv 2 (.k (.n QB))]),(.reg [zop 6 (.bsl 108 QB []),zmv 3 6]),(zsq [(.reg [zmv 7 0,zle 8 7,zmv 9 (zki 0)]),(.block 0 (.loop QqQ Qxh))]),Qzp])
def QzK:List (ARv × Md):=[(.t 2,.one .d)]
def Qys:Qb:=TQ 0 0 QzK K
def QOo:Qb:=Qseq (tawp Qky 0 Qzp (Qys K)) (Qys K)
def QMd:Qb:=Qblk 0 (QOo K)
def Qke (b:List Qd) (x:Int) (Yw:List Qd):Prop:=Loop Qky 0 QqQ Qxh (QMd K) ⟨[(3,(.r QB 0 0 Yw.length)),(7,(zcs QB b)),(8,(zci (b.length:Int))),(9,(zci x))],[(0,(.sl 108 QB true Yw))],1⟩
theorem QxO (b:List Qd) (x:Int) (Yw:List Qd) (h :
 (zif (decide (x<(b.length:Int))) (((0:Int)≤x∧Int.toNat x<b.length)∧(((QI (α:=List Int) ((gtd Zn b (Int.toNat x)).1))∧((QI (α:=List Int) ((gtd Zn b (Int.toNat x)).2))∧((Yw.length=Yw.length∨Yw.length+1≤Yw.length)∧Yw.length+1≤big)))∧(Qke K b (w64 (x+(1:Int))) (List.take (Yw.length+1) ((List.take Yw.length Yw)++([((List.take ((id (α:=List Int) ((gtd Zn b (Int.toNat x)).1)).length) (List.drop 0 (id (α:=List Int) ((gtd Zn b (Int.toNat x)).1)))),(List.take ((id (α:=List Int) ((gtd Zn b (Int.toNat x)).2)).length) (List.drop 0 (id (α:=List Int) ((gtd Zn b (Int.toNat x)).2)))))])))))) (K (Qck (List.take Yw.length (List.drop 0 Yw)))))):Qke K b x Yw :=
 Loop.of (by kernel_rfl) h
theorem QHZ (b:List Qd) (h :
 (Qke K b 0 ([]:List Qd))):Hold (tawp Qky (0+0) QIX (TQ 0 0 QzK K) (Qf [(.c (.sl QB) b)])) :=
 Hold.of (by kernel_rfl) h
theorem QGA (b:List Qd) (hp:QI (α:=List Qd) b):TCon Tryz.prog 70 [(.c (.sl QB) b)] (Qck (id (α:=List Qd) b)):=by
 refine Qq rfl fun hb=>tcg (n:=25) (sg:=Qh0.sg) Qj (TOk.cons Qbk TOk.nil) (by kernel_rfl) (by kernel_rfl) (QHZ _ b ?_)
 have hl_b:b.length≤9223372036854775807:=hb.1.1
 refine Qca (Q:=fun z=>Qck z=Qck (id (α:=List Qd) b)) hp (fun k x v hk hl hg hv hx ih=>?_) (fun hq=>?_) (R_eq rfl)
 ·refine QxO (fun r'=>r'=Qck (id (α:=List Qd) b)) b _ _ ⟨fun _=>?_,fun h=>by simp at h;omega⟩
  try simp only [YB,Yb,Qa3] at hx
  rw [Int.toNat_natCast,hg,sc1 (by omega),Zq,QdO,QdO]
  exact ⟨⟨by omega,hk⟩,⟨(show Sz.sz (_:List Int)≤2147483648 by omega),(show Sz.sz (_:List Int)≤2147483648 by omega),room (by omega)⟩,ih⟩
 ·refine QxO (fun r'=>r'=Qck (id (α:=List Qd) b)) b _ _ ⟨fun h=>by simp at h,fun _=>?_⟩
  exact R_eq (by simp)
theorem Qxl:Qh Tryz.prog Qh0:=Qk fun x h=>QGA x.1 h
def Qkd (t:QZ):TRes:=zra (.a (Tup.cells Zd t))
def Qmn:TRow:=Qg 184 [(.a Zd)] fun x=>(some (QI (α:=QZ) x.1),Qkd (id (α:=QZ) x.1))
def QEM:List TRow:=[Qdu]
def QOc:TCode :=
 (zsq [(.reg [zop 1 (.box 46 0 3),zop 2 (.new 46 (z0s Zd))]),(.draw [zfa 3 1 0,zld 4 3 1,zca 5 86 [4],zfa 6 1 1,zld 7 6 1,zfa 8 1 2,zld 9 8 1,zop 10 (.build (z0s Zd) [(0,1,5),(1,1,7),(2,1,9)]),zst 2 10 3] [(2,3),(2,4),(2,5),(2,6)]),.ret])
def QDp:List (ARv × Md):=[(.l 2 3 true,.b [.d,.d,.d])]
theorem QNy (g:QZ) (h :
 ((QI (α:=List (List Int)) g.1)∧K (Qkd ((id (α:=List (List Int)) g.1),g.2.1,g.2.2)))):Hold (tawp QEM (0+0) QOc (TQ 0 0 QDp K) (Qf [(.a (Tup.cells Zd g))])) :=
 Hold.of (by kernel_rfl) h
theorem QGi (g:QZ) (hp:QI (α:=QZ) g):TCon Tryz.prog 184 [(.a (Tup.cells Zd g))] (Qkd (id (α:=QZ) g)):=by
 refine Qq rfl fun hb=>tcg (n:=11) (sg:=Qmn.sg) Qj (TOk.cons Qf8 TOk.nil) (by kernel_rfl) (by kernel_rfl) (QNy _ g ?_)
 have hl_g_0:(g.1).length≤9223372036854775807:=hb.1.1.1
 unfold QI at hp
 simp only [YB,Yb,Qa3] at hp
 exact ⟨hp,R_eq rfl⟩
theorem QQu:Qh Tryz.prog Qmn:=Qk fun x h=>QGi x.1 h
def Qcz (t:QZ):TRes:=zra (.a (Tup.cells Zd t))
def QjE:TRow:=Qg 88 [(.a [(.sl ctOp)])] fun x=>(none,Qcz (ZU x.1))
def QlD:List TRow:=[J6]
def QqA:TCode :=
 (zsq [(.reg [zbi 15 .lss 14 13]),(.cond 15 .skip (.exit 0)),(.block 1 (zsq [(.reg [zia 16 12 14 ctOp,zLd 17 16 4,zop 5 (.new 69 (z0s ctOp)),zst 5 17 4]),(.draw [zfa 18 3 0,zld 19 18 1,zfa 20 5 3,zld 21 20 1,zle 22 21,zop 23 (.mk 3 [TI] [(zci 0)] 22),zop 24 (.build [(.n [TI])] [(0,1,23)]),zop 25 (.bsl 129 [(.sl [TI])] [24]),zop 26 (.app 19 25 129 [(.sl [TI])]),zfa 27 3 0,zst 27 26 1] [(0,5),(1,5),(0,7),(1,7)])])),(.reg [zbi 28 .add 14 (zki 1),zmv 14 28])])
def Qsj:List (Nat × Md):=[(2,.b [.d,.d,.d]),(3,.b [.o 129,.d,.d]),(12,.one .d),(13,.one .d),(14,.one .d)]
def Qu1:TCode :=
 (zsq [(.reg [zLd 29 3 3,zst 2 29 3]),.ret])
def QOw:TCode :=
 (zsq [(.reg [zop 1 (.box 26 0 1),zop 2 (.new 46 (z0s Zd))]),(zsq [(.reg [zLd 6 1 1,zca 7 131 [6],zno 8 7]),(.cond 8 (zsq [(.reg [zop 9 (.build (z0s Zd) []),zst 2 9 3]),.ret]) .skip)]),(.reg [zop 10 (.build (z0s Zd) []),zop 3 (.new 46 (z0s Zd)),zst 3 10 3]),(zsq [(.reg [zfa 11 1 0,zld 12 11 1,zle 13 12,zmv 14 (zki 0)]),(.block 0 (.loop Qsj QqA))]),Qu1])
def Qup:List (ARv × Md):=[(.l 2 3 true,.b [.d,.d,.d])]
def Qqg:Qb:=TQ 0 0 Qup K
def QQ5:Qb:=Qseq (tawp QlD 0 Qu1 (Qqg K)) (Qqg K)
def QFT:Qb:=Qblk 0 (QQ5 K)
def QfS (m:List TOp') (x:Int) (g0:List (List Int)):Prop:=Loop QlD 0 Qsj QqA (QFT K) ⟨[(2,(.p 0 0 0)),(3,(.p 2 0 0)),(12,(zcs ctOp m)),(13,(zci (m.length:Int))),(14,(zci x))],[(0,(.box (Tup.cells Zd ([],(0:Int),false)))),(1,(.sl 129 [(.sl [TI])] true g0)),(2,(.box [(.r [(.sl [TI])] 1 0 g0.length),(zci 0),(zcb false)]))],3⟩
theorem QuI (m:List TOp') (x:Int) (g0:List (List Int)) (h :
 (zif (decide (x<(m.length:Int))) (((0:Int)≤x∧Int.toNat x<m.length)∧((((0:Int)≤(((gtd dOp m (Int.toNat x)).2.2.2).length:Int)∧(((gtd dOp m (Int.toNat x)).2.2.2).length:Int)≤big)∧((g0.length=g0.length∨g0.length+1≤g0.length)∧g0.length+1≤big))∧(QfS K m (w64 (x+(1:Int))) (List.take (g0.length+1) ((List.take g0.length g0)++([(List.take (Int.toNat (((gtd dOp m (Int.toNat x)).2.2.2).length:Int)) (List.drop 0 (List.replicate (Int.toNat (((gtd dOp m (Int.toNat x)).2.2.2).length:Int)) (0:Int))))])))))) (K (Qcz ((List.take g0.length (List.drop 0 g0)),(0:Int),false))))):QfS K m x g0 :=
 Loop.of (by kernel_rfl) h
theorem QNI (m:List TOp') (h :
 (zif (!(Qw m)) (K (Qcz ([],(0:Int),false))) (QfS K m 0 ([]:List (List Int))))):Hold (tawp QlD (0+0) QOw (TQ 0 0 Qup K) (Qf [(.a [(.c (.sl ctOp) m)])])) :=
 Hold.of (by kernel_rfl) h
theorem QMe (m:List TOp'):TCon Tryz.prog 88 [(.a [(.c (.sl ctOp) m)])] (Qcz (ZU m)):=by
 refine Qq rfl fun hb=>tcg (n:=30) (sg:=QjE.sg) Qj (TOk.cons QaP TOk.nil) (by kernel_rfl) (by kernel_rfl) (QNI _ m ?_)
 have hl_m_0:(m).length≤9223372036854775807:=hb.1.1.1
 refine ⟨fun h=>R_eq (by unfold ZU;rw [if_neg (by simpa using h)]),fun h=>?_⟩
 have hm:Qw m=true:=by simpa using h
 have hl:=Yx hm
 have hv:(ZU m)=(m.map fun o=>List.replicate o.2.2.2.length (0:Int),0,false):=by unfold ZU;rw [if_pos hm]
 refine ZL m (fun r k=>∀ v:List (List Int),v.length=k→v++r.map (fun o=>List.replicate o.2.2.2.length (0:Int))=m.map (fun o=>List.replicate o.2.2.2.length (0:Int))→QfS (fun r'=>r'=Qcz (ZU m)) m k v) ?_ ?_ [] rfl rfl
 ·intro v hk he
  refine QuI (fun r'=>r'=Qcz (ZU m)) m _ _ ⟨fun h=>by simp at h,fun _=>R_eq ?_⟩
  rw [hv,← he];simp
 ·intro k x r hk hlt hg ih v hvl he
  have ho:=QnD (Qel hm hlt)
  rw [hg] at ho
  refine QuI (fun r'=>r'=Qcz (ZU m)) m _ _ ⟨fun _=>?_,fun h=>by simp [hm] at h;omega⟩
  rw [Int.toNat_natCast,hg,sc1 (by omega),Int.toNat_natCast,Zq,QL3]
  refine ⟨⟨by omega,hlt⟩,⟨⟨by omega,by rw [bigI];omega⟩,room (by omega)⟩,ih _ (JX hvl) ?_⟩
  rw [← he];simp
theorem QLG:Qh Tryz.prog QjE:=Qk fun x _=>QMe x.1
def QaB (t:QZ):TRes:=zra (.a (Tup.cells Zd t))
def QlV:TRow:=Qg 89 [(.a Zd),(.a Zd)] fun x=>(some (JR (α:=QZ) (β:=QZ) x.1 x.2.1),QaB (Ym x.1 x.2.1))
def QcW:List TRow:=[Qed]
def QrC:TCode :=
 (zsq [(zsq [(.reg [zmv 35 8,zfa 36 2 0,zld 37 36 1,zmv 38 6,zia 39 37 38 [(.sl [TI])],zfa 40 39 0,zld 41 40 1,zle 42 41,zbi 43 .lss 35 42,zmv 44 43,.grp 44 true [zmv 45 8,zfa 46 3 0,zld 47 46 1,zmv 48 6,zia 49 47 48 [(.sl [TI])],zfa 50 49 0,zld 51 50 1,zle 52 51,zbi 53 .lss 45 52] 54 53]),(.cond 54 .skip (.exit 2))]),(.block 3 (zsq [(.draw [zfa 58 2 0,zld 59 58 1,zmv 60 6,zia 61 59 60 [(.sl [TI])],zfa 62 61 0,zld 63 62 1,zmv 64 8,zia 65 63 64 [TI],zld 66 65 1,zfa 67 3 0,zld 68 67 1,zmv 69 6,zia 70 68 69 [(.sl [TI])],zfa 71 70 0,zld 72 71 1,zmv 73 8,zia 74 72 73 [TI],zld 75 74 1,zca 76 121 [66,75],zmv 57 76,zex 77 57 0,zex 78 57 1,zmv 9 77,zmv 10 78] []),(.reg [zfa 79 7 0,zld 80 79 1,zmv 81 9,zop 82 (.bsl 3 [TI] [81]),zop 83 (.app 80 82 3 [TI]),zfa 84 7 0,zst 84 83 1]),(.reg [zfa 85 5 2,zld 86 85 1,zmv 87 86,.grp 87 false [zmv 88 10] 89 88,zfa 90 5 2,zst 90 89 1])])),(.reg [zmv 55 8,zbi 56 .add 55 (zki 1),zmv 8 56])])
def Qrp:List (Nat × Md):=[(2,.b [.d,.d,.d]),(3,.b [.d,.d,.d]),(4,.b [.d,.d,.d]),(5,.b [.f,.d,.d]),(6,.one .d),(7,.b [.o 3]),(8,.one .d)]
def Qvl:TCode :=
 (.reg [zfa 91 5 0,zld 92 91 1,zLd 93 7 1,zop 94 (.bsl 129 [(.sl [TI])] [93]),zop 95 (.app 92 94 129 [(.sl [TI])]),zfa 96 5 0,zst 96 95 1])
def QsD:TCode :=
 (.reg [zmv 32 6,zbi 33 .add 32 (zki 1),zmv 6 33])
def QjF:TCode :=
 (zsq [(zsq [(.reg [zmv 20 6,zfa 21 2 0,zld 22 21 1,zle 23 22,zbi 24 .lss 20 23,zmv 25 24,.grp 25 true [zmv 26 6,zfa 27 3 0,zld 28 27 1,zle 29 28,zbi 30 .lss 26 29] 31 30]),(.cond 31 .skip (.exit 0))]),(.block 1 (zsq [(.reg [zop 34 (.build [(.n [TI])] []),zop 7 (.new 129 [(.n [TI])]),zst 7 34 1]),(zsq [(.reg [zmv 8 (zki 0)]),(.block 2 (.loop Qrp QrC))]),Qvl])),QsD])
def Qiu:List (Nat × Md):=[(2,.b [.d,.d,.d]),(3,.b [.d,.d,.d]),(4,.b [.d,.d,.d]),(5,.b [.o 129,.d,.d]),(6,.one .d)]
def Qxm:TCode :=
 (zsq [(.reg [zfa 98 2 1,zld 99 98 1,zfa 100 3 1,zld 101 100 1,zca 102 121 [99,101],zmv 97 102,zex 103 97 0,zex 104 97 1,zmv 11 103,zmv 12 104]),(.reg [zmv 105 11,zfa 106 5 1,zst 106 105 1]),(.reg [zfa 107 5 2,zld 108 107 1,zmv 109 108,.grp 109 false [zmv 110 12] 111 110,zfa 112 5 2,zst 112 111 1]),(.reg [zLd 113 5 3,zst 4 113 3]),.ret])
def QL6:TCode :=
 (zsq [(.reg [zop 2 (.box 46 0 3),zop 3 (.box 46 1 3),zop 4 (.new 46 (z0s Zd))]),(.reg [zfa 13 2 2,zld 14 13 1,zmv 15 14,.grp 15 false [zfa 16 3 2,zld 17 16 1] 18 17,zop 19 (.build (z0s Zd) [(2,1,18)]),zop 5 (.new 46 (z0s Zd)),zst 5 19 3]),(zsq [(.reg [zmv 6 (zki 0)]),(.block 0 (.loop Qiu QjF))]),Qxm])
def QsH:List (ARv × Md):=[(.l 4 3 true,.b [.d,.d,.d])]
def QuL:Qb:=TQ 0 0 QsH K
def QDV:Qb:=Qseq (tawp QcW 0 Qxm (QuL K)) (QuL K)
def QlB:Qb:=Qblk 0 (QDV K)
def Qw0:Qb:=Qseq (fun s'=>Loop QcW 0 Qiu QjF (QlB K) (gc 0 Qiu s')) (QlB K)
def QA0:Qb:=Qseq (tawp QcW 0 QsD (Qw0 K)) (Qw0 K)
def Qyv:Qb:=Qblk 1 (QA0 K)
def QME:Qb:=Qseq (tawp QcW 0 Qvl (Qyv K)) (Qyv K)
def QFK:Qb:=Qblk 2 (QME K)
def Qh8 (a:QZ) (b:QZ) (k:Int) (g2:Bool) (row0:List Int) (i:Int) (g01:List (List Int)):Prop:=Loop QcW 0 Qrp QrC (QFK K) ⟨[(2,(.p 0 0 0)),(3,(.p 1 0 0)),(4,(.p 2 0 0)),(5,(.p 4 0 0)),(6,(zci i)),(7,(.p 6 0 0)),(8,(zci k))],[(0,(.box (Tup.cells Zd a))),(1,(.box (Tup.cells Zd b))),(2,(.box (Tup.cells Zd ([],(0:Int),false)))),(3,(.sl 129 [(.sl [TI])] true g01)),(4,(.box [(.r [(.sl [TI])] 3 0 g01.length),(zci 0),(zcb g2)])),(5,(.sl 3 [TI] true row0)),(6,(.box [(.r [TI] 5 0 row0.length)]))],7⟩
def QgI (a:QZ) (b:QZ) (i:Int) (g0:List (List Int)) (g21:Bool):Prop:=Loop QcW 0 Qiu QjF (QlB K) ⟨[(2,(.p 0 0 0)),(3,(.p 1 0 0)),(4,(.p 2 0 0)),(5,(.p 4 0 0)),(6,(zci i))],[(0,(.box (Tup.cells Zd a))),(1,(.box (Tup.cells Zd b))),(2,(.box (Tup.cells Zd ([],(0:Int),false)))),(3,(.sl 129 [(.sl [TI])] true g0)),(4,(.box [(.r [(.sl [TI])] 3 0 g0.length),(zci 0),(zcb g21)]))],5⟩
theorem QrG (a:QZ) (b:QZ) (k:Int) (g2:Bool) (row0:List Int) (i:Int) (g01:List (List Int)) (h :
 ((((0:Int)≤i∧Int.toNat i<(a.1).length)∧((decide (k<((gtd ([]:List Int) a.1 (Int.toNat i)).length:Int)))=true→((0:Int)≤i∧Int.toNat i<(b.1).length)))∧(zif ((decide (k<((gtd ([]:List Int) a.1 (Int.toNat i)).length:Int)))&&(decide (k<((gtd ([]:List Int) b.1 (Int.toNat i)).length:Int)))) ((((0:Int)≤i∧Int.toNat i<(a.1).length)∧(((0:Int)≤k∧Int.toNat k<(gtd ([]:List Int) a.1 (Int.toNat i)).length)∧(((0:Int)≤i∧Int.toNat i<(b.1).length)∧((0:Int)≤k∧Int.toNat k<(gtd ([]:List Int) b.1 (Int.toNat i)).length))))∧(((row0.length=row0.length∨row0.length+1≤row0.length)∧row0.length+1≤big)∧(Qh8 K a b (w64 (k+(1:Int))) (g2||((Zl (gtd (0:Int) (gtd ([]:List Int) a.1 (Int.toNat i)) (Int.toNat k)) (gtd (0:Int) (gtd ([]:List Int) b.1 (Int.toNat i)) (Int.toNat k))).2)) (List.take (row0.length+1) ((List.take row0.length row0)++([(Zl (gtd (0:Int) (gtd ([]:List Int) a.1 (Int.toNat i)) (Int.toNat k)) (gtd (0:Int) (gtd ([]:List Int) b.1 (Int.toNat i)) (Int.toNat k))).1]))) i (List.take g01.length g01)))) (((g01.length=g01.length∨g01.length+1≤g01.length)∧g01.length+1≤big)∧(QgI K a b (w64 (i+(1:Int))) (List.take (g01.length+1) ((List.take g01.length g01)++([(List.take row0.length (List.drop 0 row0))]))) g2))))):Qh8 K a b k g2 row0 i g01 :=
 Loop.of (by kernel_rfl) h
theorem QmO (a:QZ) (b:QZ) (i:Int) (g0:List (List Int)) (g21:Bool) (h :
 (zif ((decide (i<((a.1).length:Int)))&&(decide (i<((b.1).length:Int)))) (Qh8 K a b 0 g21 ([]:List Int) i (List.take g0.length g0)) (K (QaB ((List.take g0.length (List.drop 0 g0)),(Zl a.2.1 b.2.1).1,(g21||((Zl a.2.1 b.2.1).2))))))):QgI K a b i g0 g21 :=
 Loop.of (by kernel_rfl) h
theorem QCy (a:QZ) (b:QZ) (h :
 (QgI K a b 0 ([]:List (List Int)) (a.2.2||b.2.2))):Hold (tawp QcW (0+0) QL6 (TQ 0 0 QsH K) (Qf [(.a (Tup.cells Zd a)),(.a (Tup.cells Zd b))])) :=
 Hold.of (by kernel_rfl) h
theorem QJX (a:QZ) (b:QZ) (hp:JR (α:=QZ) (β:=QZ) a b):TCon Tryz.prog 89 [(.a (Tup.cells Zd a)),(.a (Tup.cells Zd b))] (QaB (Ym a b)):=by
 refine Qq rfl fun hb=>tcg (n:=114) (sg:=QlV.sg) Qj (TOk.cons QgW TOk.nil) (by kernel_rfl) (by kernel_rfl) (QCy _ a b ?_)
 have hl_a_0:(a.1).length≤9223372036854775807:=hb.1.1.1
 have hl_b_0:(b.1).length≤9223372036854775807:=hb.2.1.1.1
 unfold JR at hp
 simp only [YB,Yb,Qa3] at hp
 have ha:=Qas a.1
 refine ZL a.1 (fun r k=>∀ (v:List (List Int)) (z:Bool),v.length=k→v++(Zg r (b.1.drop k)).1=(Zg a.1 b.1).1→(z||(Zg r (b.1.drop k)).2)=(a.2.2||b.2.2||(Zg a.1 b.1).2)→QgI (fun r'=>r'=QaB (Ym a b)) a b k v z) ?_ ?_ [] _ rfl (by simp) (by simp)
 ·intro v z hv he hz
  refine QmO (fun r'=>r'=QaB (Ym a b)) a b _ _ _ ⟨fun h=>by simp at h,fun _=>R_eq ?_⟩
  unfold Ym;rw [← he,← hz];simp [Zg]
 ·intro k x r hk hlt hg ih v z hv he hz
  by_cases hkb:k<b.1.length
  ·obtain ⟨y,q,hq⟩:=Qbu (l:=b.1) (k:=k) hkb
   have hx:=QvG hk
   have hxl:=Je x
   refine QmO (fun r'=>r'=QaB (Ym a b)) a b _ _ _ ⟨fun _=>?_,fun h=>by simp at h;omega⟩
   rw [List.take_length]
   refine ZL x (fun r2 j=>∀ (w:List Int) (z2:Bool),w.length=j→w++(vz Zl r2 (y.drop j)).1=(vz Zl x y).1→(z2||(vz Zl r2 (y.drop j)).2)=(z||(vz Zl x y).2)→Qh8 (fun r'=>r'=QaB (Ym a b)) a b j z2 w k v) ?_ ?_ [] z rfl (by simp) (by simp)
   ·intro w z2 hw he2 hz2
    refine QrG (fun r'=>r'=QaB (Ym a b)) a b _ _ _ _ _ ?_
    rw [Int.toNat_natCast,hg,Y1 hq]
    refine ⟨⟨⟨by omega,hlt⟩,fun h=>by simp at h⟩,fun h=>by simp at h,fun _=>⟨room (by omega),?_⟩⟩
    rw [JP,sc1 (by omega),Zq]
    simp only [vz,List.append_nil,Bool.or_false] at he2 hz2
    refine ih _ _ (JX hv) ?_ ?_
    ·rw [← he,hq,Zg,YO hq,he2];simp
    ·rw [← hz,hq,Zg,YO hq,hz2];simp [Bool.or_assoc]
   ·intro j e r2 hj hlt2 hg2 ih2 w z2 hw he2 hz2
    refine QrG (fun r'=>r'=QaB (Ym a b)) a b _ _ _ _ _ ?_
    rw [Int.toNat_natCast,Int.toNat_natCast,hg,Y1 hq]
    by_cases hjy:j<y.length
    ·obtain ⟨f,q2,hq2⟩:=Qbu (l:=y) (k:=j) hjy
     refine ⟨⟨⟨by omega,hlt⟩,fun _=>⟨by omega,hkb⟩⟩,fun _=>?_,fun h=>by simp at h;omega⟩
     rw [hg2,Y1 hq2,sc1 (by omega),Zq,List.take_length]
     refine ⟨⟨⟨by omega,hlt⟩,⟨by omega,hlt2⟩,⟨by omega,hkb⟩,by omega,hjy⟩,room (by omega),ih2 _ _ (JX hw) ?_ ?_⟩
     ·rw [← he2,hq2,vz,YO hq2];simp
     ·rw [← hz2,hq2,vz,YO hq2];simp [Bool.or_assoc]
    ·refine ⟨⟨⟨by omega,hlt⟩,fun _=>⟨by omega,hkb⟩⟩,fun h=>by simp at h;omega,fun _=>⟨room (by omega),?_⟩⟩
     rw [JP,sc1 (by omega),Zq]
     rw [Qrx (l:=y) (by omega)] at he2 hz2
     simp only [vz,List.append_nil,Bool.or_false] at he2 hz2
     refine ih _ _ (JX hv) ?_ ?_
     ·rw [← he,hq,Zg,YO hq,he2];simp
     ·rw [← hz,hq,Zg,YO hq,hz2];simp [Bool.or_assoc]
  ·refine QmO (fun r'=>r'=QaB (Ym a b)) a b _ _ _ ⟨fun h=>by simp at h;omega,fun _=>R_eq ?_⟩
   unfold Ym;rw [← he,← hz,Qrx (l:=b.1) (by omega)];simp [Zg]
theorem QE3:Qh Tryz.prog QlV:=Qk fun x h=>QJX x.1 x.2.1 h
end
end Go.Proofs.YtjbdljkhbglnhaaGreat.Am

