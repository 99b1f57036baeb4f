/- -/
import Derived.Test.YtjbdljkhbglnhaaGreatZGPF
import Derived.Test.YtjbdljkhbglnhaaGreatZGP4
namespace Go.Proofs.YtjbdljkhbglnhaaGreat.Am
open Go Go.RowKit Go.Proofs.YtjbdljkhbglnhaaGreat
set_option linter.all false
noncomputable section
variable (K:TRes→Prop)
def Qcb (t:(List TOp')):TRes:=zra (zcs ctOp t)
def QfB:TRow:=Qi 151 [(.c (.sl ctOp))] fun x=>(some (QJ (α:=List TOp') x.1),Qcb (id (α:=List TOp') x.1))
def QmA:List TRow:=[Qab]
def QnX:TCode :=
 (zsq [(.reg [zbi 10 .lss 9 8]),(.cond 10 .skip (.exit 0)),(.block 1 (zsq [(.reg [zia 11 7 9 ctOp,zLd 12 11 4,zop 5 (.new 69 (z0s ctOp)),zst 5 12 4]),(.draw [zmv 13 3,zfa 14 5 0,zld 15 14 1,zfa 16 5 1,zld 17 16 1,zfa 18 5 2,zld 19 18 1,zfa 20 5 3,zld 21 20 1,zca 22 119 [21],zop 23 (.build (z0s ctOp) [(0,1,15),(1,1,17),(2,1,19),(3,1,22)]),zop 24 (.bsl 69 ctOp [23]),zop 25 (.app 13 24 69 ctOp),zmv 3 25] [(1,9),(2,9),(3,9),(4,9),(5,9),(6,9)])])),(.reg [zbi 26 .add 9 (zki 1),zmv 9 26])])
def Qp1:List (Nat × Md):=[(3,.one .f),(7,.one .d),(8,.one .d),(9,.one .d)]
def Qxf:TCode :=
 (zsq [(.reg [zmv 27 3,zmv 2 27]),.ret])
def QFw:TCode :=
 (zsq [(.reg [zmv 2 (.k (.n ctOp))]),(.reg [zop 6 (.bsl 69 ctOp []),zmv 3 6]),(zsq [(.reg [zmv 7 0,zle 8 7,zmv 9 (zki 0)]),(.block 0 (.loop Qp1 QnX))]),Qxf])
def Qqf:List (ARv × Md):=[(.t 2,.one .d)]
def QyU:Qb:=TQ 0 0 Qqf K
def QJk:Qb:=Qseq (tawp QmA 0 Qxf (QyU K)) (QyU K)
def QGf:Qb:=Qblk 0 (QJk K)
def QmV (l:List TOp') (x:Int) (ops:List TOp'):Prop:=Loop QmA 0 Qp1 QnX (QGf K) ⟨[(3,(.r ctOp 0 0 ops.length)),(7,(zcs ctOp l)),(8,(zci (l.length:Int))),(9,(zci x))],[(0,(.sl 69 ctOp true ops))],1⟩
theorem Quv (l:List TOp') (x:Int) (ops:List TOp') (h :
 (zif (decide (x<(l.length:Int))) (((0:Int)≤x∧Int.toNat x<l.length)∧(((QJ (α:=List Int) ((gtd dOp l (Int.toNat x)).2.2.2))∧((ops.length=ops.length∨ops.length+1≤ops.length)∧ops.length+1≤big))∧(QmV K l (w64 (x+(1:Int))) (List.take (ops.length+1) ((List.take ops.length ops)++([((gtd dOp l (Int.toNat x)).1,(gtd dOp l (Int.toNat x)).2.1,(gtd dOp l (Int.toNat x)).2.2.1,(List.take ((id (α:=List Int) ((gtd dOp l (Int.toNat x)).2.2.2)).length) (List.drop 0 (id (α:=List Int) ((gtd dOp l (Int.toNat x)).2.2.2)))))])))))) (K (Qcb (List.take ops.length (List.drop 0 ops)))))):QmV K l x ops :=
 Loop.of (by kernel_rfl) h
theorem QMo (l:List TOp') (h :
 (QmV K l 0 ([]:List TOp'))):Hold (tawp QmA (0+0) QFw (TQ 0 0 Qqf K) (Qf [(.c (.sl ctOp) l)])) :=
 Hold.of (by kernel_rfl) h
theorem QDJ (l:List TOp') (hp:QJ (α:=List TOp') l):TCon Tryz.prog 151 [(.c (.sl ctOp) l)] (Qcb (id (α:=List TOp') l)):=by
 refine Qr rfl fun hb=>tcg (n:=28) (sg:=QfB.sg) Qk (TOk.cons QaX TOk.nil) (by kernel_rfl) (by kernel_rfl) (QMo _ l ?_)
 have hl_l:l.length≤9223372036854775807:=hb.1.1
 refine Qbs (Q:=fun z=>Qcb z=Qcb (id (α:=List TOp') l)) hp (fun k x v hk hl hg hv hx ih=>?_) (fun hq=>?_) (R_eq rfl)
 ·refine Quv (fun r'=>r'=Qcb (id (α:=List TOp') l)) l _ _ ⟨fun _=>?_,fun h=>by simp at h;omega⟩
  try simp only [YA,Yd,Qbi] at hx
  rw [Int.toNat_natCast,hg,sc1 (by omega),Zx,QdZ]
  exact ⟨⟨by omega,hk⟩,⟨(show Sz.sz (_:List Int)≤2147483648 by omega),room (by omega)⟩,ih⟩
 ·refine Quv (fun r'=>r'=Qcb (id (α:=List TOp') l)) l _ _ ⟨fun h=>by simp at h,fun _=>?_⟩
  exact R_eq (by simp)
theorem Qo9:Qj Tryz.prog QfB:=Ql fun x h=>QDJ x.1 h
def Qcx (t:(List (List Int))):TRes:=zra (zcs [(.sl [TI])] t)
def Qc6:TRow:=Qi 86 [(.c (.sl [(.sl [TI])]))] fun x=>(some (QJ (α:=List (List Int)) x.1),Qcx (id (α:=List (List Int)) x.1))
def QkQ:List TRow:=[Qab]
def Qxk:TCode :=
 (zsq [(.reg [zbi 10 .lss 9 8]),(.cond 10 .skip (.exit 0)),(.block 1 (zsq [(.reg [zia 11 7 9 [(.sl [TI])],zLd 12 11 1,zop 5 (.new 129 [(.n [TI])]),zst 5 12 1]),(.reg [zmv 13 3,zfa 14 5 0,zld 15 14 1,zca 16 119 [15],zop 17 (.build [(.n [TI])] [(0,1,16)]),zop 18 (.bsl 129 [(.sl [TI])] [17]),zop 19 (.app 13 18 129 [(.sl [TI])]),zmv 3 19])])),(.reg [zbi 20 .add 9 (zki 1),zmv 9 20])])
def Qoa:List (Nat × Md):=[(3,.one .f),(7,.one .d),(8,.one .d),(9,.one .d)]
def Qy8:TCode :=
 (zsq [(.reg [zmv 21 3,zmv 2 21]),.ret])
def QDE:TCode :=
 (zsq [(.reg [zmv 2 (.k (.n [(.sl [TI])]))]),(.reg [zop 6 (.bsl 129 [(.sl [TI])] []),zmv 3 6]),(zsq [(.reg [zmv 7 0,zle 8 7,zmv 9 (zki 0)]),(.block 0 (.loop Qoa Qxk))]),Qy8])
def QpT:List (ARv × Md):=[(.t 2,.one .d)]
def QvG:Qb:=TQ 0 0 QpT K
def QM6:Qb:=Qseq (tawp QkQ 0 Qy8 (QvG K)) (QvG K)
def QGR:Qb:=Qblk 0 (QM6 K)
def QmU (l:List (List Int)) (x:Int) (rows:List (List Int)):Prop:=Loop QkQ 0 Qoa Qxk (QGR K) ⟨[(3,(.r [(.sl [TI])] 0 0 rows.length)),(7,(zcs [(.sl [TI])] l)),(8,(zci (l.length:Int))),(9,(zci x))],[(0,(.sl 129 [(.sl [TI])] true rows))],1⟩
theorem Qro (l:List (List Int)) (x:Int) (rows:List (List Int)) (h :
 (zif (decide (x<(l.length:Int))) (((0:Int)≤x∧Int.toNat x<l.length)∧(((QJ (α:=List Int) (gtd ([]:List Int) l (Int.toNat x)))∧((rows.length=rows.length∨rows.length+1≤rows.length)∧rows.length+1≤big))∧(QmU K l (w64 (x+(1:Int))) (List.take (rows.length+1) ((List.take rows.length rows)++([(List.take ((id (α:=List Int) (gtd ([]:List Int) l (Int.toNat x))).length) (List.drop 0 (id (α:=List Int) (gtd ([]:List Int) l (Int.toNat x)))))])))))) (K (Qcx (List.take rows.length (List.drop 0 rows)))))):QmU K l x rows :=
 Loop.of (by kernel_rfl) h
theorem QLL (l:List (List Int)) (h :
 (QmU K l 0 ([]:List (List Int)))):Hold (tawp QkQ (0+0) QDE (TQ 0 0 QpT K) (Qf [(.c (.sl [(.sl [TI])]) l)])) :=
 Hold.of (by kernel_rfl) h
theorem QAD (l:List (List Int)) (hp:QJ (α:=List (List Int)) l):TCon Tryz.prog 86 [(.c (.sl [(.sl [TI])]) l)] (Qcx (id (α:=List (List Int)) l)):=by
 refine Qr rfl fun hb=>tcg (n:=22) (sg:=Qc6.sg) Qk (TOk.cons QaX TOk.nil) (by kernel_rfl) (by kernel_rfl) (QLL _ l ?_)
 have hl_l:l.length≤9223372036854775807:=hb.1.1
 refine Qbs (Q:=fun z=>Qcx z=Qcx (id (α:=List (List Int)) l)) hp (fun k x v hk hl hg hv hx ih=>?_) (fun hq=>?_) (R_eq rfl)
 ·refine Qro (fun r'=>r'=Qcx (id (α:=List (List Int)) l)) l _ _ ⟨fun _=>?_,fun h=>by simp at h;omega⟩
  try simp only [YA,Yd,Qbi] at hx
  rw [Int.toNat_natCast,hg,sc1 (by omega),Zx,QdZ]
  exact ⟨⟨by omega,hk⟩,⟨(show Sz.sz (_:List Int)≤2147483648 by omega),room (by omega)⟩,ih⟩
 ·refine Qro (fun r'=>r'=Qcx (id (α:=List (List Int)) l)) l _ _ ⟨fun h=>by simp at h,fun _=>?_⟩
  exact R_eq (by simp)
theorem QfL:Qj Tryz.prog Qc6:=Ql fun x h=>QAD x.1 h
def Qcw (t:(List Qd)):TRes:=zra (zcs Qx t)
def QgA:TRow:=Qi 70 [(.c (.sl Qx))] fun x=>(some (QJ (α:=List Qd) x.1),Qcw (id (α:=List Qd) x.1))
def Qi8:List TRow:=[Qab]
def QsL:TCode :=
 (zsq [(.reg [zbi 10 .lss 9 8]),(.cond 10 .skip (.exit 0)),(.block 1 (zsq [(.reg [zia 11 7 9 Qx,zLd 12 11 2,zop 5 (.new 108 (z0s Qx)),zst 5 12 2]),(.draw [zmv 13 3,zfa 14 5 0,zld 15 14 1,zca 16 119 [15],zfa 17 5 1,zld 18 17 1,zca 19 119 [18],zop 20 (.build (z0s Qx) [(0,1,16),(1,1,19)]),zop 21 (.bsl 108 Qx [20]),zop 22 (.app 13 21 108 Qx),zmv 3 22] [(3,4),(3,5)])])),(.reg [zbi 23 .add 9 (zki 1),zmv 9 23])])
def QrK:List (Nat × Md):=[(3,.one .f),(7,.one .d),(8,.one .d),(9,.one .d)]
def QrO:TCode :=
 (zsq [(.reg [zmv 24 3,zmv 2 24]),.ret])
def QB3:TCode :=
 (zsq [(.reg [zmv 2 (.k (.n Qx))]),(.reg [zop 6 (.bsl 108 Qx []),zmv 3 6]),(zsq [(.reg [zmv 7 0,zle 8 7,zmv 9 (zki 0)]),(.block 0 (.loop QrK QsL))]),QrO])
def QvP:List (ARv × Md):=[(.t 2,.one .d)]
def Qyz:Qb:=TQ 0 0 QvP K
def QEU:Qb:=Qseq (tawp Qi8 0 QrO (Qyz K)) (Qyz K)
def QGo:Qb:=Qblk 0 (QEU K)
def QjZ (b:List Qd) (x:Int) (Yv:List Qd):Prop:=Loop Qi8 0 QrK QsL (QGo K) ⟨[(3,(.r Qx 0 0 Yv.length)),(7,(zcs Qx b)),(8,(zci (b.length:Int))),(9,(zci x))],[(0,(.sl 108 Qx true Yv))],1⟩
theorem Qve (b:List Qd) (x:Int) (Yv:List Qd) (h :
 (zif (decide (x<(b.length:Int))) (((0:Int)≤x∧Int.toNat x<b.length)∧(((QJ (α:=List Int) ((gtd Zj b (Int.toNat x)).1))∧((QJ (α:=List Int) ((gtd Zj b (Int.toNat x)).2))∧((Yv.length=Yv.length∨Yv.length+1≤Yv.length)∧Yv.length+1≤big)))∧(QjZ K b (w64 (x+(1:Int))) (List.take (Yv.length+1) ((List.take Yv.length Yv)++([((List.take ((id (α:=List Int) ((gtd Zj b (Int.toNat x)).1)).length) (List.drop 0 (id (α:=List Int) ((gtd Zj b (Int.toNat x)).1)))),(List.take ((id (α:=List Int) ((gtd Zj b (Int.toNat x)).2)).length) (List.drop 0 (id (α:=List Int) ((gtd Zj b (Int.toNat x)).2)))))])))))) (K (Qcw (List.take Yv.length (List.drop 0 Yv)))))):QjZ K b x Yv :=
 Loop.of (by kernel_rfl) h
theorem QNr (b:List Qd) (h :
 (QjZ K b 0 ([]:List Qd))):Hold (tawp Qi8 (0+0) QB3 (TQ 0 0 QvP K) (Qf [(.c (.sl Qx) b)])) :=
 Hold.of (by kernel_rfl) h
theorem QAQ (b:List Qd) (hp:QJ (α:=List Qd) b):TCon Tryz.prog 70 [(.c (.sl Qx) b)] (Qcw (id (α:=List Qd) b)):=by
 refine Qr rfl fun hb=>tcg (n:=25) (sg:=QgA.sg) Qk (TOk.cons QaX TOk.nil) (by kernel_rfl) (by kernel_rfl) (QNr _ b ?_)
 have hl_b:b.length≤9223372036854775807:=hb.1.1
 refine Qbs (Q:=fun z=>Qcw z=Qcw (id (α:=List Qd) b)) hp (fun k x v hk hl hg hv hx ih=>?_) (fun hq=>?_) (R_eq rfl)
 ·refine Qve (fun r'=>r'=Qcw (id (α:=List Qd) b)) b _ _ ⟨fun _=>?_,fun h=>by simp at h;omega⟩
  try simp only [YA,Yd,Qbi] at hx
  rw [Int.toNat_natCast,hg,sc1 (by omega),Zx,QdZ,QdZ]
  exact ⟨⟨by omega,hk⟩,⟨(show Sz.sz (_:List Int)≤2147483648 by omega),(show Sz.sz (_:List Int)≤2147483648 by omega),room (by omega)⟩,ih⟩
 ·refine Qve (fun r'=>r'=Qcw (id (α:=List Qd) b)) b _ _ ⟨fun h=>by simp at h,fun _=>?_⟩
  exact R_eq (by simp)
theorem QvA:Qj Tryz.prog QgA:=Ql fun x h=>QAQ x.1 h
def QlS (t:Za):TRes:=zra (.a (Tup.cells Zq t))
def QnJ:TRow:=Qi 184 [(.a Zq)] fun x=>(some (QJ (α:=Za) x.1),QlS (id (α:=Za) x.1))
def QJv:List TRow:=[Qc6]
def QM2:TCode :=
 (zsq [(.reg [zop 1 (.box 46 0 3),zop 2 (.new 46 (z0s Zq))]),(.draw [zfa 3 1 0,zld 4 3 1,zca 5 86 [4],zfa 6 1 1,zld 7 6 1,zfa 8 1 2,zld 9 8 1,zop 10 (.build (z0s Zq) [(0,1,5),(1,1,7),(2,1,9)]),zst 2 10 3] [(2,3),(2,4),(2,5),(2,6)]),.ret])
def QPX:List (ARv × Md):=[(.l 2 3 true,.b [.d,.d,.d])]
theorem QCP (g:Za) (h :
 ((QJ (α:=List (List Int)) g.1)∧K (QlS ((id (α:=List (List Int)) g.1),g.2.1,g.2.2)))):Hold (tawp QJv (0+0) QM2 (TQ 0 0 QPX K) (Qf [(.a (Tup.cells Zq g))])) :=
 Hold.of (by kernel_rfl) h
theorem QE1 (g:Za) (hp:QJ (α:=Za) g):TCon Tryz.prog 184 [(.a (Tup.cells Zq g))] (QlS (id (α:=Za) g)):=by
 refine Qr rfl fun hb=>tcg (n:=11) (sg:=QnJ.sg) Qk (TOk.cons QfL TOk.nil) (by kernel_rfl) (by kernel_rfl) (QCP _ g ?_)
 have hl_g_0:(g.1).length≤9223372036854775807:=hb.1.1.1
 unfold QJ at hp
 simp only [YA,Yd,Qbi] at hp
 exact ⟨hp,R_eq rfl⟩
theorem QOx:Qj Tryz.prog QnJ:=Ql fun x h=>QE1 x.1 h
def Qcd (t:Za):TRes:=zra (.a (Tup.cells Zq t))
def Qke:TRow:=Qi 88 [(.a [(.sl ctOp)])] fun x=>(none,Qcd (ZU x.1))
def Qlu:List TRow:=[JX]
def QxZ:TCode :=
 (zsq [(.reg [zbi 15 .lss 14 13]),(.cond 15 .skip (.exit 0)),(.block 1 (zsq [(.reg [zia 16 12 14 ctOp,zLd 17 16 4,zop 5 (.new 69 (z0s ctOp)),zst 5 17 4]),(.draw [zfa 18 3 0,zld 19 18 1,zfa 20 5 3,zld 21 20 1,zle 22 21,zop 23 (.mk 3 [TI] [(zci 0)] 22),zop 24 (.build [(.n [TI])] [(0,1,23)]),zop 25 (.bsl 129 [(.sl [TI])] [24]),zop 26 (.app 19 25 129 [(.sl [TI])]),zfa 27 3 0,zst 27 26 1] [(0,5),(1,5),(0,7),(1,7)])])),(.reg [zbi 28 .add 14 (zki 1),zmv 14 28])])
def Qpo:List (Nat × Md):=[(2,.b [.d,.d,.d]),(3,.b [.o 129,.d,.d]),(12,.one .d),(13,.one .d),(14,.one .d)]
def QvR:TCode :=
 (zsq [(.reg [zLd 29 3 3,zst 2 29 3]),.ret])
def QBx:TCode :=
 (zsq [(.reg [zop 1 (.box 26 0 1),zop 2 (.new 46 (z0s Zq))]),(zsq [(.reg [zLd 6 1 1,zca 7 131 [6],zno 8 7]),(.cond 8 (zsq [(.reg [zop 9 (.build (z0s Zq) []),zst 2 9 3]),.ret]) .skip)]),(.reg [zop 10 (.build (z0s Zq) []),zop 3 (.new 46 (z0s Zq)),zst 3 10 3]),(zsq [(.reg [zfa 11 1 0,zld 12 11 1,zle 13 12,zmv 14 (zki 0)]),(.block 0 (.loop Qpo QxZ))]),QvR])
def Qo7:List (ARv × Md):=[(.l 2 3 true,.b [.d,.d,.d])]
def Qs9:Qb:=TQ 0 0 Qo7 K
def QzV:Qb:=Qseq (tawp Qlu 0 QvR (Qs9 K)) (Qs9 K)
def QJr:Qb:=Qblk 0 (QzV K)
def QhO (m:List TOp') (x:Int) (g0:List (List Int)):Prop:=Loop Qlu 0 Qpo QxZ (QJr K) ⟨[(2,(.p 0 0 0)),(3,(.p 2 0 0)),(12,(zcs ctOp m)),(13,(zci (m.length:Int))),(14,(zci x))],[(0,(.box (Tup.cells Zq ([],(0:Int),false)))),(1,(.sl 129 [(.sl [TI])] true g0)),(2,(.box [(.r [(.sl [TI])] 1 0 g0.length),(zci 0),(zcb false)]))],3⟩
theorem QsR (m:List TOp') (x:Int) (g0:List (List Int)) (h :
 (zif (decide (x<(m.length:Int))) (((0:Int)≤x∧Int.toNat x<m.length)∧((((0:Int)≤(((gtd dOp m (Int.toNat x)).2.2.2).length:Int)∧(((gtd dOp m (Int.toNat x)).2.2.2).length:Int)≤big)∧((g0.length=g0.length∨g0.length+1≤g0.length)∧g0.length+1≤big))∧(QhO K m (w64 (x+(1:Int))) (List.take (g0.length+1) ((List.take g0.length g0)++([(List.take (Int.toNat (((gtd dOp m (Int.toNat x)).2.2.2).length:Int)) (List.drop 0 (List.replicate (Int.toNat (((gtd dOp m (Int.toNat x)).2.2.2).length:Int)) (0:Int))))])))))) (K (Qcd ((List.take g0.length (List.drop 0 g0)),(0:Int),false))))):QhO K m x g0 :=
 Loop.of (by kernel_rfl) h
theorem QEb (m:List TOp') (h :
 (zif (!(QE m)) (K (Qcd ([],(0:Int),false))) (QhO K m 0 ([]:List (List Int))))):Hold (tawp Qlu (0+0) QBx (TQ 0 0 Qo7 K) (Qf [(.a [(.c (.sl ctOp) m)])])) :=
 Hold.of (by kernel_rfl) h
theorem QA6 (m:List TOp'):TCon Tryz.prog 88 [(.a [(.c (.sl ctOp) m)])] (Qcd (ZU m)):=by
 refine Qr rfl fun hb=>tcg (n:=30) (sg:=Qke.sg) Qk (TOk.cons Qar TOk.nil) (by kernel_rfl) (by kernel_rfl) (QEb _ m ?_)
 have hl_m_0:(m).length≤9223372036854775807:=hb.1.1.1
 refine ⟨fun h=>R_eq (by unfold ZU;rw [if_neg (by simpa using h)]),fun h=>?_⟩
 have hm:QE m=true:=by simpa using h
 have hl:=YM hm
 have hv:(ZU m)=(m.map fun o=>List.replicate o.2.2.2.length (0:Int),0,false):=by unfold ZU;rw [if_pos hm]
 refine Zz m (fun r k=>∀ v:List (List Int),v.length=k→v++r.map (fun o=>List.replicate o.2.2.2.length (0:Int))=m.map (fun o=>List.replicate o.2.2.2.length (0:Int))→QhO (fun r'=>r'=Qcd (ZU m)) m k v) ?_ ?_ [] rfl rfl
 ·intro v hk he
  refine QsR (fun r'=>r'=Qcd (ZU m)) m _ _ ⟨fun h=>by simp at h,fun _=>R_eq ?_⟩
  rw [hv,← he];simp
 ·intro k x r hk hlt hg ih v hvl he
  have ho:=QkW (Qe8 hm hlt)
  rw [hg] at ho
  refine QsR (fun r'=>r'=Qcd (ZU m)) m _ _ ⟨fun _=>?_,fun h=>by simp [hm] at h;omega⟩
  rw [Int.toNat_natCast,hg,sc1 (by omega),Int.toNat_natCast,Zx,QER]
  refine ⟨⟨by omega,hlt⟩,⟨⟨by omega,by rw [bigI];omega⟩,room (by omega)⟩,ih _ (JR hvl) ?_⟩
  rw [← he];simp
theorem QDP:Qj Tryz.prog Qke:=Ql fun x _=>QA6 x.1
def QaB (t:Za):TRes:=zra (.a (Tup.cells Zq t))
def Qjp:TRow:=Qi 89 [(.a Zq),(.a Zq)] fun x=>(some (JS (α:=Za) (β:=Za) x.1 x.2.1),QaB (Yy x.1 x.2.1))
def Qct:List TRow:=[QdS]
def Qw5:TCode :=
 (zsq [(zsq [(.reg [zmv 35 8,zfa 36 2 0,zld 37 36 1,zmv 38 6,zia 39 37 38 [(.sl [TI])],zfa 40 39 0,zld 41 40 1,zle 42 41,zbi 43 .lss 35 42,zmv 44 43,.grp 44 true [zmv 45 8,zfa 46 3 0,zld 47 46 1,zmv 48 6,zia 49 47 48 [(.sl [TI])],zfa 50 49 0,zld 51 50 1,zle 52 51,zbi 53 .lss 45 52] 54 53]),(.cond 54 .skip (.exit 2))]),(.block 3 (zsq [(.draw [zfa 58 2 0,zld 59 58 1,zmv 60 6,zia 61 59 60 [(.sl [TI])],zfa 62 61 0,zld 63 62 1,zmv 64 8,zia 65 63 64 [TI],zld 66 65 1,zfa 67 3 0,zld 68 67 1,zmv 69 6,zia 70 68 69 [(.sl [TI])],zfa 71 70 0,zld 72 71 1,zmv 73 8,zia 74 72 73 [TI],zld 75 74 1,zca 76 121 [66,75],zmv 57 76,zex 77 57 0,zex 78 57 1,zmv 9 77,zmv 10 78] []),(.reg [zfa 79 7 0,zld 80 79 1,zmv 81 9,zop 82 (.bsl 3 [TI] [81]),zop 83 (.app 80 82 3 [TI]),zfa 84 7 0,zst 84 83 1]),(.reg [zfa 85 5 2,zld 86 85 1,zmv 87 86,.grp 87 false [zmv 88 10] 89 88,zfa 90 5 2,zst 90 89 1])])),(.reg [zmv 55 8,zbi 56 .add 55 (zki 1),zmv 8 56])])
def Qse:List (Nat × Md):=[(2,.b [.d,.d,.d]),(3,.b [.d,.d,.d]),(4,.b [.d,.d,.d]),(5,.b [.f,.d,.d]),(6,.one .d),(7,.b [.o 3]),(8,.one .d)]
def Qtg:TCode :=
 (.reg [zfa 91 5 0,zld 92 91 1,zLd 93 7 1,zop 94 (.bsl 129 [(.sl [TI])] [93]),zop 95 (.app 92 94 129 [(.sl [TI])]),zfa 96 5 0,zst 96 95 1])
def Qrr:TCode :=
 (.reg [zmv 32 6,zbi 33 .add 32 (zki 1),zmv 6 33])
def QmQ:TCode :=
 (zsq [(zsq [(.reg [zmv 20 6,zfa 21 2 0,zld 22 21 1,zle 23 22,zbi 24 .lss 20 23,zmv 25 24,.grp 25 true [zmv 26 6,zfa 27 3 0,zld 28 27 1,zle 29 28,zbi 30 .lss 26 29] 31 30]),(.cond 31 .skip (.exit 0))]),(.block 1 (zsq [(.reg [zop 34 (.build [(.n [TI])] []),zop 7 (.new 129 [(.n [TI])]),zst 7 34 1]),(zsq [(.reg [zmv 8 (zki 0)]),(.block 2 (.loop Qse Qw5))]),Qtg])),Qrr])
def QhY:List (Nat × Md):=[(2,.b [.d,.d,.d]),(3,.b [.d,.d,.d]),(4,.b [.d,.d,.d]),(5,.b [.o 129,.d,.d]),(6,.one .d)]
def QtQ:TCode :=
 (zsq [(.reg [zfa 98 2 1,zld 99 98 1,zfa 100 3 1,zld 101 100 1,zca 102 121 [99,101],zmv 97 102,zex 103 97 0,zex 104 97 1,zmv 11 103,zmv 12 104]),(.reg [zmv 105 11,zfa 106 5 1,zst 106 105 1]),(.reg [zfa 107 5 2,zld 108 107 1,zmv 109 108,.grp 109 false [zmv 110 12] 111 110,zfa 112 5 2,zst 112 111 1]),(.reg [zLd 113 5 3,zst 4 113 3]),.ret])
def QA7:TCode :=
 (zsq [(.reg [zop 2 (.box 46 0 3),zop 3 (.box 46 1 3),zop 4 (.new 46 (z0s Zq))]),(.reg [zfa 13 2 2,zld 14 13 1,zmv 15 14,.grp 15 false [zfa 16 3 2,zld 17 16 1] 18 17,zop 19 (.build (z0s Zq) [(2,1,18)]),zop 5 (.new 46 (z0s Zq)),zst 5 19 3]),(zsq [(.reg [zmv 6 (zki 0)]),(.block 0 (.loop QhY QmQ))]),QtQ])
def Qq4:List (ARv × Md):=[(.l 4 3 true,.b [.d,.d,.d])]
def Qqz:Qb:=TQ 0 0 Qq4 K
def QD3:Qb:=Qseq (tawp Qct 0 QtQ (Qqz K)) (Qqz K)
def Qkx:Qb:=Qblk 0 (QD3 K)
def QuW:Qb:=Qseq (fun s'=>Loop Qct 0 QhY QmQ (Qkx K) (gc 0 QhY s')) (Qkx K)
def QHo:Qb:=Qseq (tawp Qct 0 Qrr (QuW K)) (QuW K)
def Qs2:Qb:=Qblk 1 (QHo K)
def QE3:Qb:=Qseq (tawp Qct 0 Qtg (Qs2 K)) (Qs2 K)
def QLM:Qb:=Qblk 2 (QE3 K)
def Qij (a:Za) (b:Za) (k:Int) (g2:Bool) (row0:List Int) (i:Int) (g01:List (List Int)):Prop:=Loop Qct 0 Qse Qw5 (QLM K) ⟨[(2,(.p 0 0 0)),(3,(.p 1 0 0)),(4,(.p 2 0 0)),(5,(.p 4 0 0)),(6,(zci i)),(7,(.p 6 0 0)),(8,(zci k))],[(0,(.box (Tup.cells Zq a))),(1,(.box (Tup.cells Zq b))),(2,(.box (Tup.cells Zq ([],(0:Int),false)))),(3,(.sl 129 [(.sl [TI])] true g01)),(4,(.box [(.r [(.sl [TI])] 3 0 g01.length),(zci 0),(zcb g2)])),(5,(.sl 3 [TI] true row0)),(6,(.box [(.r [TI] 5 0 row0.length)]))],7⟩
def Qfx (a:Za) (b:Za) (i:Int) (g0:List (List Int)) (g21:Bool):Prop:=Loop Qct 0 QhY QmQ (Qkx K) ⟨[(2,(.p 0 0 0)),(3,(.p 1 0 0)),(4,(.p 2 0 0)),(5,(.p 4 0 0)),(6,(zci i))],[(0,(.box (Tup.cells Zq a))),(1,(.box (Tup.cells Zq b))),(2,(.box (Tup.cells Zq ([],(0:Int),false)))),(3,(.sl 129 [(.sl [TI])] true g0)),(4,(.box [(.r [(.sl [TI])] 3 0 g0.length),(zci 0),(zcb g21)]))],5⟩
theorem Qx6 (a:Za) (b:Za) (k:Int) (g2:Bool) (row0:List Int) (i:Int) (g01:List (List Int)) (h :
 ((((0:Int)≤i∧Int.toNat i<(a.1).length)∧((decide (k<((gtd ([]:List Int) a.1 (Int.toNat i)).length:Int)))=true→((0:Int)≤i∧Int.toNat i<(b.1).length)))∧(zif ((decide (k<((gtd ([]:List Int) a.1 (Int.toNat i)).length:Int)))&&(decide (k<((gtd ([]:List Int) b.1 (Int.toNat i)).length:Int)))) ((((0:Int)≤i∧Int.toNat i<(a.1).length)∧(((0:Int)≤k∧Int.toNat k<(gtd ([]:List Int) a.1 (Int.toNat i)).length)∧(((0:Int)≤i∧Int.toNat i<(b.1).length)∧((0:Int)≤k∧Int.toNat k<(gtd ([]:List Int) b.1 (Int.toNat i)).length))))∧(((row0.length=row0.length∨row0.length+1≤row0.length)∧row0.length+1≤big)∧(Qij K a b (w64 (k+(1:Int))) (g2||((Zn (gtd (0:Int) (gtd ([]:List Int) a.1 (Int.toNat i)) (Int.toNat k)) (gtd (0:Int) (gtd ([]:List Int) b.1 (Int.toNat i)) (Int.toNat k))).2)) (List.take (row0.length+1) ((List.take row0.length row0)++([(Zn (gtd (0:Int) (gtd ([]:List Int) a.1 (Int.toNat i)) (Int.toNat k)) (gtd (0:Int) (gtd ([]:List Int) b.1 (Int.toNat i)) (Int.toNat k))).1]))) i (List.take g01.length g01)))) (((g01.length=g01.length∨g01.length+1≤g01.length)∧g01.length+1≤big)∧(Qfx K a b (w64 (i+(1:Int))) (List.take (g01.length+1) ((List.take g01.length g01)++([(List.take row0.length (List.drop 0 row0))]))) g2))))):Qij K a b k g2 row0 i g01 :=
 Loop.of (by kernel_rfl) h
theorem Qi7 (a:Za) (b:Za) (i:Int) (g0:List (List Int)) (g21:Bool) (h :
 (zif ((decide (i<((a.1).length:Int)))&&(decide (i<((b.1).length:Int)))) (Qij K a b 0 g21 ([]:List Int) i (List.take g0.length g0)) (K (QaB ((List.take g0.length (List.drop 0 g0)),(Zn a.2.1 b.2.1).1,(g21||((Zn a.2.1 b.2.1).2))))))):Qfx K a b i g0 g21 :=
 Loop.of (by kernel_rfl) h
theorem QAL (a:Za) (b:Za) (h :
 (Qfx K a b 0 ([]:List (List Int)) (a.2.2||b.2.2))):Hold (tawp Qct (0+0) QA7 (TQ 0 0 Qq4 K) (Qf [(.a (Tup.cells Zq a)),(.a (Tup.cells Zq b))])) :=
 Hold.of (by kernel_rfl) h
theorem QzM (a:Za) (b:Za) (hp:JS (α:=Za) (β:=Za) a b):TCon Tryz.prog 89 [(.a (Tup.cells Zq a)),(.a (Tup.cells Zq b))] (QaB (Yy a b)):=by
 refine Qr rfl fun hb=>tcg (n:=114) (sg:=Qjp.sg) Qk (TOk.cons Qib TOk.nil) (by kernel_rfl) (by kernel_rfl) (QAL _ a b ?_)
 have hl_a_0:(a.1).length≤9223372036854775807:=hb.1.1.1
 have hl_b_0:(b.1).length≤9223372036854775807:=hb.2.1.1.1
 unfold JS at hp
 simp only [YA,Yd,Qbi] at hp
 have ha:=Qad a.1
 refine Zz a.1 (fun r k=>∀ (v:List (List Int)) (z:Bool),v.length=k→v++(Zk r (b.1.drop k)).1=(Zk a.1 b.1).1→(z||(Zk r (b.1.drop k)).2)=(a.2.2||b.2.2||(Zk a.1 b.1).2)→Qfx (fun r'=>r'=QaB (Yy a b)) a b k v z) ?_ ?_ [] _ rfl (by simp) (by simp)
 ·intro v z hv he hz
  refine Qi7 (fun r'=>r'=QaB (Yy a b)) a b _ _ _ ⟨fun h=>by simp at h,fun _=>R_eq ?_⟩
  unfold Yy;rw [← he,← hz];simp [Zk]
 ·intro k x r hk hlt hg ih v z hv he hz
  by_cases hkb:k<b.1.length
  ·obtain ⟨y,q,hq⟩:=Qbo (l:=b.1) (k:=k) hkb
   have hx:=QvV hk
   have hxl:=Jc x
   refine Qi7 (fun r'=>r'=QaB (Yy a b)) a b _ _ _ ⟨fun _=>?_,fun h=>by simp at h;omega⟩
   rw [List.take_length]
   refine Zz x (fun r2 j=>∀ (w:List Int) (z2:Bool),w.length=j→w++(vz Zn r2 (y.drop j)).1=(vz Zn x y).1→(z2||(vz Zn r2 (y.drop j)).2)=(z||(vz Zn x y).2)→Qij (fun r'=>r'=QaB (Yy a b)) a b j z2 w k v) ?_ ?_ [] z rfl (by simp) (by simp)
   ·intro w z2 hw he2 hz2
    refine Qx6 (fun r'=>r'=QaB (Yy a b)) a b _ _ _ _ _ ?_
    rw [Int.toNat_natCast,hg,Y1 hq]
    refine ⟨⟨⟨by omega,hlt⟩,fun h=>by simp at h⟩,fun h=>by simp at h,fun _=>⟨room (by omega),?_⟩⟩
    rw [QdR,sc1 (by omega),Zx]
    simp only [vz,List.append_nil,Bool.or_false] at he2 hz2
    refine ih _ _ (JR hv) ?_ ?_
    ·rw [← he,hq,Zk,YL hq,he2];simp
    ·rw [← hz,hq,Zk,YL hq,hz2];simp [Bool.or_assoc]
   ·intro j e r2 hj hlt2 hg2 ih2 w z2 hw he2 hz2
    refine Qx6 (fun r'=>r'=QaB (Yy a b)) a b _ _ _ _ _ ?_
    rw [Int.toNat_natCast,Int.toNat_natCast,hg,Y1 hq]
    by_cases hjy:j<y.length
    ·obtain ⟨f,q2,hq2⟩:=Qbo (l:=y) (k:=j) hjy
     refine ⟨⟨⟨by omega,hlt⟩,fun _=>⟨by omega,hkb⟩⟩,fun _=>?_,fun h=>by simp at h;omega⟩
     rw [hg2,Y1 hq2,sc1 (by omega),Zx,List.take_length]
     refine ⟨⟨⟨by omega,hlt⟩,⟨by omega,hlt2⟩,⟨by omega,hkb⟩,by omega,hjy⟩,room (by omega),ih2 _ _ (JR hw) ?_ ?_⟩
     ·rw [← he2,hq2,vz,YL hq2];simp
     ·rw [← hz2,hq2,vz,YL hq2];simp [Bool.or_assoc]
    ·refine ⟨⟨⟨by omega,hlt⟩,fun _=>⟨by omega,hkb⟩⟩,fun h=>by simp at h;omega,fun _=>⟨room (by omega),?_⟩⟩
     rw [QdR,sc1 (by omega),Zx]
     rw [Qsn (l:=y) (by omega)] at he2 hz2
     simp only [vz,List.append_nil,Bool.or_false] at he2 hz2
     refine ih _ _ (JR hv) ?_ ?_
     ·rw [← he,hq,Zk,YL hq,he2];simp
     ·rw [← hz,hq,Zk,YL hq,hz2];simp [Bool.or_assoc]
  ·refine Qi7 (fun r'=>r'=QaB (Yy a b)) a b _ _ _ ⟨fun h=>by simp at h;omega,fun _=>R_eq ?_⟩
   unfold Yy;rw [← he,← hz,Qsn (l:=b.1) (by omega)];simp [Zk]
theorem QJg:Qj Tryz.prog Qjp:=Ql fun x h=>QzM x.1 x.2.1 h
end
end Go.Proofs.YtjbdljkhbglnhaaGreat.Am

