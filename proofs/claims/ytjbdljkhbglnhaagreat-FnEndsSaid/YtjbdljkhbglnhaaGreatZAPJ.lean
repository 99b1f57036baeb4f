/- -/
import Derived.Test.YtjbdljkhbglnhaaGreatZAPF
import Derived.Test.YtjbdljkhbglnhaaGreatZAP4
namespace Go.Proofs.YtjbdljkhbglnhaaGreat.Am
open Go Go.RowKit Go.Proofs.YtjbdljkhbglnhaaGreat
set_option linter.all false
noncomputable section
variable (K:TRes→Prop)
def Qcd (t:(List TOp')):TRes:=zra (zcs ctOp t)
def QhJ:TRow:=Qh 151 [(.c (.sl ctOp))] fun x=>(some (QG (α:=List TOp') x.1),Qcd (id (α:=List TOp') x.1))
def QnO:List TRow:=[Qak]
def QrF:TCode :=
 (zsq [(.reg [zbi 10 .lss 9 8]),(.cond 10 .skip (.exit 0)),(.block 1 (zsq [(.reg [zia 11 7 9 ctOp,zLd 12 11 4,zop 5 (.new 69 (z0s ctOp)),zst 5 12 4]),(.draw [zmv 13 3,zfa 14 5 0,zld 15 14 1,zfa 16 5 1,zld 17 16 1,zfa 18 5 2,zld 19 18 1,zfa 20 5 3,zld 21 20 1,zca 22 119 [21],zop 23 (.build (z0s ctOp) [(0,1,15),(1,1,17),(2,1,19),(3,1,22)]),zop 24 (.bsl 69 ctOp [23]),zop 25 (.app 13 24 69 ctOp),zmv 3 25] [(1,9),(2,9),(3,9),(4,9),(5,9),(6,9)])])),(.reg [zbi 26 .add 9 (zki 1),zmv 9 26])])
def QoC:List (Nat × Md):=[(3,.one .f),(7,.one .d),(8,.one .d),(9,.one .d)]
def QrQ:TCode :=
 (zsq [(.reg [zmv 27 3,zmv 2 27]),.ret])
def QEu:TCode :=
 (zsq [(.reg [zmv 2 (.k (.n ctOp))]),(.reg [zop 6 (.bsl 69 ctOp []),zmv 3 6]),(zsq [(.reg [zmv 7 0,zle 8 7,zmv 9 (zki 0)]),(.block 0 (.loop QoC QrF))]),QrQ])
def QAg:List (ARv × Md):=[(.t 2,.one .d)]
def QuG:Qb:=TQ 0 0 QAg K
def QA9:Qb:=Qseq (tawp QnO 0 QrQ (QuG K)) (QuG K)
def QPE:Qb:=Qblk 0 (QA9 K)
def Qkl (l:List TOp') (x:Int) (ops:List TOp'):Prop:=Loop QnO 0 QoC QrF (QPE K) ⟨[(3,(.r ctOp 0 0 ops.length)),(7,(zcs ctOp l)),(8,(zci (l.length:Int))),(9,(zci x))],[(0,(.sl 69 ctOp true ops))],1⟩
theorem Qw5 (l:List TOp') (x:Int) (ops:List TOp') (h :
(zif (decide (x<(l.length:Int))) (((0:Int)≤x∧Int.toNat x<l.length)∧(((QG (α:=List Int) ((gtd dOp l (Int.toNat x)).2.2.2))∧((ops.length=ops.length∨ops.length+1≤ops.length)∧ops.length+1≤big))∧(Qkl K l (w64 (x+(1:Int))) (List.take (ops.length+1) ((List.take ops.length ops)++([((gtd dOp l (Int.toNat x)).1,(gtd dOp l (Int.toNat x)).2.1,(gtd dOp l (Int.toNat x)).2.2.1,(List.take ((id (α:=List Int) ((gtd dOp l (Int.toNat x)).2.2.2)).length) (List.drop 0 (id (α:=List Int) ((gtd dOp l (Int.toNat x)).2.2.2)))))])))))) (K (Qcd (List.take ops.length (List.drop 0 ops)))))):Qkl K l x ops :=
 Loop.of (by kernel_rfl) h
theorem QRh (l:List TOp') (h :
(Qkl K l 0 ([]:List TOp'))):Hold (tawp QnO (0+0) QEu (TQ 0 0 QAg K) (Qf [(.c (.sl ctOp) l)])) :=
 Hold.of (by kernel_rfl) h
theorem QIL (l:List TOp') (hp:QG (α:=List TOp') l):TCon Tryz.prog 151 [(.c (.sl ctOp) l)] (Qcd (id (α:=List TOp') l)):=by
 refine Qq rfl fun hb=>tcg (n:=28) (sg:=QhJ.sg) Ql (TOk.cons Qa1 TOk.nil) (by kernel_rfl) (by kernel_rfl) (QRh _ l ?_)
 have hl_l:l.length≤9223372036854775807:=hb.1.1
 refine Qb5 (Q:=fun z=>Qcd z=Qcd (id (α:=List TOp') l)) hp (fun k x v hk hl hg hv hx ih=>?_) (fun hq=>?_) (R_eq rfl)
 ·refine Qw5 (fun r'=>r'=Qcd (id (α:=List TOp') l)) l _ _ ⟨fun _=>?_,fun h=>by simp at h;omega⟩
  try simp only [YA,Yd,Qbk] at hx
  rw [Int.toNat_natCast,hg,sc1 (by omega),Zv,QdF]
  exact ⟨⟨by omega,hk⟩,⟨(show Sz.sz (_:List Int)≤2147483648 by omega),room (by omega)⟩,ih⟩
 ·refine Qw5 (fun r'=>r'=Qcd (id (α:=List TOp') l)) l _ _ ⟨fun h=>by simp at h,fun _=>?_⟩
  exact R_eq (by simp)
theorem Qr9:Qi Tryz.prog QhJ:=Qm fun x h=>QIL x.1 h
def QcK (t:(List (List Int))):TRes:=zra (zcs [(.sl [TI])] t)
def Qea:TRow:=Qh 86 [(.c (.sl [(.sl [TI])]))] fun x=>(some (QG (α:=List (List Int)) x.1),QcK (id (α:=List (List Int)) x.1))
def Qnh:List TRow:=[Qak]
def QyC:TCode :=
 (zsq [(.reg [zbi 10 .lss 9 8]),(.cond 10 .skip (.exit 0)),(.block 1 (zsq [(.reg [zia 11 7 9 [(.sl [TI])],zLd 12 11 1,zop 5 (.new 129 [(.n [TI])]),zst 5 12 1]),(.reg [zmv 13 3,zfa 14 5 0,zld 15 14 1,zca 16 119 [15],zop 17 (.build [(.n [TI])] [(0,1,16)]),zop 18 (.bsl 129 [(.sl [TI])] [17]),zop 19 (.app 13 18 129 [(.sl [TI])]),zmv 3 19])])),(.reg [zbi 20 .add 9 (zki 1),zmv 9 20])])
def QwC:List (Nat × Md):=[(3,.one .f),(7,.one .d),(8,.one .d),(9,.one .d)]
def Qs7:TCode :=
 (zsq [(.reg [zmv 21 3,zmv 2 21]),.ret])
def QN5:TCode :=
 (zsq [(.reg [zmv 2 (.k (.n [(.sl [TI])]))]),(.reg [zop 6 (.bsl 129 [(.sl [TI])] []),zmv 3 6]),(zsq [(.reg [zmv 7 0,zle 8 7,zmv 9 (zki 0)]),(.block 0 (.loop QwC QyC))]),Qs7])
def Qs3:List (ARv × Md):=[(.t 2,.one .d)]
def QuX:Qb:=TQ 0 0 Qs3 K
def QJO:Qb:=Qseq (tawp Qnh 0 Qs7 (QuX K)) (QuX K)
def QNl:Qb:=Qblk 0 (QJO K)
def QkO (l:List (List Int)) (x:Int) (rows:List (List Int)):Prop:=Loop Qnh 0 QwC QyC (QNl K) ⟨[(3,(.r [(.sl [TI])] 0 0 rows.length)),(7,(zcs [(.sl [TI])] l)),(8,(zci (l.length:Int))),(9,(zci x))],[(0,(.sl 129 [(.sl [TI])] true rows))],1⟩
theorem QxP (l:List (List Int)) (x:Int) (rows:List (List Int)) (h :
(zif (decide (x<(l.length:Int))) (((0:Int)≤x∧Int.toNat x<l.length)∧(((QG (α:=List Int) (gtd ([]:List Int) l (Int.toNat x)))∧((rows.length=rows.length∨rows.length+1≤rows.length)∧rows.length+1≤big))∧(QkO K l (w64 (x+(1:Int))) (List.take (rows.length+1) ((List.take rows.length rows)++([(List.take ((id (α:=List Int) (gtd ([]:List Int) l (Int.toNat x))).length) (List.drop 0 (id (α:=List Int) (gtd ([]:List Int) l (Int.toNat x)))))])))))) (K (QcK (List.take rows.length (List.drop 0 rows)))))):QkO K l x rows :=
 Loop.of (by kernel_rfl) h
theorem QAL (l:List (List Int)) (h :
(QkO K l 0 ([]:List (List Int)))):Hold (tawp Qnh (0+0) QN5 (TQ 0 0 Qs3 K) (Qf [(.c (.sl [(.sl [TI])]) l)])) :=
 Hold.of (by kernel_rfl) h
theorem QOx (l:List (List Int)) (hp:QG (α:=List (List Int)) l):TCon Tryz.prog 86 [(.c (.sl [(.sl [TI])]) l)] (QcK (id (α:=List (List Int)) l)):=by
 refine Qq rfl fun hb=>tcg (n:=22) (sg:=Qea.sg) Ql (TOk.cons Qa1 TOk.nil) (by kernel_rfl) (by kernel_rfl) (QAL _ l ?_)
 have hl_l:l.length≤9223372036854775807:=hb.1.1
 refine Qb5 (Q:=fun z=>QcK z=QcK (id (α:=List (List Int)) l)) hp (fun k x v hk hl hg hv hx ih=>?_) (fun hq=>?_) (R_eq rfl)
 ·refine QxP (fun r'=>r'=QcK (id (α:=List (List Int)) l)) l _ _ ⟨fun _=>?_,fun h=>by simp at h;omega⟩
  try simp only [YA,Yd,Qbk] at hx
  rw [Int.toNat_natCast,hg,sc1 (by omega),Zv,QdF]
  exact ⟨⟨by omega,hk⟩,⟨(show Sz.sz (_:List Int)≤2147483648 by omega),room (by omega)⟩,ih⟩
 ·refine QxP (fun r'=>r'=QcK (id (α:=List (List Int)) l)) l _ _ ⟨fun h=>by simp at h,fun _=>?_⟩
  exact R_eq (by simp)
theorem Ql1:Qi Tryz.prog Qea:=Qm fun x h=>QOx x.1 h
def QcX (t:(List Qj)):TRes:=zra (zcs QC t)
def QgI:TRow:=Qh 70 [(.c (.sl QC))] fun x=>(some (QG (α:=List Qj) x.1),QcX (id (α:=List Qj) x.1))
def Qlu:List TRow:=[Qak]
def QsI:TCode :=
 (zsq [(.reg [zbi 10 .lss 9 8]),(.cond 10 .skip (.exit 0)),(.block 1 (zsq [(.reg [zia 11 7 9 QC,zLd 12 11 2,zop 5 (.new 108 (z0s QC)),zst 5 12 2]),(.draw [zmv 13 3,zfa 14 5 0,zld 15 14 1,zca 16 119 [15],zfa 17 5 1,zld 18 17 1,zca 19 119 [18],zop 20 (.build (z0s QC) [(0,1,16),(1,1,19)]),zop 21 (.bsl 108 QC [20]),zop 22 (.app 13 21 108 QC),zmv 3 22] [(3,4),(3,5)])])),(.reg [zbi 23 .add 9 (zki 1),zmv 9 23])])
def QAp:List (Nat × Md):=[(3,.one .f),(7,.one .d),(8,.one .d),(9,.one .d)]
def QpL:TCode :=
 (zsq [(.reg [zmv 24 3,zmv 2 24]),.ret])
def QJk:TCode :=
 (zsq [(.reg [zmv 2 (.k (.n QC))]),(.reg [zop 6 (.bsl 108 QC []),zmv 3 6]),(zsq [(.reg [zmv 7 0,zle 8 7,zmv 9 (zki 0)]),(.block 0 (.loop QAp QsI))]),QpL])
def Qzp:List (ARv × Md):=[(.t 2,.one .d)]
def QoM:Qb:=TQ 0 0 Qzp K
def QCf:Qb:=Qseq (tawp Qlu 0 QpL (QoM K)) (QoM K)
def QOS:Qb:=Qblk 0 (QCf K)
def QkW (b:List Qj) (x:Int) (Yv:List Qj):Prop:=Loop Qlu 0 QAp QsI (QOS K) ⟨[(3,(.r QC 0 0 Yv.length)),(7,(zcs QC b)),(8,(zci (b.length:Int))),(9,(zci x))],[(0,(.sl 108 QC true Yv))],1⟩
theorem QoA (b:List Qj) (x:Int) (Yv:List Qj) (h :
(zif (decide (x<(b.length:Int))) (((0:Int)≤x∧Int.toNat x<b.length)∧(((QG (α:=List Int) ((gtd Zm b (Int.toNat x)).1))∧((QG (α:=List Int) ((gtd Zm b (Int.toNat x)).2))∧((Yv.length=Yv.length∨Yv.length+1≤Yv.length)∧Yv.length+1≤big)))∧(QkW K b (w64 (x+(1:Int))) (List.take (Yv.length+1) ((List.take Yv.length Yv)++([((List.take ((id (α:=List Int) ((gtd Zm b (Int.toNat x)).1)).length) (List.drop 0 (id (α:=List Int) ((gtd Zm b (Int.toNat x)).1)))),(List.take ((id (α:=List Int) ((gtd Zm b (Int.toNat x)).2)).length) (List.drop 0 (id (α:=List Int) ((gtd Zm b (Int.toNat x)).2)))))])))))) (K (QcX (List.take Yv.length (List.drop 0 Yv)))))):QkW K b x Yv :=
 Loop.of (by kernel_rfl) h
theorem QF5 (b:List Qj) (h :
(QkW K b 0 ([]:List Qj))):Hold (tawp Qlu (0+0) QJk (TQ 0 0 Qzp K) (Qf [(.c (.sl QC) b)])) :=
 Hold.of (by kernel_rfl) h
theorem QN2 (b:List Qj) (hp:QG (α:=List Qj) b):TCon Tryz.prog 70 [(.c (.sl QC) b)] (QcX (id (α:=List Qj) b)):=by
 refine Qq rfl fun hb=>tcg (n:=25) (sg:=QgI.sg) Ql (TOk.cons Qa1 TOk.nil) (by kernel_rfl) (by kernel_rfl) (QF5 _ b ?_)
 have hl_b:b.length≤9223372036854775807:=hb.1.1
 refine Qb5 (Q:=fun z=>QcX z=QcX (id (α:=List Qj) b)) hp (fun k x v hk hl hg hv hx ih=>?_) (fun hq=>?_) (R_eq rfl)
 ·refine QoA (fun r'=>r'=QcX (id (α:=List Qj) b)) b _ _ ⟨fun _=>?_,fun h=>by simp at h;omega⟩
  try simp only [YA,Yd,Qbk] at hx
  rw [Int.toNat_natCast,hg,sc1 (by omega),Zv,QdF,QdF]
  exact ⟨⟨by omega,hk⟩,⟨(show Sz.sz (_:List Int)≤2147483648 by omega),(show Sz.sz (_:List Int)≤2147483648 by omega),room (by omega)⟩,ih⟩
 ·refine QoA (fun r'=>r'=QcX (id (α:=List Qj) b)) b _ _ ⟨fun h=>by simp at h,fun _=>?_⟩
  exact R_eq (by simp)
theorem Quj:Qi Tryz.prog QgI:=Qm fun x h=>QN2 x.1 h
def Qmj (t:Zc):TRes:=zra (.a (Tup.cells ZN t))
def Qm5:TRow:=Qh 184 [(.a ZN)] fun x=>(some (QG (α:=Zc) x.1),Qmj (id (α:=Zc) x.1))
def QIT:List TRow:=[Qea]
def QIu:TCode :=
 (zsq [(.reg [zop 1 (.box 46 0 3),zop 2 (.new 46 (z0s ZN))]),(.draw [zfa 3 1 0,zld 4 3 1,zca 5 86 [4],zfa 6 1 1,zld 7 6 1,zfa 8 1 2,zld 9 8 1,zop 10 (.build (z0s ZN) [(0,1,5),(1,1,7),(2,1,9)]),zst 2 10 3] [(2,3),(2,4),(2,5),(2,6)]),.ret])
def QDC:List (ARv × Md):=[(.l 2 3 true,.b [.d,.d,.d])]
theorem QPb (g:Zc) (h :
((QG (α:=List (List Int)) g.1)∧K (Qmj ((id (α:=List (List Int)) g.1),g.2.1,g.2.2)))):Hold (tawp QIT (0+0) QIu (TQ 0 0 QDC K) (Qf [(.a (Tup.cells ZN g))])) :=
 Hold.of (by kernel_rfl) h
theorem QCF (g:Zc) (hp:QG (α:=Zc) g):TCon Tryz.prog 184 [(.a (Tup.cells ZN g))] (Qmj (id (α:=Zc) g)):=by
 refine Qq rfl fun hb=>tcg (n:=11) (sg:=Qm5.sg) Ql (TOk.cons Ql1 TOk.nil) (by kernel_rfl) (by kernel_rfl) (QPb _ g ?_)
 have hl_g_0:(g.1).length≤9223372036854775807:=hb.1.1.1
 unfold QG at hp
 simp only [YA,Yd,Qbk] at hp
 exact ⟨hp,R_eq rfl⟩
theorem QOt:Qi Tryz.prog Qm5:=Qm fun x h=>QCF x.1 h
def Qcs (t:Zc):TRes:=zra (.a (Tup.cells ZN t))
def Qny:TRow:=Qh 88 [(.a [(.sl ctOp)])] fun x=>(none,Qcs (ZO x.1))
def Qlt:List TRow:=[JV]
def QzW:TCode :=
 (zsq [(.reg [zbi 15 .lss 14 13]),(.cond 15 .skip (.exit 0)),(.block 1 (zsq [(.reg [zia 16 12 14 ctOp,zLd 17 16 4,zop 5 (.new 69 (z0s ctOp)),zst 5 17 4]),(.draw [zfa 18 3 0,zld 19 18 1,zfa 20 5 3,zld 21 20 1,zle 22 21,zop 23 (.mk 3 [TI] [(zci 0)] 22),zop 24 (.build [(.n [TI])] [(0,1,23)]),zop 25 (.bsl 129 [(.sl [TI])] [24]),zop 26 (.app 19 25 129 [(.sl [TI])]),zfa 27 3 0,zst 27 26 1] [(0,5),(1,5),(0,7),(1,7)])])),(.reg [zbi 28 .add 14 (zki 1),zmv 14 28])])
def Qxr:List (Nat × Md):=[(2,.b [.d,.d,.d]),(3,.b [.o 129,.d,.d]),(12,.one .d),(13,.one .d),(14,.one .d)]
def QrC:TCode :=
 (zsq [(.reg [zLd 29 3 3,zst 2 29 3]),.ret])
def QOU:TCode :=
 (zsq [(.reg [zop 1 (.box 26 0 1),zop 2 (.new 46 (z0s ZN))]),(zsq [(.reg [zLd 6 1 1,zca 7 131 [6],zno 8 7]),(.cond 8 (zsq [(.reg [zop 9 (.build (z0s ZN) []),zst 2 9 3]),.ret]) .skip)]),(.reg [zop 10 (.build (z0s ZN) []),zop 3 (.new 46 (z0s ZN)),zst 3 10 3]),(zsq [(.reg [zfa 11 1 0,zld 12 11 1,zle 13 12,zmv 14 (zki 0)]),(.block 0 (.loop Qxr QzW))]),QrC])
def Qpv:List (ARv × Md):=[(.l 2 3 true,.b [.d,.d,.d])]
def QzG:Qb:=TQ 0 0 Qpv K
def QB1:Qb:=Qseq (tawp Qlt 0 QrC (QzG K)) (QzG K)
def QEV:Qb:=Qblk 0 (QB1 K)
def QfL (m:List TOp') (x:Int) (g0:List (List Int)):Prop:=Loop Qlt 0 Qxr QzW (QEV K) ⟨[(2,(.p 0 0 0)),(3,(.p 2 0 0)),(12,(zcs ctOp m)),(13,(zci (m.length:Int))),(14,(zci x))],[(0,(.box (Tup.cells ZN ([],(0:Int),false)))),(1,(.sl 129 [(.sl [TI])] true g0)),(2,(.box [(.r [(.sl [TI])] 1 0 g0.length),(zci 0),(zcb false)]))],3⟩
theorem Qr7 (m:List TOp') (x:Int) (g0:List (List Int)) (h :
(zif (decide (x<(m.length:Int))) (((0:Int)≤x∧Int.toNat x<m.length)∧((((0:Int)≤(((gtd dOp m (Int.toNat x)).2.2.2).length:Int)∧(((gtd dOp m (Int.toNat x)).2.2.2).length:Int)≤big)∧((g0.length=g0.length∨g0.length+1≤g0.length)∧g0.length+1≤big))∧(QfL K m (w64 (x+(1:Int))) (List.take (g0.length+1) ((List.take g0.length g0)++([(List.take (Int.toNat (((gtd dOp m (Int.toNat x)).2.2.2).length:Int)) (List.drop 0 (List.replicate (Int.toNat (((gtd dOp m (Int.toNat x)).2.2.2).length:Int)) (0:Int))))])))))) (K (Qcs ((List.take g0.length (List.drop 0 g0)),(0:Int),false))))):QfL K m x g0 :=
 Loop.of (by kernel_rfl) h
theorem QA4 (m:List TOp') (h :
(zif (!(QN m)) (K (Qcs ([],(0:Int),false))) (QfL K m 0 ([]:List (List Int))))):Hold (tawp Qlt (0+0) QOU (TQ 0 0 Qpv K) (Qf [(.a [(.c (.sl ctOp) m)])])) :=
 Hold.of (by kernel_rfl) h
theorem QEI (m:List TOp'):TCon Tryz.prog 88 [(.a [(.c (.sl ctOp) m)])] (Qcs (ZO m)):=by
 refine Qq rfl fun hb=>tcg (n:=30) (sg:=Qny.sg) Ql (TOk.cons Qaw TOk.nil) (by kernel_rfl) (by kernel_rfl) (QA4 _ m ?_)
 have hl_m_0:(m).length≤9223372036854775807:=hb.1.1.1
 refine ⟨fun h=>R_eq (by unfold ZO;rw [if_neg (by simpa using h)]),fun h=>?_⟩
 have hm:QN m=true:=by simpa using h
 have hl:=YV hm
 have hv:(ZO m)=(m.map fun o=>List.replicate o.2.2.2.length (0:Int),0,false):=by unfold ZO;rw [if_pos hm]
 refine Zi m (fun r k=>∀ v:List (List Int),v.length=k→v++r.map (fun o=>List.replicate o.2.2.2.length (0:Int))=m.map (fun o=>List.replicate o.2.2.2.length (0:Int))→QfL (fun r'=>r'=Qcs (ZO m)) m k v) ?_ ?_ [] rfl rfl
 ·intro v hk he
  refine Qr7 (fun r'=>r'=Qcs (ZO m)) m _ _ ⟨fun h=>by simp at h,fun _=>R_eq ?_⟩
  rw [hv,← he];simp
 ·intro k x r hk hlt hg ih v hvl he
  have ho:=QjP (QlM hm hlt)
  rw [hg] at ho
  refine Qr7 (fun r'=>r'=Qcs (ZO m)) m _ _ ⟨fun _=>?_,fun h=>by simp [hm] at h;omega⟩
  rw [Int.toNat_natCast,hg,sc1 (by omega),Int.toNat_natCast,Zv,QDI]
  refine ⟨⟨by omega,hlt⟩,⟨⟨by omega,by rw [bigI];omega⟩,room (by omega)⟩,ih _ (JY hvl) ?_⟩
  rw [← he];simp
theorem QK3:Qi Tryz.prog Qny:=Qm fun x _=>QEI x.1
def QaH (t:Zc):TRes:=zra (.a (Tup.cells ZN t))
def Qls:TRow:=Qh 89 [(.a ZN),(.a ZN)] fun x=>(some (JU (α:=Zc) (β:=Zc) x.1 x.2.1),QaH (Yr x.1 x.2.1))
def QcO:List TRow:=[Qdu]
def Qxe:TCode :=
 (zsq [(zsq [(.reg [zmv 35 8,zfa 36 2 0,zld 37 36 1,zmv 38 6,zia 39 37 38 [(.sl [TI])],zfa 40 39 0,zld 41 40 1,zle 42 41,zbi 43 .lss 35 42,zmv 44 43,.grp 44 true [zmv 45 8,zfa 46 3 0,zld 47 46 1,zmv 48 6,zia 49 47 48 [(.sl [TI])],zfa 50 49 0,zld 51 50 1,zle 52 51,zbi 53 .lss 45 52] 54 53]),(.cond 54 .skip (.exit 2))]),(.block 3 (zsq [(.draw [zfa 58 2 0,zld 59 58 1,zmv 60 6,zia 61 59 60 [(.sl [TI])],zfa 62 61 0,zld 63 62 1,zmv 64 8,zia 65 63 64 [TI],zld 66 65 1,zfa 67 3 0,zld 68 67 1,zmv 69 6,zia 70 68 69 [(.sl [TI])],zfa 71 70 0,zld 72 71 1,zmv 73 8,zia 74 72 73 [TI],zld 75 74 1,zca 76 121 [66,75],zmv 57 76,zex 77 57 0,zex 78 57 1,zmv 9 77,zmv 10 78] []),(.reg [zfa 79 7 0,zld 80 79 1,zmv 81 9,zop 82 (.bsl 3 [TI] [81]),zop 83 (.app 80 82 3 [TI]),zfa 84 7 0,zst 84 83 1]),(.reg [zfa 85 5 2,zld 86 85 1,zmv 87 86,.grp 87 false [zmv 88 10] 89 88,zfa 90 5 2,zst 90 89 1])])),(.reg [zmv 55 8,zbi 56 .add 55 (zki 1),zmv 8 56])])
def Qxw:List (Nat × Md):=[(2,.b [.d,.d,.d]),(3,.b [.d,.d,.d]),(4,.b [.d,.d,.d]),(5,.b [.f,.d,.d]),(6,.one .d),(7,.b [.o 3]),(8,.one .d)]
def QsP:TCode :=
 (.reg [zfa 91 5 0,zld 92 91 1,zLd 93 7 1,zop 94 (.bsl 129 [(.sl [TI])] [93]),zop 95 (.app 92 94 129 [(.sl [TI])]),zfa 96 5 0,zst 96 95 1])
def Qvz:TCode :=
 (.reg [zmv 32 6,zbi 33 .add 32 (zki 1),zmv 6 33])
def Qjl:TCode :=
 (zsq [(zsq [(.reg [zmv 20 6,zfa 21 2 0,zld 22 21 1,zle 23 22,zbi 24 .lss 20 23,zmv 25 24,.grp 25 true [zmv 26 6,zfa 27 3 0,zld 28 27 1,zle 29 28,zbi 30 .lss 26 29] 31 30]),(.cond 31 .skip (.exit 0))]),(.block 1 (zsq [(.reg [zop 34 (.build [(.n [TI])] []),zop 7 (.new 129 [(.n [TI])]),zst 7 34 1]),(zsq [(.reg [zmv 8 (zki 0)]),(.block 2 (.loop Qxw Qxe))]),QsP])),Qvz])
def Qiq:List (Nat × Md):=[(2,.b [.d,.d,.d]),(3,.b [.d,.d,.d]),(4,.b [.d,.d,.d]),(5,.b [.o 129,.d,.d]),(6,.one .d)]
def QyP:TCode :=
 (zsq [(.reg [zfa 98 2 1,zld 99 98 1,zfa 100 3 1,zld 101 100 1,zca 102 121 [99,101],zmv 97 102,zex 103 97 0,zex 104 97 1,zmv 11 103,zmv 12 104]),(.reg [zmv 105 11,zfa 106 5 1,zst 106 105 1]),(.reg [zfa 107 5 2,zld 108 107 1,zmv 109 108,.grp 109 false [zmv 110 12] 111 110,zfa 112 5 2,zst 112 111 1]),(.reg [zLd 113 5 3,zst 4 113 3]),.ret])
def QNK:TCode :=
 (zsq [(.reg [zop 2 (.box 46 0 3),zop 3 (.box 46 1 3),zop 4 (.new 46 (z0s ZN))]),(.reg [zfa 13 2 2,zld 14 13 1,zmv 15 14,.grp 15 false [zfa 16 3 2,zld 17 16 1] 18 17,zop 19 (.build (z0s ZN) [(2,1,18)]),zop 5 (.new 46 (z0s ZN)),zst 5 19 3]),(zsq [(.reg [zmv 6 (zki 0)]),(.block 0 (.loop Qiq Qjl))]),QyP])
def Qy2:List (ARv × Md):=[(.l 4 3 true,.b [.d,.d,.d])]
def QqQ:Qb:=TQ 0 0 Qy2 K
def QG1:Qb:=Qseq (tawp QcO 0 QyP (QqQ K)) (QqQ K)
def Qk2:Qb:=Qblk 0 (QG1 K)
def Qud:Qb:=Qseq (fun s'=>Loop QcO 0 Qiq Qjl (Qk2 K) (gc 0 Qiq s')) (Qk2 K)
def QFL:Qb:=Qseq (tawp QcO 0 Qvz (Qud K)) (Qud K)
def QwX:Qb:=Qblk 1 (QFL K)
def QRk:Qb:=Qseq (tawp QcO 0 QsP (QwX K)) (QwX K)
def QEB:Qb:=Qblk 2 (QRk K)
def Qip (a:Zc) (b:Zc) (k:Int) (g2:Bool) (row0:List Int) (i:Int) (g01:List (List Int)):Prop:=Loop QcO 0 Qxw Qxe (QEB K) ⟨[(2,(.p 0 0 0)),(3,(.p 1 0 0)),(4,(.p 2 0 0)),(5,(.p 4 0 0)),(6,(zci i)),(7,(.p 6 0 0)),(8,(zci k))],[(0,(.box (Tup.cells ZN a))),(1,(.box (Tup.cells ZN b))),(2,(.box (Tup.cells ZN ([],(0:Int),false)))),(3,(.sl 129 [(.sl [TI])] true g01)),(4,(.box [(.r [(.sl [TI])] 3 0 g01.length),(zci 0),(zcb g2)])),(5,(.sl 3 [TI] true row0)),(6,(.box [(.r [TI] 5 0 row0.length)]))],7⟩
def Qgx (a:Zc) (b:Zc) (i:Int) (g0:List (List Int)) (g21:Bool):Prop:=Loop QcO 0 Qiq Qjl (Qk2 K) ⟨[(2,(.p 0 0 0)),(3,(.p 1 0 0)),(4,(.p 2 0 0)),(5,(.p 4 0 0)),(6,(zci i))],[(0,(.box (Tup.cells ZN a))),(1,(.box (Tup.cells ZN b))),(2,(.box (Tup.cells ZN ([],(0:Int),false)))),(3,(.sl 129 [(.sl [TI])] true g0)),(4,(.box [(.r [(.sl [TI])] 3 0 g0.length),(zci 0),(zcb g21)]))],5⟩
theorem Qpd (a:Zc) (b:Zc) (k:Int) (g2:Bool) (row0:List Int) (i:Int) (g01:List (List Int)) (h :
((((0:Int)≤i∧Int.toNat i<(a.1).length)∧((decide (k<((gtd ([]:List Int) a.1 (Int.toNat i)).length:Int)))=true→((0:Int)≤i∧Int.toNat i<(b.1).length)))∧(zif ((decide (k<((gtd ([]:List Int) a.1 (Int.toNat i)).length:Int)))&&(decide (k<((gtd ([]:List Int) b.1 (Int.toNat i)).length:Int)))) ((((0:Int)≤i∧Int.toNat i<(a.1).length)∧(((0:Int)≤k∧Int.toNat k<(gtd ([]:List Int) a.1 (Int.toNat i)).length)∧(((0:Int)≤i∧Int.toNat i<(b.1).length)∧((0:Int)≤k∧Int.toNat k<(gtd ([]:List Int) b.1 (Int.toNat i)).length))))∧(((row0.length=row0.length∨row0.length+1≤row0.length)∧row0.length+1≤big)∧(Qip K a b (w64 (k+(1:Int))) (g2||((Zk (gtd (0:Int) (gtd ([]:List Int) a.1 (Int.toNat i)) (Int.toNat k)) (gtd (0:Int) (gtd ([]:List Int) b.1 (Int.toNat i)) (Int.toNat k))).2)) (List.take (row0.length+1) ((List.take row0.length row0)++([(Zk (gtd (0:Int) (gtd ([]:List Int) a.1 (Int.toNat i)) (Int.toNat k)) (gtd (0:Int) (gtd ([]:List Int) b.1 (Int.toNat i)) (Int.toNat k))).1]))) i (List.take g01.length g01)))) (((g01.length=g01.length∨g01.length+1≤g01.length)∧g01.length+1≤big)∧(Qgx K a b (w64 (i+(1:Int))) (List.take (g01.length+1) ((List.take g01.length g01)++([(List.take row0.length (List.drop 0 row0))]))) g2))))):Qip K a b k g2 row0 i g01 :=
 Loop.of (by kernel_rfl) h
theorem QnS (a:Zc) (b:Zc) (i:Int) (g0:List (List Int)) (g21:Bool) (h :
(zif ((decide (i<((a.1).length:Int)))&&(decide (i<((b.1).length:Int)))) (Qip K a b 0 g21 ([]:List Int) i (List.take g0.length g0)) (K (QaH ((List.take g0.length (List.drop 0 g0)),(Zk a.2.1 b.2.1).1,(g21||((Zk a.2.1 b.2.1).2))))))):Qgx K a b i g0 g21 :=
 Loop.of (by kernel_rfl) h
theorem QK1 (a:Zc) (b:Zc) (h :
(Qgx K a b 0 ([]:List (List Int)) (a.2.2||b.2.2))):Hold (tawp QcO (0+0) QNK (TQ 0 0 Qy2 K) (Qf [(.a (Tup.cells ZN a)),(.a (Tup.cells ZN b))])) :=
 Hold.of (by kernel_rfl) h
theorem QQD (a:Zc) (b:Zc) (hp:JU (α:=Zc) (β:=Zc) a b):TCon Tryz.prog 89 [(.a (Tup.cells ZN a)),(.a (Tup.cells ZN b))] (QaH (Yr a b)):=by
 refine Qq rfl fun hb=>tcg (n:=114) (sg:=Qls.sg) Ql (TOk.cons QiO TOk.nil) (by kernel_rfl) (by kernel_rfl) (QK1 _ a b ?_)
 have hl_a_0:(a.1).length≤9223372036854775807:=hb.1.1.1
 have hl_b_0:(b.1).length≤9223372036854775807:=hb.2.1.1.1
 unfold JU at hp
 simp only [YA,Yd,Qbk] at hp
 have ha:=Qa3 a.1
 refine Zi a.1 (fun r k=>∀ (v:List (List Int)) (z:Bool),v.length=k→v++(Zf r (b.1.drop k)).1=(Zf a.1 b.1).1→(z||(Zf r (b.1.drop k)).2)=(a.2.2||b.2.2||(Zf a.1 b.1).2)→Qgx (fun r'=>r'=QaH (Yr a b)) a b k v z) ?_ ?_ [] _ rfl (by simp) (by simp)
 ·intro v z hv he hz
  refine QnS (fun r'=>r'=QaH (Yr a b)) a b _ _ _ ⟨fun h=>by simp at h,fun _=>R_eq ?_⟩
  unfold Yr;rw [← he,← hz];simp [Zf]
 ·intro k x r hk hlt hg ih v z hv he hz
  by_cases hkb:k<b.1.length
  ·obtain ⟨y,q,hq⟩:=QbJ (l:=b.1) (k:=k) hkb
   have hx:=Qws hk
   have hxl:=Ja x
   refine QnS (fun r'=>r'=QaH (Yr a b)) a b _ _ _ ⟨fun _=>?_,fun h=>by simp at h;omega⟩
   rw [List.take_length]
   refine Zi x (fun r2 j=>∀ (w:List Int) (z2:Bool),w.length=j→w++(vz Zk r2 (y.drop j)).1=(vz Zk x y).1→(z2||(vz Zk r2 (y.drop j)).2)=(z||(vz Zk x y).2)→Qip (fun r'=>r'=QaH (Yr a b)) a b j z2 w k v) ?_ ?_ [] z rfl (by simp) (by simp)
   ·intro w z2 hw he2 hz2
    refine Qpd (fun r'=>r'=QaH (Yr a b)) a b _ _ _ _ _ ?_
    rw [Int.toNat_natCast,hg,Y4 hq]
    refine ⟨⟨⟨by omega,hlt⟩,fun h=>by simp at h⟩,fun h=>by simp at h,fun _=>⟨room (by omega),?_⟩⟩
    rw [QnD,sc1 (by omega),Zv]
    simp only [vz,List.append_nil,Bool.or_false] at he2 hz2
    refine ih _ _ (JY hv) ?_ ?_
    ·rw [← he,hq,Zf,YN hq,he2];simp
    ·rw [← hz,hq,Zf,YN hq,hz2];simp [Bool.or_assoc]
   ·intro j e r2 hj hlt2 hg2 ih2 w z2 hw he2 hz2
    refine Qpd (fun r'=>r'=QaH (Yr a b)) a b _ _ _ _ _ ?_
    rw [Int.toNat_natCast,Int.toNat_natCast,hg,Y4 hq]
    by_cases hjy:j<y.length
    ·obtain ⟨f,q2,hq2⟩:=QbJ (l:=y) (k:=j) hjy
     refine ⟨⟨⟨by omega,hlt⟩,fun _=>⟨by omega,hkb⟩⟩,fun _=>?_,fun h=>by simp at h;omega⟩
     rw [hg2,Y4 hq2,sc1 (by omega),Zv,List.take_length]
     refine ⟨⟨⟨by omega,hlt⟩,⟨by omega,hlt2⟩,⟨by omega,hkb⟩,by omega,hjy⟩,room (by omega),ih2 _ _ (JY hw) ?_ ?_⟩
     ·rw [← he2,hq2,vz,YN hq2];simp
     ·rw [← hz2,hq2,vz,YN hq2];simp [Bool.or_assoc]
    ·refine ⟨⟨⟨by omega,hlt⟩,fun _=>⟨by omega,hkb⟩⟩,fun h=>by simp at h;omega,fun _=>⟨room (by omega),?_⟩⟩
     rw [QnD,sc1 (by omega),Zv]
     rw [QuI (l:=y) (by omega)] at he2 hz2
     simp only [vz,List.append_nil,Bool.or_false] at he2 hz2
     refine ih _ _ (JY hv) ?_ ?_
     ·rw [← he,hq,Zf,YN hq,he2];simp
     ·rw [← hz,hq,Zf,YN hq,hz2];simp [Bool.or_assoc]
  ·refine QnS (fun r'=>r'=QaH (Yr a b)) a b _ _ _ ⟨fun h=>by simp at h;omega,fun _=>R_eq ?_⟩
   unfold Yr;rw [← he,← hz,QuI (l:=b.1) (by omega)];simp [Zf]
theorem QFQ:Qi Tryz.prog Qls:=Qm fun x h=>QQD x.1 x.2.1 h
end
end Go.Proofs.YtjbdljkhbglnhaaGreat.Am

