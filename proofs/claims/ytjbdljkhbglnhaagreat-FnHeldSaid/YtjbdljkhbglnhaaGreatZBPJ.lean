/- -/
import Derived.Test.YtjbdljkhbglnhaaGreatZBPF
import Derived.Test.YtjbdljkhbglnhaaGreatZBP4
namespace Go.Proofs.YtjbdljkhbglnhaaGreat.Am
open Go Go.RowKit Go.Proofs.YtjbdljkhbglnhaaGreat
set_option linter.all false
noncomputable section
variable (K:TRes→Prop)
def Qcc (t:(List TOp')):TRes:=zra (zcs ctOp t)
def Qg8:TRow:=Qi 151 [(.c (.sl ctOp))] fun x=>(some (QC (α:=List TOp') x.1),Qcc (id (α:=List TOp') x.1))
def Qla:List TRow:=[Qal]
def QsA:TCode :=
 (zsq [(.reg [zbi 10 .lss 9 8]),(.cond 10 .skip (.exit 0)),(.block 1 (zsq [(.reg [zia 11 7 9 ctOp,zLd 12 11 4,zop 5 (.new 69 (z0s ctOp)),zst 5 12 4]),(.draw [zmv 13 3,zfa 14 5 0,zld 15 14 1,zfa 16 5 1,zld 17 16 1,zfa 18 5 2,zld 19 18 1,zfa 20 5 3,zld 21 20 1,zca 22 119 [21],zop 23 (.build (z0s ctOp) [(0,1,15),(1,1,17),(2,1,19),(3,1,22)]),zop 24 (.bsl 69 ctOp [23]),zop 25 (.app 13 24 69 ctOp),zmv 3 25] [(1,9),(2,9),(3,9),(4,9),(5,9),(6,9)])])),(.reg [zbi 26 .add 9 (zki 1),zmv 9 26])])
def QoI:List (Nat × Md):=[(3,.one .f),(7,.one .d),(8,.one .d),(9,.one .d)]
def Qqr:TCode :=
 (zsq [(.reg [zmv 27 3,zmv 2 27]),.ret])
def QDk:TCode :=
 (zsq [(.reg [zmv 2 (.k (.n ctOp))]),(.reg [zop 6 (.bsl 69 ctOp []),zmv 3 6]),(zsq [(.reg [zmv 7 0,zle 8 7,zmv 9 (zki 0)]),(.block 0 (.loop QoI QsA))]),Qqr])
def QrQ:List (ARv × Md):=[(.t 2,.one .d)]
def QwD:Qb:=TQ 0 0 QrQ K
def QOy:Qb:=Qseq (tawp Qla 0 Qqr (QwD K)) (QwD K)
def QPi:Qb:=Qblk 0 (QOy K)
def Qi8 (l:List TOp') (x:Int) (ops:List TOp'):Prop:=Loop Qla 0 QoI QsA (QPi K) ⟨[(3,(.r ctOp 0 0 ops.length)),(7,(zcs ctOp l)),(8,(zci (l.length:Int))),(9,(zci x))],[(0,(.sl 69 ctOp true ops))],1⟩
theorem QuV (l:List TOp') (x:Int) (ops:List TOp') (h :
 (zif (decide (x<(l.length:Int))) (((0:Int)≤x∧Int.toNat x<l.length)∧(((QC (α:=List Int) ((gtd dOp l (Int.toNat x)).2.2.2))∧((ops.length=ops.length∨ops.length+1≤ops.length)∧ops.length+1≤big))∧(Qi8 K l (w64 (x+(1:Int))) (List.take (ops.length+1) ((List.take ops.length ops)++([((gtd dOp l (Int.toNat x)).1,(gtd dOp l (Int.toNat x)).2.1,(gtd dOp l (Int.toNat x)).2.2.1,(List.take ((id (α:=List Int) ((gtd dOp l (Int.toNat x)).2.2.2)).length) (List.drop 0 (id (α:=List Int) ((gtd dOp l (Int.toNat x)).2.2.2)))))])))))) (K (Qcc (List.take ops.length (List.drop 0 ops)))))):Qi8 K l x ops :=
 Loop.of (by kernel_rfl) h
theorem QDr (l:List TOp') (h :
 (Qi8 K l 0 ([]:List TOp'))):Hold (tawp Qla (0+0) QDk (TQ 0 0 QrQ K) (Qf [(.c (.sl ctOp) l)])) :=
 Hold.of (by kernel_rfl) h
theorem QOn (l:List TOp') (hp:QC (α:=List TOp') l):TCon Tryz.prog 151 [(.c (.sl ctOp) l)] (Qcc (id (α:=List TOp') l)):=by
 refine Qr rfl fun hb=>tcg (n:=28) (sg:=Qg8.sg) Qk (TOk.cons Qa7 TOk.nil) (by kernel_rfl) (by kernel_rfl) (QDr _ l ?_)
 have hl_l:l.length≤9223372036854775807:=hb.1.1
 refine QbX (Q:=fun z=>Qcc z=Qcc (id (α:=List TOp') l)) hp (fun k x v hk hl hg hv hx ih=>?_) (fun hq=>?_) (R_eq rfl)
 ·refine QuV (fun r'=>r'=Qcc (id (α:=List TOp') l)) l _ _ ⟨fun _=>?_,fun h=>by simp at h;omega⟩
  try simp only [Yx,Yi,Qbo] at hx
  rw [Int.toNat_natCast,hg,sc1 (by omega),Zn,QdT]
  exact ⟨⟨by omega,hk⟩,⟨(show Sz.sz (_:List Int)≤2147483648 by omega),room (by omega)⟩,ih⟩
 ·refine QuV (fun r'=>r'=Qcc (id (α:=List TOp') l)) l _ _ ⟨fun h=>by simp at h,fun _=>?_⟩
  exact R_eq (by simp)
theorem QpZ:Qj Tryz.prog Qg8:=Qm fun x h=>QOn x.1 h
def QcV (t:(List (List Int))):TRes:=zra (zcs [(.sl [TI])] t)
def Qei:TRow:=Qi 86 [(.c (.sl [(.sl [TI])]))] fun x=>(some (QC (α:=List (List Int)) x.1),QcV (id (α:=List (List Int)) x.1))
def Qmk:List TRow:=[Qal]
def Qpx:TCode :=
 (zsq [(.reg [zbi 10 .lss 9 8]),(.cond 10 .skip (.exit 0)),(.block 1 (zsq [(.reg [zia 11 7 9 [(.sl [TI])],zLd 12 11 1,zop 5 (.new 129 [(.n [TI])]),zst 5 12 1]),(.reg [zmv 13 3,zfa 14 5 0,zld 15 14 1,zca 16 119 [15],zop 17 (.build [(.n [TI])] [(0,1,16)]),zop 18 (.bsl 129 [(.sl [TI])] [17]),zop 19 (.app 13 18 129 [(.sl [TI])]),zmv 3 19])])),(.reg [zbi 20 .add 9 (zki 1),zmv 9 20])])
def Qzr:List (Nat × Md):=[(3,.one .f),(7,.one .d),(8,.one .d),(9,.one .d)]
def Qof:TCode :=
 (zsq [(.reg [zmv 21 3,zmv 2 21]),.ret])
def QBF:TCode :=
 (zsq [(.reg [zmv 2 (.k (.n [(.sl [TI])]))]),(.reg [zop 6 (.bsl 129 [(.sl [TI])] []),zmv 3 6]),(zsq [(.reg [zmv 7 0,zle 8 7,zmv 9 (zki 0)]),(.block 0 (.loop Qzr Qpx))]),Qof])
def Qyl:List (ARv × Md):=[(.t 2,.one .d)]
def Qoe:Qb:=TQ 0 0 Qyl K
def QN4:Qb:=Qseq (tawp Qmk 0 Qof (Qoe K)) (Qoe K)
def QGY:Qb:=Qblk 0 (QN4 K)
def QjG (l:List (List Int)) (x:Int) (rows:List (List Int)):Prop:=Loop Qmk 0 Qzr Qpx (QGY K) ⟨[(3,(.r [(.sl [TI])] 0 0 rows.length)),(7,(zcs [(.sl [TI])] l)),(8,(zci (l.length:Int))),(9,(zci x))],[(0,(.sl 129 [(.sl [TI])] true rows))],1⟩
theorem QxL (l:List (List Int)) (x:Int) (rows:List (List Int)) (h :
 (zif (decide (x<(l.length:Int))) (((0:Int)≤x∧Int.toNat x<l.length)∧(((QC (α:=List Int) (gtd ([]:List Int) l (Int.toNat x)))∧((rows.length=rows.length∨rows.length+1≤rows.length)∧rows.length+1≤big))∧(QjG K l (w64 (x+(1:Int))) (List.take (rows.length+1) ((List.take rows.length rows)++([(List.take ((id (α:=List Int) (gtd ([]:List Int) l (Int.toNat x))).length) (List.drop 0 (id (α:=List Int) (gtd ([]:List Int) l (Int.toNat x)))))])))))) (K (QcV (List.take rows.length (List.drop 0 rows)))))):QjG K l x rows :=
 Loop.of (by kernel_rfl) h
theorem QzT (l:List (List Int)) (h :
 (QjG K l 0 ([]:List (List Int)))):Hold (tawp Qmk (0+0) QBF (TQ 0 0 Qyl K) (Qf [(.c (.sl [(.sl [TI])]) l)])) :=
 Hold.of (by kernel_rfl) h
theorem QGu (l:List (List Int)) (hp:QC (α:=List (List Int)) l):TCon Tryz.prog 86 [(.c (.sl [(.sl [TI])]) l)] (QcV (id (α:=List (List Int)) l)):=by
 refine Qr rfl fun hb=>tcg (n:=22) (sg:=Qei.sg) Qk (TOk.cons Qa7 TOk.nil) (by kernel_rfl) (by kernel_rfl) (QzT _ l ?_)
 have hl_l:l.length≤9223372036854775807:=hb.1.1
 refine QbX (Q:=fun z=>QcV z=QcV (id (α:=List (List Int)) l)) hp (fun k x v hk hl hg hv hx ih=>?_) (fun hq=>?_) (R_eq rfl)
 ·refine QxL (fun r'=>r'=QcV (id (α:=List (List Int)) l)) l _ _ ⟨fun _=>?_,fun h=>by simp at h;omega⟩
  try simp only [Yx,Yi,Qbo] at hx
  rw [Int.toNat_natCast,hg,sc1 (by omega),Zn,QdT]
  exact ⟨⟨by omega,hk⟩,⟨(show Sz.sz (_:List Int)≤2147483648 by omega),room (by omega)⟩,ih⟩
 ·refine QxL (fun r'=>r'=QcV (id (α:=List (List Int)) l)) l _ _ ⟨fun h=>by simp at h,fun _=>?_⟩
  exact R_eq (by simp)
theorem Qnp:Qj Tryz.prog Qei:=Qm fun x h=>QGu x.1 h
def QcN (t:(List Qg)):TRes:=zra (zcs QB t)
def Qgh:TRow:=Qi 70 [(.c (.sl QB))] fun x=>(some (QC (α:=List Qg) x.1),QcN (id (α:=List Qg) x.1))
def QkE:List TRow:=[Qal]
def Qob:TCode :=
 (zsq [(.reg [zbi 10 .lss 9 8]),(.cond 10 .skip (.exit 0)),(.block 1 (zsq [(.reg [zia 11 7 9 QB,zLd 12 11 2,zop 5 (.new 108 (z0s QB)),zst 5 12 2]),(.draw [zmv 13 3,zfa 14 5 0,zld 15 14 1,zca 16 119 [15],zfa 17 5 1,zld 18 17 1,zca 19 119 [18],zop 20 (.build (z0s QB) [(0,1,16),(1,1,19)]),zop 21 (.bsl 108 QB [20]),zop 22 (.app 13 21 108 QB),zmv 3 22] [(3,4),(3,5)])])),(.reg [zbi 23 .add 9 (zki 1),zmv 9 23])])
def Qq0:List (Nat × Md):=[(3,.one .f),(7,.one .d),(8,.one .d),(9,.one .d)]
def QyN:TCode :=
 (zsq [(.reg [zmv 24 3,zmv 2 24]),.ret])
def QL1:TCode :=
 (zsq [(.reg [zmv 2 (.k (.n QB))]),(.reg [zop 6 (.bsl 108 QB []),zmv 3 6]),(zsq [(.reg [zmv 7 0,zle 8 7,zmv 9 (zki 0)]),(.block 0 (.loop Qq0 Qob))]),QyN])
def Qxi:List (ARv × Md):=[(.t 2,.one .d)]
def QwY:Qb:=TQ 0 0 Qxi K
def QBP:Qb:=Qseq (tawp QkE 0 QyN (QwY K)) (QwY K)
def QFR:Qb:=Qblk 0 (QBP K)
def Qmp (b:List Qg) (x:Int) (Yv:List Qg):Prop:=Loop QkE 0 Qq0 Qob (QFR K) ⟨[(3,(.r QB 0 0 Yv.length)),(7,(zcs QB b)),(8,(zci (b.length:Int))),(9,(zci x))],[(0,(.sl 108 QB true Yv))],1⟩
theorem Qyk (b:List Qg) (x:Int) (Yv:List Qg) (h :
 (zif (decide (x<(b.length:Int))) (((0:Int)≤x∧Int.toNat x<b.length)∧(((QC (α:=List Int) ((gtd Zh b (Int.toNat x)).1))∧((QC (α:=List Int) ((gtd Zh b (Int.toNat x)).2))∧((Yv.length=Yv.length∨Yv.length+1≤Yv.length)∧Yv.length+1≤big)))∧(Qmp K b (w64 (x+(1:Int))) (List.take (Yv.length+1) ((List.take Yv.length Yv)++([((List.take ((id (α:=List Int) ((gtd Zh b (Int.toNat x)).1)).length) (List.drop 0 (id (α:=List Int) ((gtd Zh b (Int.toNat x)).1)))),(List.take ((id (α:=List Int) ((gtd Zh b (Int.toNat x)).2)).length) (List.drop 0 (id (α:=List Int) ((gtd Zh b (Int.toNat x)).2)))))])))))) (K (QcN (List.take Yv.length (List.drop 0 Yv)))))):Qmp K b x Yv :=
 Loop.of (by kernel_rfl) h
theorem QIB (b:List Qg) (h :
 (Qmp K b 0 ([]:List Qg))):Hold (tawp QkE (0+0) QL1 (TQ 0 0 Qxi K) (Qf [(.c (.sl QB) b)])) :=
 Hold.of (by kernel_rfl) h
theorem QKW (b:List Qg) (hp:QC (α:=List Qg) b):TCon Tryz.prog 70 [(.c (.sl QB) b)] (QcN (id (α:=List Qg) b)):=by
 refine Qr rfl fun hb=>tcg (n:=25) (sg:=Qgh.sg) Qk (TOk.cons Qa7 TOk.nil) (by kernel_rfl) (by kernel_rfl) (QIB _ b ?_)
 have hl_b:b.length≤9223372036854775807:=hb.1.1
 refine QbX (Q:=fun z=>QcN z=QcN (id (α:=List Qg) b)) hp (fun k x v hk hl hg hv hx ih=>?_) (fun hq=>?_) (R_eq rfl)
 ·refine Qyk (fun r'=>r'=QcN (id (α:=List Qg) b)) b _ _ ⟨fun _=>?_,fun h=>by simp at h;omega⟩
  try simp only [Yx,Yi,Qbo] at hx
  rw [Int.toNat_natCast,hg,sc1 (by omega),Zn,QdT,QdT]
  exact ⟨⟨by omega,hk⟩,⟨(show Sz.sz (_:List Int)≤2147483648 by omega),(show Sz.sz (_:List Int)≤2147483648 by omega),room (by omega)⟩,ih⟩
 ·refine Qyk (fun r'=>r'=QcN (id (α:=List Qg) b)) b _ _ ⟨fun h=>by simp at h,fun _=>?_⟩
  exact R_eq (by simp)
theorem Qye:Qj Tryz.prog Qgh:=Qm fun x h=>QKW x.1 h
def Qjq (t:Zi):TRes:=zra (.a (Tup.cells ZN t))
def QnF:TRow:=Qi 184 [(.a ZN)] fun x=>(some (QC (α:=Zi) x.1),Qjq (id (α:=Zi) x.1))
def QLP:List TRow:=[Qei]
def QE2:TCode :=
 (zsq [(.reg [zop 1 (.box 46 0 3),zop 2 (.new 46 (z0s ZN))]),(.draw [zfa 3 1 0,zld 4 3 1,zca 5 86 [4],zfa 6 1 1,zld 7 6 1,zfa 8 1 2,zld 9 8 1,zop 10 (.build (z0s ZN) [(0,1,5),(1,1,7),(2,1,9)]),zst 2 10 3] [(2,3),(2,4),(2,5),(2,6)]),.ret])
def QPS:List (ARv × Md):=[(.l 2 3 true,.b [.d,.d,.d])]
theorem QAk (g:Zi) (h :
 ((QC (α:=List (List Int)) g.1)∧K (Qjq ((id (α:=List (List Int)) g.1),g.2.1,g.2.2)))):Hold (tawp QLP (0+0) QE2 (TQ 0 0 QPS K) (Qf [(.a (Tup.cells ZN g))])) :=
 Hold.of (by kernel_rfl) h
theorem QJ2 (g:Zi) (hp:QC (α:=Zi) g):TCon Tryz.prog 184 [(.a (Tup.cells ZN g))] (Qjq (id (α:=Zi) g)):=by
 refine Qr rfl fun hb=>tcg (n:=11) (sg:=QnF.sg) Qk (TOk.cons Qnp TOk.nil) (by kernel_rfl) (by kernel_rfl) (QAk _ g ?_)
 have hl_g_0:(g.1).length≤9223372036854775807:=hb.1.1.1
 unfold QC at hp
 simp only [Yx,Yi,Qbo] at hp
 exact ⟨hp,R_eq rfl⟩
theorem QzQ:Qj Tryz.prog QnF:=Qm fun x h=>QJ2 x.1 h
def QcJ (t:Zi):TRes:=zra (.a (Tup.cells ZN t))
def QmH:TRow:=Qi 88 [(.a [(.sl ctOp)])] fun x=>(none,QcJ (Yl x.1))
def QkC:List TRow:=[JV]
def QxQ:TCode :=
 (zsq [(.reg [zbi 15 .lss 14 13]),(.cond 15 .skip (.exit 0)),(.block 1 (zsq [(.reg [zia 16 12 14 ctOp,zLd 17 16 4,zop 5 (.new 69 (z0s ctOp)),zst 5 17 4]),(.draw [zfa 18 3 0,zld 19 18 1,zfa 20 5 3,zld 21 20 1,zle 22 21,zop 23 (.mk 3 [TI] [(zci 0)] 22),zop 24 (.build [(.n [TI])] [(0,1,23)]),zop 25 (.bsl 129 [(.sl [TI])] [24]),zop 26 (.app 19 25 129 [(.sl [TI])]),zfa 27 3 0,zst 27 26 1] [(0,5),(1,5),(0,7),(1,7)])])),(.reg [zbi 28 .add 14 (zki 1),zmv 14 28])])
def Qpr:List (Nat × Md):=[(2,.b [.d,.d,.d]),(3,.b [.o 129,.d,.d]),(12,.one .d),(13,.one .d),(14,.one .d)]
def QxS:TCode :=
 (zsq [(.reg [zLd 29 3 3,zst 2 29 3]),.ret])
def QA6:TCode :=
 (zsq [(.reg [zop 1 (.box 26 0 1),zop 2 (.new 46 (z0s ZN))]),(zsq [(.reg [zLd 6 1 1,zca 7 131 [6],zno 8 7]),(.cond 8 (zsq [(.reg [zop 9 (.build (z0s ZN) []),zst 2 9 3]),.ret]) .skip)]),(.reg [zop 10 (.build (z0s ZN) []),zop 3 (.new 46 (z0s ZN)),zst 3 10 3]),(zsq [(.reg [zfa 11 1 0,zld 12 11 1,zle 13 12,zmv 14 (zki 0)]),(.block 0 (.loop Qpr QxQ))]),QxS])
def Qxu:List (ARv × Md):=[(.l 2 3 true,.b [.d,.d,.d])]
def QoK:Qb:=TQ 0 0 Qxu K
def QKn:Qb:=Qseq (tawp QkC 0 QxS (QoK K)) (QoK K)
def QAd:Qb:=Qblk 0 (QKn K)
def QiB (m:List TOp') (x:Int) (g0:List (List Int)):Prop:=Loop QkC 0 Qpr QxQ (QAd K) ⟨[(2,(.p 0 0 0)),(3,(.p 2 0 0)),(12,(zcs ctOp m)),(13,(zci (m.length:Int))),(14,(zci x))],[(0,(.box (Tup.cells ZN ([],(0:Int),false)))),(1,(.sl 129 [(.sl [TI])] true g0)),(2,(.box [(.r [(.sl [TI])] 1 0 g0.length),(zci 0),(zcb false)]))],3⟩
theorem QwN (m:List TOp') (x:Int) (g0:List (List Int)) (h :
 (zif (decide (x<(m.length:Int))) (((0:Int)≤x∧Int.toNat x<m.length)∧((((0:Int)≤(((gtd dOp m (Int.toNat x)).2.2.2).length:Int)∧(((gtd dOp m (Int.toNat x)).2.2.2).length:Int)≤big)∧((g0.length=g0.length∨g0.length+1≤g0.length)∧g0.length+1≤big))∧(QiB K m (w64 (x+(1:Int))) (List.take (g0.length+1) ((List.take g0.length g0)++([(List.take (Int.toNat (((gtd dOp m (Int.toNat x)).2.2.2).length:Int)) (List.drop 0 (List.replicate (Int.toNat (((gtd dOp m (Int.toNat x)).2.2.2).length:Int)) (0:Int))))])))))) (K (QcJ ((List.take g0.length (List.drop 0 g0)),(0:Int),false))))):QiB K m x g0 :=
 Loop.of (by kernel_rfl) h
theorem QO1 (m:List TOp') (h :
 (zif (!(QN m)) (K (QcJ ([],(0:Int),false))) (QiB K m 0 ([]:List (List Int))))):Hold (tawp QkC (0+0) QA6 (TQ 0 0 Qxu K) (Qf [(.a [(.c (.sl ctOp) m)])])) :=
 Hold.of (by kernel_rfl) h
theorem QNG (m:List TOp'):TCon Tryz.prog 88 [(.a [(.c (.sl ctOp) m)])] (QcJ (Yl m)):=by
 refine Qr rfl fun hb=>tcg (n:=30) (sg:=QmH.sg) Qk (TOk.cons QaP TOk.nil) (by kernel_rfl) (by kernel_rfl) (QO1 _ m ?_)
 have hl_m_0:(m).length≤9223372036854775807:=hb.1.1.1
 refine ⟨fun h=>R_eq (by unfold Yl;rw [if_neg (by simpa using h)]),fun h=>?_⟩
 have hm:QN m=true:=by simpa using h
 have hl:=YY hm
 have hv:(Yl m)=(m.map fun o=>List.replicate o.2.2.2.length (0:Int),0,false):=by unfold Yl;rw [if_pos hm]
 refine Zt m (fun r k=>∀ v:List (List Int),v.length=k→v++r.map (fun o=>List.replicate o.2.2.2.length (0:Int))=m.map (fun o=>List.replicate o.2.2.2.length (0:Int))→QiB (fun r'=>r'=QcJ (Yl m)) m k v) ?_ ?_ [] rfl rfl
 ·intro v hk he
  refine QwN (fun r'=>r'=QcJ (Yl m)) m _ _ ⟨fun h=>by simp at h,fun _=>R_eq ?_⟩
  rw [hv,← he];simp
 ·intro k x r hk hlt hg ih v hvl he
  have ho:=Qna (Qmy hm hlt)
  rw [hg] at ho
  refine QwN (fun r'=>r'=QcJ (Yl m)) m _ _ ⟨fun _=>?_,fun h=>by simp [hm] at h;omega⟩
  rw [Int.toNat_natCast,hg,sc1 (by omega),Int.toNat_natCast,Zn,QJQ]
  refine ⟨⟨by omega,hlt⟩,⟨⟨by omega,by rw [bigI];omega⟩,room (by omega)⟩,ih _ (JQ hvl) ?_⟩
  rw [← he];simp
theorem QIc:Qj Tryz.prog QmH:=Qm fun x _=>QNG x.1
def Qat (t:Zi):TRes:=zra (.a (Tup.cells ZN t))
def QnO:TRow:=Qi 89 [(.a ZN),(.a ZN)] fun x=>(some (JO (α:=Zi) (β:=Zi) x.1 x.2.1),Qat (YQ x.1 x.2.1))
def Qb7:List TRow:=[Qd3]
def Qw9:TCode :=
 (zsq [(zsq [(.reg [zmv 35 8,zfa 36 2 0,zld 37 36 1,zmv 38 6,zia 39 37 38 [(.sl [TI])],zfa 40 39 0,zld 41 40 1,zle 42 41,zbi 43 .lss 35 42,zmv 44 43,.grp 44 true [zmv 45 8,zfa 46 3 0,zld 47 46 1,zmv 48 6,zia 49 47 48 [(.sl [TI])],zfa 50 49 0,zld 51 50 1,zle 52 51,zbi 53 .lss 45 52] 54 53]),(.cond 54 .skip (.exit 2))]),(.block 3 (zsq [(.draw [zfa 58 2 0,zld 59 58 1,zmv 60 6,zia 61 59 60 [(.sl [TI])],zfa 62 61 0,zld 63 62 1,zmv 64 8,zia 65 63 64 [TI],zld 66 65 1,zfa 67 3 0,zld 68 67 1,zmv 69 6,zia 70 68 69 [(.sl [TI])],zfa 71 70 0,zld 72 71 1,zmv 73 8,zia 74 72 73 [TI],zld 75 74 1,zca 76 121 [66,75],zmv 57 76,zex 77 57 0,zex 78 57 1,zmv 9 77,zmv 10 78] []),(.reg [zfa 79 7 0,zld 80 79 1,zmv 81 9,zop 82 (.bsl 3 [TI] [81]),zop 83 (.app 80 82 3 [TI]),zfa 84 7 0,zst 84 83 1]),(.reg [zfa 85 5 2,zld 86 85 1,zmv 87 86,.grp 87 false [zmv 88 10] 89 88,zfa 90 5 2,zst 90 89 1])])),(.reg [zmv 55 8,zbi 56 .add 55 (zki 1),zmv 8 56])])
def Qs7:List (Nat × Md):=[(2,.b [.d,.d,.d]),(3,.b [.d,.d,.d]),(4,.b [.d,.d,.d]),(5,.b [.f,.d,.d]),(6,.one .d),(7,.b [.o 3]),(8,.one .d)]
def QpL:TCode :=
 (.reg [zfa 91 5 0,zld 92 91 1,zLd 93 7 1,zop 94 (.bsl 129 [(.sl [TI])] [93]),zop 95 (.app 92 94 129 [(.sl [TI])]),zfa 96 5 0,zst 96 95 1])
def QyW:TCode :=
 (.reg [zmv 32 6,zbi 33 .add 32 (zki 1),zmv 6 33])
def Qlp:TCode :=
 (zsq [(zsq [(.reg [zmv 20 6,zfa 21 2 0,zld 22 21 1,zle 23 22,zbi 24 .lss 20 23,zmv 25 24,.grp 25 true [zmv 26 6,zfa 27 3 0,zld 28 27 1,zle 29 28,zbi 30 .lss 26 29] 31 30]),(.cond 31 .skip (.exit 0))]),(.block 1 (zsq [(.reg [zop 34 (.build [(.n [TI])] []),zop 7 (.new 129 [(.n [TI])]),zst 7 34 1]),(zsq [(.reg [zmv 8 (zki 0)]),(.block 2 (.loop Qs7 Qw9))]),QpL])),QyW])
def Qhl:List (Nat × Md):=[(2,.b [.d,.d,.d]),(3,.b [.d,.d,.d]),(4,.b [.d,.d,.d]),(5,.b [.o 129,.d,.d]),(6,.one .d)]
def QwC:TCode :=
 (zsq [(.reg [zfa 98 2 1,zld 99 98 1,zfa 100 3 1,zld 101 100 1,zca 102 121 [99,101],zmv 97 102,zex 103 97 0,zex 104 97 1,zmv 11 103,zmv 12 104]),(.reg [zmv 105 11,zfa 106 5 1,zst 106 105 1]),(.reg [zfa 107 5 2,zld 108 107 1,zmv 109 108,.grp 109 false [zmv 110 12] 111 110,zfa 112 5 2,zst 112 111 1]),(.reg [zLd 113 5 3,zst 4 113 3]),.ret])
def QGM:TCode :=
 (zsq [(.reg [zop 2 (.box 46 0 3),zop 3 (.box 46 1 3),zop 4 (.new 46 (z0s ZN))]),(.reg [zfa 13 2 2,zld 14 13 1,zmv 15 14,.grp 15 false [zfa 16 3 2,zld 17 16 1] 18 17,zop 19 (.build (z0s ZN) [(2,1,18)]),zop 5 (.new 46 (z0s ZN)),zst 5 19 3]),(zsq [(.reg [zmv 6 (zki 0)]),(.block 0 (.loop Qhl Qlp))]),QwC])
def QqT:List (ARv × Md):=[(.l 4 3 true,.b [.d,.d,.d])]
def QtZ:Qb:=TQ 0 0 QqT K
def QIO:Qb:=Qseq (tawp Qb7 0 QwC (QtZ K)) (QtZ K)
def Qme:Qb:=Qblk 0 (QIO K)
def Qot:Qb:=Qseq (fun s'=>Loop Qb7 0 Qhl Qlp (Qme K) (gc 0 Qhl s')) (Qme K)
def QBD:Qb:=Qseq (tawp Qb7 0 QyW (Qot K)) (Qot K)
def QvJ:Qb:=Qblk 1 (QBD K)
def QGy:Qb:=Qseq (tawp Qb7 0 QpL (QvJ K)) (QvJ K)
def QEa:Qb:=Qblk 2 (QGy K)
def Qil (a:Zi) (b:Zi) (k:Int) (g2:Bool) (row0:List Int) (i:Int) (g01:List (List Int)):Prop:=Loop Qb7 0 Qs7 Qw9 (QEa K) ⟨[(2,(.p 0 0 0)),(3,(.p 1 0 0)),(4,(.p 2 0 0)),(5,(.p 4 0 0)),(6,(zci i)),(7,(.p 6 0 0)),(8,(zci k))],[(0,(.box (Tup.cells ZN a))),(1,(.box (Tup.cells ZN b))),(2,(.box (Tup.cells ZN ([],(0:Int),false)))),(3,(.sl 129 [(.sl [TI])] true g01)),(4,(.box [(.r [(.sl [TI])] 3 0 g01.length),(zci 0),(zcb g2)])),(5,(.sl 3 [TI] true row0)),(6,(.box [(.r [TI] 5 0 row0.length)]))],7⟩
def Qgz (a:Zi) (b:Zi) (i:Int) (g0:List (List Int)) (g21:Bool):Prop:=Loop Qb7 0 Qhl Qlp (Qme K) ⟨[(2,(.p 0 0 0)),(3,(.p 1 0 0)),(4,(.p 2 0 0)),(5,(.p 4 0 0)),(6,(zci i))],[(0,(.box (Tup.cells ZN a))),(1,(.box (Tup.cells ZN b))),(2,(.box (Tup.cells ZN ([],(0:Int),false)))),(3,(.sl 129 [(.sl [TI])] true g0)),(4,(.box [(.r [(.sl [TI])] 3 0 g0.length),(zci 0),(zcb g21)]))],5⟩
theorem QtQ (a:Zi) (b:Zi) (k:Int) (g2:Bool) (row0:List Int) (i:Int) (g01:List (List Int)) (h :
 ((((0:Int)≤i∧Int.toNat i<(a.1).length)∧((decide (k<((gtd ([]:List Int) a.1 (Int.toNat i)).length:Int)))=true→((0:Int)≤i∧Int.toNat i<(b.1).length)))∧(zif ((decide (k<((gtd ([]:List Int) a.1 (Int.toNat i)).length:Int)))&&(decide (k<((gtd ([]:List Int) b.1 (Int.toNat i)).length:Int)))) ((((0:Int)≤i∧Int.toNat i<(a.1).length)∧(((0:Int)≤k∧Int.toNat k<(gtd ([]:List Int) a.1 (Int.toNat i)).length)∧(((0:Int)≤i∧Int.toNat i<(b.1).length)∧((0:Int)≤k∧Int.toNat k<(gtd ([]:List Int) b.1 (Int.toNat i)).length))))∧(((row0.length=row0.length∨row0.length+1≤row0.length)∧row0.length+1≤big)∧(Qil K a b (w64 (k+(1:Int))) (g2||((Ze (gtd (0:Int) (gtd ([]:List Int) a.1 (Int.toNat i)) (Int.toNat k)) (gtd (0:Int) (gtd ([]:List Int) b.1 (Int.toNat i)) (Int.toNat k))).2)) (List.take (row0.length+1) ((List.take row0.length row0)++([(Ze (gtd (0:Int) (gtd ([]:List Int) a.1 (Int.toNat i)) (Int.toNat k)) (gtd (0:Int) (gtd ([]:List Int) b.1 (Int.toNat i)) (Int.toNat k))).1]))) i (List.take g01.length g01)))) (((g01.length=g01.length∨g01.length+1≤g01.length)∧g01.length+1≤big)∧(Qgz K a b (w64 (i+(1:Int))) (List.take (g01.length+1) ((List.take g01.length g01)++([(List.take row0.length (List.drop 0 row0))]))) g2))))):Qil K a b k g2 row0 i g01 :=
 Loop.of (by kernel_rfl) h
theorem Qm2 (a:Zi) (b:Zi) (i:Int) (g0:List (List Int)) (g21:Bool) (h :
 (zif ((decide (i<((a.1).length:Int)))&&(decide (i<((b.1).length:Int)))) (Qil K a b 0 g21 ([]:List Int) i (List.take g0.length g0)) (K (Qat ((List.take g0.length (List.drop 0 g0)),(Ze a.2.1 b.2.1).1,(g21||((Ze a.2.1 b.2.1).2))))))):Qgz K a b i g0 g21 :=
 Loop.of (by kernel_rfl) h
theorem QAL (a:Zi) (b:Zi) (h :
 (Qgz K a b 0 ([]:List (List Int)) (a.2.2||b.2.2))):Hold (tawp Qb7 (0+0) QGM (TQ 0 0 QqT K) (Qf [(.a (Tup.cells ZN a)),(.a (Tup.cells ZN b))])) :=
 Hold.of (by kernel_rfl) h
theorem QDZ (a:Zi) (b:Zi) (hp:JO (α:=Zi) (β:=Zi) a b):TCon Tryz.prog 89 [(.a (Tup.cells ZN a)),(.a (Tup.cells ZN b))] (Qat (YQ a b)):=by
 refine Qr rfl fun hb=>tcg (n:=114) (sg:=QnO.sg) Qk (TOk.cons Qgs TOk.nil) (by kernel_rfl) (by kernel_rfl) (QAL _ a b ?_)
 have hl_a_0:(a.1).length≤9223372036854775807:=hb.1.1.1
 have hl_b_0:(b.1).length≤9223372036854775807:=hb.2.1.1.1
 unfold JO at hp
 simp only [Yx,Yi,Qbo] at hp
 have ha:=QaS a.1
 refine Zt a.1 (fun r k=>∀ (v:List (List Int)) (z:Bool),v.length=k→v++(ZG r (b.1.drop k)).1=(ZG a.1 b.1).1→(z||(ZG r (b.1.drop k)).2)=(a.2.2||b.2.2||(ZG a.1 b.1).2)→Qgz (fun r'=>r'=Qat (YQ a b)) a b k v z) ?_ ?_ [] _ rfl (by simp) (by simp)
 ·intro v z hv he hz
  refine Qm2 (fun r'=>r'=Qat (YQ a b)) a b _ _ _ ⟨fun h=>by simp at h,fun _=>R_eq ?_⟩
  unfold YQ;rw [← he,← hz];simp [ZG]
 ·intro k x r hk hlt hg ih v z hv he hz
  by_cases hkb:k<b.1.length
  ·obtain ⟨y,q,hq⟩:=QbA (l:=b.1) (k:=k) hkb
   have hx:=Qpy hk
   have hxl:=Jb x
   refine Qm2 (fun r'=>r'=Qat (YQ a b)) a b _ _ _ ⟨fun _=>?_,fun h=>by simp at h;omega⟩
   rw [List.take_length]
   refine Zt x (fun r2 j=>∀ (w:List Int) (z2:Bool),w.length=j→w++(vz Ze r2 (y.drop j)).1=(vz Ze x y).1→(z2||(vz Ze r2 (y.drop j)).2)=(z||(vz Ze x y).2)→Qil (fun r'=>r'=Qat (YQ a b)) a b j z2 w k v) ?_ ?_ [] z rfl (by simp) (by simp)
   ·intro w z2 hw he2 hz2
    refine QtQ (fun r'=>r'=Qat (YQ a b)) a b _ _ _ _ _ ?_
    rw [Int.toNat_natCast,hg,Y1 hq]
    refine ⟨⟨⟨by omega,hlt⟩,fun h=>by simp at h⟩,fun h=>by simp at h,fun _=>⟨room (by omega),?_⟩⟩
    rw [QdP,sc1 (by omega),Zn]
    simp only [vz,List.append_nil,Bool.or_false] at he2 hz2
    refine ih _ _ (JQ hv) ?_ ?_
    ·rw [← he,hq,ZG,YS hq,he2];simp
    ·rw [← hz,hq,ZG,YS hq,hz2];simp [Bool.or_assoc]
   ·intro j e r2 hj hlt2 hg2 ih2 w z2 hw he2 hz2
    refine QtQ (fun r'=>r'=Qat (YQ a b)) a b _ _ _ _ _ ?_
    rw [Int.toNat_natCast,Int.toNat_natCast,hg,Y1 hq]
    by_cases hjy:j<y.length
    ·obtain ⟨f,q2,hq2⟩:=QbA (l:=y) (k:=j) hjy
     refine ⟨⟨⟨by omega,hlt⟩,fun _=>⟨by omega,hkb⟩⟩,fun _=>?_,fun h=>by simp at h;omega⟩
     rw [hg2,Y1 hq2,sc1 (by omega),Zn,List.take_length]
     refine ⟨⟨⟨by omega,hlt⟩,⟨by omega,hlt2⟩,⟨by omega,hkb⟩,by omega,hjy⟩,room (by omega),ih2 _ _ (JQ hw) ?_ ?_⟩
     ·rw [← he2,hq2,vz,YS hq2];simp
     ·rw [← hz2,hq2,vz,YS hq2];simp [Bool.or_assoc]
    ·refine ⟨⟨⟨by omega,hlt⟩,fun _=>⟨by omega,hkb⟩⟩,fun h=>by simp at h;omega,fun _=>⟨room (by omega),?_⟩⟩
     rw [QdP,sc1 (by omega),Zn]
     rw [Qo3 (l:=y) (by omega)] at he2 hz2
     simp only [vz,List.append_nil,Bool.or_false] at he2 hz2
     refine ih _ _ (JQ hv) ?_ ?_
     ·rw [← he,hq,ZG,YS hq,he2];simp
     ·rw [← hz,hq,ZG,YS hq,hz2];simp [Bool.or_assoc]
  ·refine Qm2 (fun r'=>r'=Qat (YQ a b)) a b _ _ _ ⟨fun h=>by simp at h;omega,fun _=>R_eq ?_⟩
   unfold YQ;rw [← he,← hz,Qo3 (l:=b.1) (by omega)];simp [ZG]
theorem QBV:Qj Tryz.prog QnO:=Qm fun x h=>QDZ x.1 x.2.1 h
end
end Go.Proofs.YtjbdljkhbglnhaaGreat.Am

