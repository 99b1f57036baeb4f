/- -/
import Derived.Test.YtdplaepmjogjjaaGreatVEPF
import Derived.Test.YtdplaepmjogjjaaGreatVEP4
namespace Go.Proofs.YtdplaepmjogjjaaGreat.Am
open Go Go.RowKit Go.Proofs.YtdplaepmjogjjaaGreat
set_option linter.all false
noncomputable section
variable (K:TRes→Prop)
def Qal (t:(List TOp')):TRes:=⟨(.r ctOp 0 0 t.length),[(.sl 134 ctOp (.dp 0 true []) t)],[],false,[]⟩
def Qh3:TRow:=Qg 165 [(.c (.sl ctOp))] fun x=>(some (ZF (α:=List TOp') x.1),Qal (id (α:=List TOp') x.1))
def Qex:TTab:=⟨[Qeu],true⟩
def Qre:TCode :=
 (zsq [(.reg [zbi 10 .lss 9 8]),(.cond 10 .skip (.exit 0)),(.block 1 (zsq [(.reg [zia 11 7 9 ctOp,zLd 12 11 4,zop 5 (.new 134 (z0s ctOp)),zst 5 12 4]),(.draw [zmv 13 3,zfa 14 5 0,zld 15 14 1,zfa 16 5 1,zld 17 16 1,zfa 18 5 2,zld 19 18 1,zfa 20 5 3,zld 21 20 1,zca 22 104 [21],zop 23 (.build (z0s ctOp) [(0,1,15),(1,1,17),(2,1,19),(3,1,22)]),zop 24 (.bsl 134 ctOp [23]),zop 25 (.app 13 24 134 ctOp),zmv 3 25] [(1,9),(2,9),(3,9),(4,9),(5,9),(6,9)])])),(.reg [zbi 26 .add 9 (zki 1),zmv 9 26])])
def Qu0:List (Nat × Md):=[(3,.one .f),(7,.one .d),(8,.one .d),(9,.one .d)]
def QmB:TCode :=
 (zsq [(.reg [zmv 27 3,zmv 2 27]),.ret])
def Qw1:TCode :=
 (zsq [(.reg [zmv 2 (.k (.n ctOp))]),(.reg [zop 6 (.bsl 134 ctOp []),zmv 3 6]),(zsq [(.reg [zmv 7 0,zle 8 7,zmv 9 (zki 0)]),(.block 0 (.loop Qu0 Qre))]),QmB])
def QlT:List (ARv × Md):=[(.t 2,.one (.p 134))]
def Qqv:Qb:=TQ 0 0 QlT K
def QJs:Qb:=Qseq (tawp Qex 0 QmB (Qqv K)) (Qqv K)
def QIp:Qb:=Qblk 0 (QJs K)
def Qg1 (l:List TOp') (x:Int) (ops:List TOp'):Prop:=Loop Qex 0 Qu0 Qre (QIp K) ⟨[(3,(.r ctOp 0 0 ops.length)),(7,(zcs ctOp l)),(8,(zci (l.length:Int))),(9,(zci x))],[(0,(.sl 134 ctOp (.dp 0 true []) ops))],1⟩
theorem QlN (l:List TOp') (x:Int) (ops:List TOp') (h :
 (zif (decide (x<(l.length:Int))) (((0:Int)≤x∧Int.toNat x<l.length)∧(((ZF (α:=List Int) ((gtd dOp l (Int.toNat x)).2.2.2))∧((ops.length=ops.length∨ops.length+1≤ops.length)∧ops.length+1≤big))∧(Qg1 K l (w64 (x+(1:Int))) (List.take (ops.length+1) ((List.take ops.length ops)++([((gtd dOp l (Int.toNat x)).1,(gtd dOp l (Int.toNat x)).2.1,(gtd dOp l (Int.toNat x)).2.2.1,(List.take ((id (α:=List Int) ((gtd dOp l (Int.toNat x)).2.2.2)).length) (List.drop 0 (id (α:=List Int) ((gtd dOp l (Int.toNat x)).2.2.2)))))])))))) (K (Qal (List.take ops.length ops))))):Qg1 K l x ops :=
 Loop.of (by kernel_rfl) h
theorem QIY (l:List TOp') (h :
 (Qg1 K l 0 ([]:List TOp'))):Hold (tawp Qex (0+0) Qw1 (TQ 0 0 QlT K) (Qe [(.c (.sl ctOp) l)])) :=
 Hold.of (by kernel_rfl) h
theorem QEV (l:List TOp') (hp:ZF (α:=List TOp') l):TCon Tryz.prog 165 [(.c (.sl ctOp) l)] (Qal (id (α:=List TOp') l)):=by
 refine Ql rfl fun hb=>tcg (Γ:=Qex) (n:=28) (sg:=Qh3.sg) Qk (TOkL.cons QrH TOkL.nil) (by kernel_rfl) (by kernel_rfl) (QIY _ l ?_)
 have hl_l:l.length≤9223372036854775807:=hb.1.1
 refine QjL (Q:=fun z=>Qal z=Qal (id (α:=List TOp') l)) hp (fun k x v hk hl hg hv hx ih=>?_) (fun hq=>?_) (R_eq rfl)
 ·refine QlN (fun r'=>r'=Qal (id (α:=List TOp') l)) l _ _ ⟨fun _=>?_,fun h=>by simp at h;omega⟩
  try simp only [QM,QS,Za] at hx
  rw [Int.toNat_natCast,hg,sc1 (by omega),ZU,Qhs]
  exact ⟨⟨by omega,hk⟩,⟨(show Sz.sz (_:List Int)≤2147483648 by omega),room (by omega)⟩,ih⟩
 ·refine QlN (fun r'=>r'=Qal (id (α:=List TOp') l)) l _ _ ⟨fun h=>by simp at h,fun _=>?_⟩
  exact R_eq (by simp)
theorem QJw:Qi Tryz.prog Qh3:=Qm fun x h=>QEV x.1 h
def QaO (t:(List Qc)):TRes:=⟨(.r Qj 0 0 t.length),[(.sl 154 Qj (.dp 0 true []) t)],[],false,[]⟩
def Qjs:TRow:=Qg 126 [(.c (.sl Qj))] fun x=>(some (ZF (α:=List Qc) x.1),QaO (id (α:=List Qc) x.1))
def QdI:TTab:=⟨[Qeu],true⟩
def Qto:TCode :=
 (zsq [(.reg [zbi 10 .lss 9 8]),(.cond 10 .skip (.exit 0)),(.block 1 (zsq [(.reg [zia 11 7 9 Qj,zLd 12 11 2,zop 5 (.new 154 (z0s Qj)),zst 5 12 2]),(.draw [zmv 13 3,zfa 14 5 0,zld 15 14 1,zca 16 104 [15],zfa 17 5 1,zld 18 17 1,zca 19 104 [18],zop 20 (.build (z0s Qj) [(0,1,16),(1,1,19)]),zop 21 (.bsl 154 Qj [20]),zop 22 (.app 13 21 154 Qj),zmv 3 22] [(3,4),(3,5)])])),(.reg [zbi 23 .add 9 (zki 1),zmv 9 23])])
def QoM:List (Nat × Md):=[(3,.one .f),(7,.one .d),(8,.one .d),(9,.one .d)]
def Qq4:TCode :=
 (zsq [(.reg [zmv 24 3,zmv 2 24]),.ret])
def QFE:TCode :=
 (zsq [(.reg [zmv 2 (.k (.n Qj))]),(.reg [zop 6 (.bsl 154 Qj []),zmv 3 6]),(zsq [(.reg [zmv 7 0,zle 8 7,zmv 9 (zki 0)]),(.block 0 (.loop QoM Qto))]),Qq4])
def QtD:List (ARv × Md):=[(.t 2,.one (.p 154))]
def Qoh:Qb:=TQ 0 0 QtD K
def QvK:Qb:=Qseq (tawp QdI 0 Qq4 (Qoh K)) (Qoh K)
def QAa:Qb:=Qblk 0 (QvK K)
def QjI (b:List Qc) (x:Int) (Zg:List Qc):Prop:=Loop QdI 0 QoM Qto (QAa K) ⟨[(3,(.r Qj 0 0 Zg.length)),(7,(zcs Qj b)),(8,(zci (b.length:Int))),(9,(zci x))],[(0,(.sl 154 Qj (.dp 0 true []) Zg))],1⟩
theorem Qoe (b:List Qc) (x:Int) (Zg:List Qc) (h :
 (zif (decide (x<(b.length:Int))) (((0:Int)≤x∧Int.toNat x<b.length)∧(((ZF (α:=List Int) ((gtd QC b (Int.toNat x)).1))∧((ZF (α:=List Int) ((gtd QC b (Int.toNat x)).2))∧((Zg.length=Zg.length∨Zg.length+1≤Zg.length)∧Zg.length+1≤big)))∧(QjI K b (w64 (x+(1:Int))) (List.take (Zg.length+1) ((List.take Zg.length Zg)++([((List.take ((id (α:=List Int) ((gtd QC b (Int.toNat x)).1)).length) (List.drop 0 (id (α:=List Int) ((gtd QC b (Int.toNat x)).1)))),(List.take ((id (α:=List Int) ((gtd QC b (Int.toNat x)).2)).length) (List.drop 0 (id (α:=List Int) ((gtd QC b (Int.toNat x)).2)))))])))))) (K (QaO (List.take Zg.length Zg))))):QjI K b x Zg :=
 Loop.of (by kernel_rfl) h
theorem QB5 (b:List Qc) (h :
 (QjI K b 0 ([]:List Qc))):Hold (tawp QdI (0+0) QFE (TQ 0 0 QtD K) (Qe [(.c (.sl Qj) b)])) :=
 Hold.of (by kernel_rfl) h
theorem Qz1 (b:List Qc) (hp:ZF (α:=List Qc) b):TCon Tryz.prog 126 [(.c (.sl Qj) b)] (QaO (id (α:=List Qc) b)):=by
 refine Ql rfl fun hb=>tcg (Γ:=QdI) (n:=25) (sg:=Qjs.sg) Qk (TOkL.cons QrH TOkL.nil) (by kernel_rfl) (by kernel_rfl) (QB5 _ b ?_)
 have hl_b:b.length≤9223372036854775807:=hb.1.1
 refine QjL (Q:=fun z=>QaO z=QaO (id (α:=List Qc) b)) hp (fun k x v hk hl hg hv hx ih=>?_) (fun hq=>?_) (R_eq rfl)
 ·refine Qoe (fun r'=>r'=QaO (id (α:=List Qc) b)) b _ _ ⟨fun _=>?_,fun h=>by simp at h;omega⟩
  try simp only [QM,QS,Za] at hx
  rw [Int.toNat_natCast,hg,sc1 (by omega),ZU,Qhs,Qhs]
  exact ⟨⟨by omega,hk⟩,⟨(show Sz.sz (_:List Int)≤2147483648 by omega),(show Sz.sz (_:List Int)≤2147483648 by omega),room (by omega)⟩,ih⟩
 ·refine Qoe (fun r'=>r'=QaO (id (α:=List Qc) b)) b _ _ ⟨fun h=>by simp at h,fun _=>?_⟩
  exact R_eq (by simp)
theorem QFr:Qi Tryz.prog Qjs:=Qm fun x h=>Qz1 x.1 h
def QaE (t:(List TOp')):TRes:=zra (zcs ctOp t)
def QjB:TRow:=Qg 155 [(.c (.sl ctOp))] fun x=>(some (ZF (α:=List TOp') x.1),QaE (id (α:=List TOp') x.1))
def Qfb:TTab:=⟨[],false⟩
def Qn7:TCode :=
 (zsq [(zsq [(.reg [zmv 7 4,zmv 8 0,zle 9 8,zbi 10 .lss 7 9]),(.cond 10 .skip (.exit 0))]),(.block 1 (zsq [(.reg [zmv 13 0,zmv 14 4,zia 15 13 14 ctOp,zLd 16 15 4,zop 5 (.new 134 (z0s ctOp)),zst 5 16 4]),(.reg [zop 17 (.bsl 3 [TI] []),zmv 18 0,zmv 19 4,zia 20 18 19 ctOp,zfa 21 20 3,zld 22 21 1,zop 23 (.app 17 22 3 [TI]),zfa 24 5 3,zst 24 23 1]),(.reg [zmv 25 3,zLd 26 5 4,zop 27 (.bsl 134 ctOp [26]),zop 28 (.app 25 27 134 ctOp),zmv 3 28])])),(.reg [zmv 11 4,zbi 12 .add 11 (zki 1),zmv 4 12])])
def Qn9:List (Nat × Md):=[(0,.one .d),(3,.one .f),(4,.one .d)]
def QuX:TCode :=
 (zsq [(.reg [zmv 29 3,zmv 2 29]),.ret])
def QBY:TCode :=
 (zsq [(.reg [zmv 2 (.k (.n ctOp))]),(.reg [zop 6 (.bsl 134 ctOp []),zmv 3 6]),(zsq [(.reg [zmv 4 (zki 0)]),(.block 0 (.loop Qn9 Qn7))]),QuX])
def Qs6:List (ARv × Md):=[(.t 2,.one .d)]
def Qpd:Qb:=TQ 0 0 Qs6 K
def QIW:Qb:=Qseq (tawp Qfb 0 QuX (Qpd K)) (Qpd K)
def QAf:Qb:=Qblk 0 (QIW K)
def Qja (l:List TOp') (i:Int) (out:List TOp'):Prop:=Loop Qfb 0 Qn9 Qn7 (QAf K) ⟨[(0,(zcs ctOp l)),(3,(.r ctOp 0 0 out.length)),(4,(zci i))],[(0,(.sl 134 ctOp .ow out))],1⟩
theorem Qno (l:List TOp') (i:Int) (out:List TOp') (h :
 (zif (decide (i<(l.length:Int))) (((0:Int)≤i∧Int.toNat i<l.length)∧((((0:Int)≤i∧Int.toNat i<l.length)∧((0=0∨0+((gtd dOp l (Int.toNat i)).2.2.2).length≤0)∧0+((gtd dOp l (Int.toNat i)).2.2.2).length≤big))∧(((out.length=out.length∨out.length+1≤out.length)∧out.length+1≤big)∧(Qja K l (w64 (i+(1:Int))) (List.take (out.length+1) ((List.take out.length out)++([((gtd dOp l (Int.toNat i)).1,(gtd dOp l (Int.toNat i)).2.1,(gtd dOp l (Int.toNat i)).2.2.1,(List.take (0+((gtd dOp l (Int.toNat i)).2.2.2).length) (List.drop 0 ((gtd dOp l (Int.toNat i)).2.2.2))))]))))))) (K (QaE (List.take out.length (List.drop 0 out)))))):Qja K l i out :=
 Loop.of (by kernel_rfl) h
theorem QxJ (l:List TOp') (h :
 (Qja K l 0 ([]:List TOp'))):Hold (tawp Qfb (0+0) QBY (TQ 0 0 Qs6 K) (Qe [(.c (.sl ctOp) l)])) :=
 Hold.of (by kernel_rfl) h
theorem QAu (l:List TOp') (hp:ZF (α:=List TOp') l):TCon Tryz.prog 155 [(.c (.sl ctOp) l)] (QaE (id (α:=List TOp') l)):=by
 refine Ql rfl fun hb=>tcg (Γ:=Qfb) (n:=30) (sg:=QjB.sg) Qk TOkL.nil (by kernel_rfl) (by kernel_rfl) (QxJ _ l ?_)
 have hl_l:l.length≤9223372036854775807:=hb.1.1
 refine QjL (Q:=fun z=>QaE z=QaE (id (α:=List TOp') l)) hp (fun k x v hk hl hg hv hx ih=>?_) (fun hq=>?_) (R_eq rfl)
 ·refine Qno (fun r'=>r'=QaE (id (α:=List TOp') l)) l _ _ ⟨fun _=>?_,fun h=>by simp at h;omega⟩
  try simp only [QM,QS,Za] at hx
  rw [Int.toNat_natCast,hg,sc1 (by omega),ZU,QjM]
  exact ⟨⟨by omega,hk⟩,⟨⟨by omega,hk⟩,.inl rfl,by have:=J5 x.2.2.2;rw [Q3];omega⟩,room (by omega),ih⟩
 ·refine Qno (fun r'=>r'=QaE (id (α:=List TOp') l)) l _ _ ⟨fun h=>by simp at h,fun _=>?_⟩
  exact R_eq (by simp)
theorem QIu:Qi Tryz.prog QjB:=Qm fun x h=>QAu x.1 h
def QaR (t:Z0):TRes:=⟨(.a [(.r [(.sl [TI])] 0 0 ((t.1).length)),(zci t.2.1),(zcb t.2.2)]),[(.sl 106 [(.sl [TI])] (.dp 0 true []) t.1)],[],false,[]⟩
def Qjk:TRow:=Qg 213 [(.a [(.sl ctOp)])] fun x=>(none,QaR (QR x.1))
def QdR:TTab:=⟨[YP],true⟩
def QnC:TCode :=
 (zsq [(.reg [zbi 15 .lss 14 13]),(.cond 15 .skip (.exit 0)),(.block 1 (zsq [(.reg [zia 16 12 14 ctOp,zLd 17 16 4,zop 5 (.new 134 (z0s ctOp)),zst 5 17 4]),(.draw [zfa 18 3 0,zld 19 18 1,zfa 20 5 3,zld 21 20 1,zle 22 21,zop 23 (.mk 3 [TI] [(zci 0)] 22),zop 24 (.build [(.n [TI])] [(0,1,23)]),zop 25 (.bsl 106 [(.sl [TI])] [24]),zop 26 (.app 19 25 106 [(.sl [TI])]),zfa 27 3 0,zst 27 26 1] [(0,5),(1,5),(0,7),(1,7)])])),(.reg [zbi 28 .add 14 (zki 1),zmv 14 28])])
def Qsx:List (Nat × Md):=[(2,.b [.f,.d,.d]),(3,.b [.p 106,.d,.d]),(12,.one .d),(13,.one .d),(14,.one .d)]
def Qog:TCode :=
 (zsq [(.reg [zLd 29 3 3,zst 2 29 3]),.ret])
def QIi:TCode :=
 (zsq [(.reg [zop 1 (.box 77 0 1),zop 2 (.new 37 (z0s ZM))]),(zsq [(.reg [zLd 6 1 1,zca 7 167 [6],zno 8 7]),(.cond 8 (zsq [(.reg [zop 9 (.build (z0s ZM) []),zst 2 9 3]),.ret]) .skip)]),(.reg [zop 10 (.build (z0s ZM) []),zop 3 (.new 37 (z0s ZM)),zst 3 10 3]),(zsq [(.reg [zfa 11 1 0,zld 12 11 1,zle 13 12,zmv 14 (zki 0)]),(.block 0 (.loop Qsx QnC))]),Qog])
def Qn0:List (ARv × Md):=[(.l 2 3 true,.b [.p 106,.d,.d])]
def Qnj:Qb:=TQ 0 0 Qn0 K
def QIG:Qb:=Qseq (tawp QdR 0 Qog (Qnj K)) (Qnj K)
def QDc:Qb:=Qblk 0 (QIG K)
def QdH (m:List TOp') (x:Int) (g0:List (List Int)):Prop:=Loop QdR 0 Qsx QnC (QDc K) ⟨[(2,(.p 0 0 0)),(3,(.p 2 0 0)),(12,(zcs ctOp m)),(13,(zci (m.length:Int))),(14,(zci x))],[(0,(.box [(.n [(.sl [TI])]),(zci 0),(zcb false)])),(1,(.sl 106 [(.sl [TI])] (.dp 0 true []) g0)),(2,(.box [(.r [(.sl [TI])] 1 0 g0.length),(zci 0),(zcb false)]))],3⟩
theorem Qti (m:List TOp') (x:Int) (g0:List (List Int)) (h :
 (zif (decide (x<(m.length:Int))) (((0:Int)≤x∧Int.toNat x<m.length)∧((((0:Int)≤(((gtd dOp m (Int.toNat x)).2.2.2).length:Int)∧(((gtd dOp m (Int.toNat x)).2.2.2).length:Int)≤big)∧((g0.length=g0.length∨g0.length+1≤g0.length)∧g0.length+1≤big))∧(QdH K m (w64 (x+(1:Int))) (List.take (g0.length+1) ((List.take g0.length g0)++([(List.take (Int.toNat (((gtd dOp m (Int.toNat x)).2.2.2).length:Int)) (List.drop 0 (List.replicate (Int.toNat (((gtd dOp m (Int.toNat x)).2.2.2).length:Int)) (0:Int))))])))))) (K (QaR ((List.take g0.length g0),(0:Int),false))))):QdH K m x g0 :=
 Loop.of (by kernel_rfl) h
theorem QFv (m:List TOp') (h :
 (zif (!(QB m)) (K (QaR (([]:List (List Int)),(0:Int),false))) (QdH K m 0 ([]:List (List Int))))):Hold (tawp QdR (0+0) QIi (TQ 0 0 Qn0 K) (Qe [(.a [(.c (.sl ctOp) m)])])) :=
 Hold.of (by kernel_rfl) h
theorem QAL (m:List TOp'):TCon Tryz.prog 213 [(.a [(.c (.sl ctOp) m)])] (QaR (QR m)):=by
 refine Ql rfl fun hb=>tcg (Γ:=QdR) (n:=30) (sg:=Qjk.sg) Qk (TOkL.cons J0 TOkL.nil) (by kernel_rfl) (by kernel_rfl) (QFv _ m ?_)
 have hl_m_0:(m).length≤9223372036854775807:=hb.1.1.1
 refine ⟨fun h=>R_eq (by unfold QR;rw [if_neg (by simpa using h)]),fun h=>?_⟩
 have hm:QB m=true:=by simpa using h
 have hl:=Y5 hm
 have hv:(QR m)=(m.map fun o=>List.replicate o.2.2.2.length (0:Int),0,false):=by unfold QR;rw [if_pos hm]
 refine Zy m (fun r k=>∀ v:List (List Int),v.length=k→v++r.map (fun o=>List.replicate o.2.2.2.length (0:Int))=m.map (fun o=>List.replicate o.2.2.2.length (0:Int))→QdH (fun r'=>r'=QaR (QR m)) m k v) ?_ ?_ [] rfl rfl
 ·intro v hk he
  refine Qti (fun r'=>r'=QaR (QR m)) m _ _ ⟨fun h=>by simp at h,fun _=>R_eq ?_⟩
  rw [hv,← he];simp
 ·intro k x r hk hlt hg ih v hvl he
  have ho:=Qgd (Ql0 hm hlt)
  rw [hg] at ho
  refine Qti (fun r'=>r'=QaR (QR m)) m _ _ ⟨fun _=>?_,fun h=>by simp [hm] at h;omega⟩
  rw [Int.toNat_natCast,hg,sc1 (by omega),Int.toNat_natCast,ZU,QlL]
  refine ⟨⟨by omega,hlt⟩,⟨⟨by omega,by rw [bigI];omega⟩,room (by omega)⟩,ih _ (QjR hvl) ?_⟩
  rw [← he];simp
theorem QB9:Qi Tryz.prog Qjk:=Qm fun x _=>QAL x.1
def QaA (t:Z0):TRes:=zra (.a (Tup.cells ZM t))
def QiC:TRow:=Qg 201 [(.a [(.sl ctOp)])] fun x=>(none,QaA (QR x.1))
def Qdx:TTab:=⟨[Y0],false⟩
def Qna:TCode :=
 (zsq [(zsq [(.reg [zmv 6 4,zfa 7 1 0,zld 8 7 1,zle 9 8,zbi 10 .lss 6 9,zmv 11 10,.grp 11 true [zLd 12 1 1,zca 13 157 [12]] 14 13]),(.cond 14 .skip (.exit 0))]),(.block 1 (.draw [zfa 17 3 0,zld 18 17 1,zfa 19 1 0,zld 20 19 1,zmv 21 4,zia 22 20 21 ctOp,zfa 23 22 3,zld 24 23 1,zle 25 24,zop 26 (.mk 3 [TI] [(zci 0)] 25),zop 27 (.build [(.n [TI])] [(0,1,26)]),zop 28 (.bsl 106 [(.sl [TI])] [27]),zop 29 (.app 18 28 106 [(.sl [TI])]),zfa 30 3 0,zst 30 29 1] [(0,9),(1,9),(0,11),(1,11)])),(.reg [zmv 15 4,zbi 16 .add 15 (zki 1),zmv 4 16])])
def Qq7:List (Nat × Md):=[(1,.b [.d]),(2,.b [.d,.d,.d]),(3,.b [.o 106,.d,.d]),(4,.one .d)]
def Qrk:TCode :=
 (zsq [(.reg [zLd 31 3 3,zst 2 31 3]),.ret])
def QI1:TCode :=
 (zsq [(.reg [zop 1 (.box 77 0 1),zop 2 (.new 37 (z0s ZM))]),(.reg [zop 5 (.build (z0s ZM) []),zop 3 (.new 37 (z0s ZM)),zst 3 5 3]),(zsq [(.reg [zmv 4 (zki 0)]),(.block 0 (.loop Qq7 Qna))]),Qrk])
def Qp5:List (ARv × Md):=[(.l 2 3 true,.b [.d,.d,.d])]
def Qoc:Qb:=TQ 0 0 Qp5 K
def QIN:Qb:=Qseq (tawp Qdx 0 Qrk (Qoc K)) (Qoc K)
def Qwt:Qb:=Qblk 0 (QIN K)
def Qgh (m:List TOp') (i:Int) (g0:List (List Int)):Prop:=Loop Qdx 0 Qq7 Qna (Qwt K) ⟨[(1,(.p 0 0 0)),(2,(.p 1 0 0)),(3,(.p 3 0 0)),(4,(zci i))],[(0,(.box [(zcs ctOp m)])),(1,(.box (Tup.cells ZM ([],(0:Int),false)))),(2,(.sl 106 [(.sl [TI])] .ow g0)),(3,(.box [(.r [(.sl [TI])] 2 0 g0.length),(zci 0),(zcb false)]))],4⟩
theorem QiR (m:List TOp') (i:Int) (g0:List (List Int)) (h :
 (zif ((decide (i<(m.length:Int)))&&(QB m)) ((((0:Int)≤i∧Int.toNat i<m.length)∧(((0:Int)≤(((gtd dOp m (Int.toNat i)).2.2.2).length:Int)∧(((gtd dOp m (Int.toNat i)).2.2.2).length:Int)≤big)∧((g0.length=g0.length∨g0.length+1≤g0.length)∧g0.length+1≤big)))∧(Qgh K m (w64 (i+(1:Int))) (List.take (g0.length+1) ((List.take g0.length g0)++([(List.take (Int.toNat (((gtd dOp m (Int.toNat i)).2.2.2).length:Int)) (List.drop 0 (List.replicate (Int.toNat (((gtd dOp m (Int.toNat i)).2.2.2).length:Int)) (0:Int))))]))))) (K (QaA ((List.take g0.length (List.drop 0 g0)),(0:Int),false))))):Qgh K m i g0 :=
 Loop.of (by kernel_rfl) h
theorem QIm (m:List TOp') (h :
 (Qgh K m 0 ([]:List (List Int)))):Hold (tawp Qdx (0+0) QI1 (TQ 0 0 Qp5 K) (Qe [(.a [(.c (.sl ctOp) m)])])) :=
 Hold.of (by kernel_rfl) h
theorem QBK (m:List TOp'):TCon Tryz.prog 201 [(.a [(.c (.sl ctOp) m)])] (QaA (QR m)):=by
 refine Ql rfl fun hb=>tcg (Γ:=Qdx) (n:=32) (sg:=QiC.sg) Qk (TOkL.cons Qan TOkL.nil) (by kernel_rfl) (by kernel_rfl) (QIm _ m ?_)
 have hl_m_0:(m).length≤9223372036854775807:=hb.1.1.1
 by_cases hm:QB m=true
 rotate_left
 ·refine QiR (fun r'=>r'=QaA (QR m)) m _ _ ⟨fun h=>by simp [hm] at h,fun _=>R_eq (by unfold QR;rw [if_neg hm];rfl)⟩
 have hl:=Y5 hm
 have hv:(QR m)=(m.map fun o=>List.replicate o.2.2.2.length (0:Int),0,false):=by unfold QR;rw [if_pos hm]
 refine Zy m (fun r k=>∀ v:List (List Int),v.length=k→v++r.map (fun o=>List.replicate o.2.2.2.length (0:Int))=m.map (fun o=>List.replicate o.2.2.2.length (0:Int))→Qgh (fun r'=>r'=QaA (QR m)) m k v) ?_ ?_ [] rfl rfl
 ·intro v hk he
  refine QiR (fun r'=>r'=QaA (QR m)) m _ _ ⟨fun h=>by simp at h,fun _=>R_eq ?_⟩
  rw [hv,← he];simp
 ·intro k x r hk hlt hg ih v hvl he
  have ho:=Qgd (Ql0 hm hlt)
  rw [hg] at ho
  refine QiR (fun r'=>r'=QaA (QR m)) m _ _ ⟨fun _=>?_,fun h=>by simp [hm] at h;omega⟩
  rw [Int.toNat_natCast,hg,sc1 (by omega),Int.toNat_natCast,ZU,QlL]
  refine ⟨⟨⟨by omega,hlt⟩,⟨by omega,by rw [bigI];omega⟩,room (by omega)⟩,ih _ (QjR hvl) ?_⟩
  rw [← he];simp
theorem QFj:Qi Tryz.prog QiC:=Qm fun x _=>QBK x.1
end
end Go.Proofs.YtdplaepmjogjjaaGreat.Am

