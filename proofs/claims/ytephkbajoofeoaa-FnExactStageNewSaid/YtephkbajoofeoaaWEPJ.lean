/- -/
import Derived.Test.YtephkbajoofeoaaWEPF
import Derived.Test.YtephkbajoofeoaaWEP4
namespace Go.Proofs.Ytephkbajoofeoaa.Am
open Go Go.RowKit Go.Proofs.Ytephkbajoofeoaa
set_option linter.all false
noncomputable section
variable (K:TRes→Prop)
def Y8 (t:(List TOp')):TRes:=⟨(.r ctOp 0 0 t.length),[(.sl 76 ctOp (.dp 0 true []) t)],[],false,[]⟩
def Qec:TRow:=Ql 155 [(.c (.sl ctOp))] fun x=>(some (ZO (α:=List TOp') x.1),Y8 (id (α:=List TOp') x.1))
def Qcw:TTab:=⟨[QeN],true⟩
def QjQ:TCode :=
 (zsq [(.reg [zbi 10 .lss 9 8]),(.cond 10 .skip (.exit 0)),(.block 1 (zsq [(.reg [zia 11 7 9 ctOp,zLd 12 11 4,zop 5 (.new 76 (z0s ctOp)),zst 5 12 4]),(.draw [zmv 13 3,zfa 14 5 0,zld 15 14 1,zfa 16 5 1,zld 17 16 1,zfa 18 5 2,zld 19 18 1,zfa 20 5 3,zld 21 20 1,zca 22 121 [21],zop 23 (.build (z0s ctOp) [(0,1,15),(1,1,17),(2,1,19),(3,1,22)]),zop 24 (.bsl 76 ctOp [23]),zop 25 (.app 13 24 76 ctOp),zmv 3 25] [(1,9),(2,9),(3,9),(4,9),(5,9),(6,9)])])),(.reg [zbi 26 .add 9 (zki 1),zmv 9 26])])
def Qkt:List (Nat × Md):=[(3,.one .f),(7,.one .d),(8,.one .d),(9,.one .d)]
def QhG:TCode :=
 (zsq [(.reg [zmv 27 3,zmv 2 27]),.ret])
def QtV:TCode :=
 (zsq [(.reg [zmv 2 (.k (.n ctOp))]),(.reg [zop 6 (.bsl 76 ctOp []),zmv 3 6]),(zsq [(.reg [zmv 7 0,zle 8 7,zmv 9 (zki 0)]),(.block 0 (.loop Qkt QjQ))]),QhG])
def Qkb:List (ARv × Md):=[(.t 2,.one (.p 76))]
def Qhh:Qc:=TQ 0 0 Qkb K
def Qn4:Qc:=Qseq (tawp Qcw 0 QhG (Qhh K)) (Qhh K)
def Qnq:Qc:=Qblk 0 (Qn4 K)
def QfD (l:List TOp') (x:Int) (ops:List TOp'):Prop:=Loop Qcw 0 Qkt QjQ (Qnq K) ⟨[(3,(.r ctOp 0 0 ops.length)),(7,(zcs ctOp l)),(8,(zci (l.length:Int))),(9,(zci x))],[(0,(.sl 76 ctOp (.dp 0 true []) ops))],1⟩
theorem Qim (l:List TOp') (x:Int) (ops:List TOp') (h :
 (zif (decide (x<(l.length:Int))) (((0:Int)≤x∧Int.toNat x<l.length)∧(((ZO (α:=List Int) ((gtd dOp l (Int.toNat x)).2.2.2))∧((ops.length=ops.length∨ops.length+1≤ops.length)∧ops.length+1≤big))∧(QfD K l (w64 (x+(1:Int))) (List.take (ops.length+1) ((List.take ops.length ops)++([((gtd dOp l (Int.toNat x)).1,(gtd dOp l (Int.toNat x)).2.1,(gtd dOp l (Int.toNat x)).2.2.1,(List.take ((id (α:=List Int) ((gtd dOp l (Int.toNat x)).2.2.2)).length) (List.drop 0 (id (α:=List Int) ((gtd dOp l (Int.toNat x)).2.2.2)))))])))))) (K (Y8 (List.take ops.length ops))))):QfD K l x ops :=
 Loop.of (by kernel_rfl) h
theorem QpI (l:List TOp') (h :
 (QfD K l 0 ([]:List TOp'))):Hold (tawp Qcw (0+0) QtV (TQ 0 0 Qkb K) (Qh [(.c (.sl ctOp) l)])) :=
 Hold.of (by kernel_rfl) h
theorem Qm4 (l:List TOp') (hp:ZO (α:=List TOp') l):TCon Try.prog 155 [(.c (.sl ctOp) l)] (Y8 (id (α:=List TOp') l)):=by
 refine Qn rfl fun hb=>tcg (Γ:=Qcw) (n:=28) (sg:=Qec.sg) Qo (TOkL.cons Quo TOkL.nil) (by kernel_rfl) (by kernel_rfl) (QpI _ l ?_)
 have hl_l:l.length≤9223372036854775807:=hb.1.1
 refine Qgf (Q:=fun z=>Y8 z=Y8 (id (α:=List TOp') l)) hp (fun k x v hk hl hg hv hx ih=>?_) (fun hq=>?_) (R_eq rfl)
 ·refine Qim (fun r'=>r'=Y8 (id (α:=List TOp') l)) l _ _ ⟨fun _=>?_,fun h=>by simp at h;omega⟩
  try simp only [Zk,Zi,YB] at hx
  rw [Int.toNat_natCast,hg,sc1 (by omega),QbK,QrU]
  exact ⟨⟨by omega,hk⟩,⟨(show Sz.sz (_:List Int)≤2147483648 by omega),room (by omega)⟩,ih⟩
 ·refine Qim (fun r'=>r'=Y8 (id (α:=List TOp') l)) l _ _ ⟨fun h=>by simp at h,fun _=>?_⟩
  exact R_eq (by simp)
theorem Qpr:Qm Try.prog Qec:=Qp fun x h=>Qm4 x.1 h
def YO (t:(List TOp')):TRes:=zra (zcs ctOp t)
def Qd3:TRow:=Ql 152 [(.c (.sl ctOp))] fun x=>(some (ZO (α:=List TOp') x.1),YO (id (α:=List TOp') x.1))
def QbW:TTab:=⟨[],false⟩
def Qiq:TCode :=
 (zsq [(zsq [(.reg [zmv 7 4,zmv 8 0,zle 9 8,zbi 10 .lss 7 9]),(.cond 10 .skip (.exit 0))]),(.block 1 (zsq [(.reg [zmv 13 0,zmv 14 4,zia 15 13 14 ctOp,zLd 16 15 4,zop 5 (.new 76 (z0s ctOp)),zst 5 16 4]),(.reg [zop 17 (.bsl 3 [TI] []),zmv 18 0,zmv 19 4,zia 20 18 19 ctOp,zfa 21 20 3,zld 22 21 1,zop 23 (.app 17 22 3 [TI]),zfa 24 5 3,zst 24 23 1]),(.reg [zmv 25 3,zLd 26 5 4,zop 27 (.bsl 76 ctOp [26]),zop 28 (.app 25 27 76 ctOp),zmv 3 28])])),(.reg [zmv 11 4,zbi 12 .add 11 (zki 1),zmv 4 12])])
def QgB:List (Nat × Md):=[(0,.one .d),(3,.one .f),(4,.one .d)]
def Qjb:TCode :=
 (zsq [(.reg [zmv 29 3,zmv 2 29]),.ret])
def QsA:TCode :=
 (zsq [(.reg [zmv 2 (.k (.n ctOp))]),(.reg [zop 6 (.bsl 76 ctOp []),zmv 3 6]),(zsq [(.reg [zmv 4 (zki 0)]),(.block 0 (.loop QgB Qiq))]),Qjb])
def QgU:List (ARv × Md):=[(.t 2,.one .d)]
def QiU:Qc:=TQ 0 0 QgU K
def QpY:Qc:=Qseq (tawp QbW 0 Qjb (QiU K)) (QiU K)
def Qt7:Qc:=Qblk 0 (QpY K)
def QdR (l:List TOp') (i:Int) (out:List TOp'):Prop:=Loop QbW 0 QgB Qiq (Qt7 K) ⟨[(0,(zcs ctOp l)),(3,(.r ctOp 0 0 out.length)),(4,(zci i))],[(0,(.sl 76 ctOp .ow out))],1⟩
theorem QkK (l:List TOp') (i:Int) (out:List TOp') (h :
 (zif (decide (i<(l.length:Int))) (((0:Int)≤i∧Int.toNat i<l.length)∧((((0:Int)≤i∧Int.toNat i<l.length)∧((0=0∨0+((gtd dOp l (Int.toNat i)).2.2.2).length≤0)∧0+((gtd dOp l (Int.toNat i)).2.2.2).length≤big))∧(((out.length=out.length∨out.length+1≤out.length)∧out.length+1≤big)∧(QdR K l (w64 (i+(1:Int))) (List.take (out.length+1) ((List.take out.length out)++([((gtd dOp l (Int.toNat i)).1,(gtd dOp l (Int.toNat i)).2.1,(gtd dOp l (Int.toNat i)).2.2.1,(List.take (0+((gtd dOp l (Int.toNat i)).2.2.2).length) (List.drop 0 ((gtd dOp l (Int.toNat i)).2.2.2))))]))))))) (K (YO (List.take out.length (List.drop 0 out)))))):QdR K l i out :=
 Loop.of (by kernel_rfl) h
theorem QnD (l:List TOp') (h :
 (QdR K l 0 ([]:List TOp'))):Hold (tawp QbW (0+0) QsA (TQ 0 0 QgU K) (Qh [(.c (.sl ctOp) l)])) :=
 Hold.of (by kernel_rfl) h
theorem Qom (l:List TOp') (hp:ZO (α:=List TOp') l):TCon Try.prog 152 [(.c (.sl ctOp) l)] (YO (id (α:=List TOp') l)):=by
 refine Qn rfl fun hb=>tcg (Γ:=QbW) (n:=30) (sg:=Qd3.sg) Qo TOkL.nil (by kernel_rfl) (by kernel_rfl) (QnD _ l ?_)
 have hl_l:l.length≤9223372036854775807:=hb.1.1
 refine Qgf (Q:=fun z=>YO z=YO (id (α:=List TOp') l)) hp (fun k x v hk hl hg hv hx ih=>?_) (fun hq=>?_) (R_eq rfl)
 ·refine QkK (fun r'=>r'=YO (id (α:=List TOp') l)) l _ _ ⟨fun _=>?_,fun h=>by simp at h;omega⟩
  try simp only [Zk,Zi,YB] at hx
  rw [Int.toNat_natCast,hg,sc1 (by omega),QbK,QoJ]
  exact ⟨⟨by omega,hk⟩,⟨⟨by omega,hk⟩,.inl rfl,by have:=QcO x.2.2.2;rw [QaY];omega⟩,room (by omega),ih⟩
 ·refine QkK (fun r'=>r'=YO (id (α:=List TOp') l)) l _ _ ⟨fun h=>by simp at h,fun _=>?_⟩
  exact R_eq (by simp)
theorem Qps:Qm Try.prog Qd3:=Qp fun x h=>Qom x.1 h
def Y9 (t:QE):TRes:=⟨(.a [(.r [(.sl [TI])] 0 0 ((t.1).length)),(zci t.2.1),(zcb t.2.2)]),[(.sl 91 [(.sl [TI])] (.dp 0 true []) t.1)],[],false,[]⟩
def QeZ:TRow:=Ql 156 [(.a [(.sl ctOp)])] fun x=>(none,Y9 (Qy x.1))
def Qbk:TTab:=⟨[QbG],true⟩
def Qk0:TCode :=
 (zsq [(.reg [zbi 15 .lss 14 13]),(.cond 15 .skip (.exit 0)),(.block 1 (zsq [(.reg [zia 16 12 14 ctOp,zLd 17 16 4,zop 5 (.new 76 (z0s ctOp)),zst 5 17 4]),(.draw [zfa 18 3 0,zld 19 18 1,zfa 20 5 3,zld 21 20 1,zle 22 21,zop 23 (.mk 3 [TI] [(zci 0)] 22),zop 24 (.build [(.n [TI])] [(0,1,23)]),zop 25 (.bsl 91 [(.sl [TI])] [24]),zop 26 (.app 19 25 91 [(.sl [TI])]),zfa 27 3 0,zst 27 26 1] [(0,5),(1,5),(0,7),(1,7)])])),(.reg [zbi 28 .add 14 (zki 1),zmv 14 28])])
def Qjn:List (Nat × Md):=[(2,.b [.f,.d,.d]),(3,.b [.p 91,.d,.d]),(12,.one .d),(13,.one .d),(14,.one .d)]
def QkC:TCode :=
 (zsq [(.reg [zLd 29 3 3,zst 2 29 3]),.ret])
def QqT:TCode :=
 (zsq [(.reg [zop 1 (.box 66 0 1),zop 2 (.new 119 (z0s QT))]),(zsq [(.reg [zLd 6 1 1,zca 7 133 [6],zno 8 7]),(.cond 8 (zsq [(.reg [zop 9 (.build (z0s QT) []),zst 2 9 3]),.ret]) .skip)]),(.reg [zop 10 (.build (z0s QT) []),zop 3 (.new 119 (z0s QT)),zst 3 10 3]),(zsq [(.reg [zfa 11 1 0,zld 12 11 1,zle 13 12,zmv 14 (zki 0)]),(.block 0 (.loop Qjn Qk0))]),QkC])
def Qhp:List (ARv × Md):=[(.l 2 3 true,.b [.p 91,.d,.d])]
def Qlx:Qc:=TQ 0 0 Qhp K
def Qpb:Qc:=Qseq (tawp Qbk 0 QkC (Qlx K)) (Qlx K)
def Qra:Qc:=Qblk 0 (Qpb K)
def QcL (m:List TOp') (x:Int) (g0:List (List Int)):Prop:=Loop Qbk 0 Qjn Qk0 (Qra K) ⟨[(2,(.p 0 0 0)),(3,(.p 2 0 0)),(12,(zcs ctOp m)),(13,(zci (m.length:Int))),(14,(zci x))],[(0,(.box [(.n [(.sl [TI])]),(zci 0),(zcb false)])),(1,(.sl 91 [(.sl [TI])] (.dp 0 true []) g0)),(2,(.box [(.r [(.sl [TI])] 1 0 g0.length),(zci 0),(zcb false)]))],3⟩
theorem Qg4 (m:List TOp') (x:Int) (g0:List (List Int)) (h :
 (zif (decide (x<(m.length:Int))) (((0:Int)≤x∧Int.toNat x<m.length)∧((((0:Int)≤(((gtd dOp m (Int.toNat x)).2.2.2).length:Int)∧(((gtd dOp m (Int.toNat x)).2.2.2).length:Int)≤big)∧((g0.length=g0.length∨g0.length+1≤g0.length)∧g0.length+1≤big))∧(QcL K m (w64 (x+(1:Int))) (List.take (g0.length+1) ((List.take g0.length g0)++([(List.take (Int.toNat (((gtd dOp m (Int.toNat x)).2.2.2).length:Int)) (List.drop 0 (List.replicate (Int.toNat (((gtd dOp m (Int.toNat x)).2.2.2).length:Int)) (0:Int))))])))))) (K (Y9 ((List.take g0.length g0),(0:Int),false))))):QcL K m x g0 :=
 Loop.of (by kernel_rfl) h
theorem Qtu (m:List TOp') (h :
 (zif (!(Qu m)) (K (Y9 (([]:List (List Int)),(0:Int),false))) (QcL K m 0 ([]:List (List Int))))):Hold (tawp Qbk (0+0) QqT (TQ 0 0 Qhp K) (Qh [(.a [(.c (.sl ctOp) m)])])) :=
 Hold.of (by kernel_rfl) h
theorem Qrv (m:List TOp'):TCon Try.prog 156 [(.a [(.c (.sl ctOp) m)])] (Y9 (Qy m)):=by
 refine Qn rfl fun hb=>tcg (Γ:=Qbk) (n:=30) (sg:=QeZ.sg) Qo (TOkL.cons QhR TOkL.nil) (by kernel_rfl) (by kernel_rfl) (Qtu _ m ?_)
 have hl_m_0:(m).length≤9223372036854775807:=hb.1.1.1
 refine ⟨fun h=>R_eq (by unfold Qy;rw [if_neg (by simpa using h)]),fun h=>?_⟩
 have hm:Qu m=true:=by simpa using h
 have hl:=Qbo hm
 have hv:(Qy m)=(m.map fun o=>List.replicate o.2.2.2.length (0:Int),0,false):=by unfold Qy;rw [if_pos hm]
 refine Z8 m (fun r k=>∀ v:List (List Int),v.length=k→v++r.map (fun o=>List.replicate o.2.2.2.length (0:Int))=m.map (fun o=>List.replicate o.2.2.2.length (0:Int))→QcL (fun r'=>r'=Y9 (Qy m)) m k v) ?_ ?_ [] rfl rfl
 ·intro v hk he
  refine Qg4 (fun r'=>r'=Y9 (Qy m)) m _ _ ⟨fun h=>by simp at h,fun _=>R_eq ?_⟩
  rw [hv,← he];simp
 ·intro k x r hk hlt hg ih v hvl he
  have ho:=QcC (QgZ hm hlt)
  rw [hg] at ho
  refine Qg4 (fun r'=>r'=Y9 (Qy m)) m _ _ ⟨fun _=>?_,fun h=>by simp [hm] at h;omega⟩
  rw [Int.toNat_natCast,hg,sc1 (by omega),Int.toNat_natCast,QbK,Qks]
  refine ⟨⟨by omega,hlt⟩,⟨⟨by omega,by rw [bigI];omega⟩,room (by omega)⟩,ih _ (QdQ hvl) ?_⟩
  rw [← he];simp
theorem Qo9:Qm Try.prog QeZ:=Qp fun x _=>Qrv x.1
def YL (t:QE):TRes:=zra (.a (Tup.cells QT t))
def QdE:TRow:=Ql 153 [(.a [(.sl ctOp)])] fun x=>(none,YL (Qy x.1))
def Qco:TTab:=⟨[Qb7],false⟩
def Qhq:TCode :=
 (zsq [(zsq [(.reg [zmv 6 4,zfa 7 1 0,zld 8 7 1,zle 9 8,zbi 10 .lss 6 9,zmv 11 10,.grp 11 true [zLd 12 1 1,zca 13 60 [12]] 14 13]),(.cond 14 .skip (.exit 0))]),(.block 1 (.draw [zfa 17 3 0,zld 18 17 1,zfa 19 1 0,zld 20 19 1,zmv 21 4,zia 22 20 21 ctOp,zfa 23 22 3,zld 24 23 1,zle 25 24,zop 26 (.mk 3 [TI] [(zci 0)] 25),zop 27 (.build [(.n [TI])] [(0,1,26)]),zop 28 (.bsl 91 [(.sl [TI])] [27]),zop 29 (.app 18 28 91 [(.sl [TI])]),zfa 30 3 0,zst 30 29 1] [(0,9),(1,9),(0,11),(1,11)])),(.reg [zmv 15 4,zbi 16 .add 15 (zki 1),zmv 4 16])])
def QkW:List (Nat × Md):=[(1,.b [.d]),(2,.b [.d,.d,.d]),(3,.b [.o 91,.d,.d]),(4,.one .d)]
def Qji:TCode :=
 (zsq [(.reg [zLd 31 3 3,zst 2 31 3]),.ret])
def Qmi:TCode :=
 (zsq [(.reg [zop 1 (.box 66 0 1),zop 2 (.new 119 (z0s QT))]),(.reg [zop 5 (.build (z0s QT) []),zop 3 (.new 119 (z0s QT)),zst 3 5 3]),(zsq [(.reg [zmv 4 (zki 0)]),(.block 0 (.loop QkW Qhq))]),Qji])
def QjK:List (ARv × Md):=[(.l 2 3 true,.b [.d,.d,.d])]
def Qgt:Qc:=TQ 0 0 QjK K
def QrM:Qc:=Qseq (tawp Qco 0 Qji (Qgt K)) (Qgt K)
def Qtc:Qc:=Qblk 0 (QrM K)
def Qbm (m:List TOp') (i:Int) (g0:List (List Int)):Prop:=Loop Qco 0 QkW Qhq (Qtc K) ⟨[(1,(.p 0 0 0)),(2,(.p 1 0 0)),(3,(.p 3 0 0)),(4,(zci i))],[(0,(.box [(zcs ctOp m)])),(1,(.box (Tup.cells QT ([],(0:Int),false)))),(2,(.sl 91 [(.sl [TI])] .ow g0)),(3,(.box [(.r [(.sl [TI])] 2 0 g0.length),(zci 0),(zcb false)]))],4⟩
theorem Qet (m:List TOp') (i:Int) (g0:List (List Int)) (h :
 (zif ((decide (i<(m.length:Int)))&&(Qu m)) ((((0:Int)≤i∧Int.toNat i<m.length)∧(((0:Int)≤(((gtd dOp m (Int.toNat i)).2.2.2).length:Int)∧(((gtd dOp m (Int.toNat i)).2.2.2).length:Int)≤big)∧((g0.length=g0.length∨g0.length+1≤g0.length)∧g0.length+1≤big)))∧(Qbm K m (w64 (i+(1:Int))) (List.take (g0.length+1) ((List.take g0.length g0)++([(List.take (Int.toNat (((gtd dOp m (Int.toNat i)).2.2.2).length:Int)) (List.drop 0 (List.replicate (Int.toNat (((gtd dOp m (Int.toNat i)).2.2.2).length:Int)) (0:Int))))]))))) (K (YL ((List.take g0.length (List.drop 0 g0)),(0:Int),false))))):Qbm K m i g0 :=
 Loop.of (by kernel_rfl) h
theorem QoL (m:List TOp') (h :
 (Qbm K m 0 ([]:List (List Int)))):Hold (tawp Qco (0+0) Qmi (TQ 0 0 QjK K) (Qh [(.a [(.c (.sl ctOp) m)])])) :=
 Hold.of (by kernel_rfl) h
theorem QoQ (m:List TOp'):TCon Try.prog 153 [(.a [(.c (.sl ctOp) m)])] (YL (Qy m)):=by
 refine Qn rfl fun hb=>tcg (Γ:=Qco) (n:=32) (sg:=QdE.sg) Qo (TOkL.cons Qki TOkL.nil) (by kernel_rfl) (by kernel_rfl) (QoL _ m ?_)
 have hl_m_0:(m).length≤9223372036854775807:=hb.1.1.1
 by_cases hm:Qu m=true
 rotate_left
 ·refine Qet (fun r'=>r'=YL (Qy m)) m _ _ ⟨fun h=>by simp [hm] at h,fun _=>R_eq (by unfold Qy;rw [if_neg hm];rfl)⟩
 have hl:=Qbo hm
 have hv:(Qy m)=(m.map fun o=>List.replicate o.2.2.2.length (0:Int),0,false):=by unfold Qy;rw [if_pos hm]
 refine Z8 m (fun r k=>∀ v:List (List Int),v.length=k→v++r.map (fun o=>List.replicate o.2.2.2.length (0:Int))=m.map (fun o=>List.replicate o.2.2.2.length (0:Int))→Qbm (fun r'=>r'=YL (Qy m)) m k v) ?_ ?_ [] rfl rfl
 ·intro v hk he
  refine Qet (fun r'=>r'=YL (Qy m)) m _ _ ⟨fun h=>by simp at h,fun _=>R_eq ?_⟩
  rw [hv,← he];simp
 ·intro k x r hk hlt hg ih v hvl he
  have ho:=QcC (QgZ hm hlt)
  rw [hg] at ho
  refine Qet (fun r'=>r'=YL (Qy m)) m _ _ ⟨fun _=>?_,fun h=>by simp [hm] at h;omega⟩
  rw [Int.toNat_natCast,hg,sc1 (by omega),Int.toNat_natCast,QbK,Qks]
  refine ⟨⟨⟨by omega,hlt⟩,⟨by omega,by rw [bigI];omega⟩,room (by omega)⟩,ih _ (QdQ hvl) ?_⟩
  rw [← he];simp
theorem QrE:Qm Try.prog QdE:=Qp fun x _=>QoQ x.1
end
end Go.Proofs.Ytephkbajoofeoaa.Am

