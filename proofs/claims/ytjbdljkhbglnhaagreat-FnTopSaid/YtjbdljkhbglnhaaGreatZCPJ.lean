/- -/
import Derived.Test.YtjbdljkhbglnhaaGreatZCPF
import Derived.Test.YtjbdljkhbglnhaaGreatZCP4
namespace Go.Proofs.YtjbdljkhbglnhaaGreat.Am
open Go Go.RowKit Go.Proofs.YtjbdljkhbglnhaaGreat
set_option linter.all false
noncomputable section
variable (K:TRes→Prop)
def Qc9 (t:(List TOp')):TRes:=zra (zcs ctOp t)
def QgL:TRow:=Qf 151 [(.c (.sl ctOp))] fun x=>(some (QJ (α:=List TOp') x.1),Qc9 (id (α:=List TOp') x.1))
def QpN:List TRow:=[Qay]
def Qvp:TCode :=
 (zsq [(.reg [zbi 10 .lss 9 8]),(.cond 10 .skip (.exit 0)),(.block 1 (zsq [(.reg [zia 11 7 9 ctOp,zLd 12 11 4,zop 5 (.new 69 (z0s ctOp)),zst 5 12 4]),(.draw [zmv 13 3,zfa 14 5 0,zld 15 14 1,zfa 16 5 1,zld 17 16 1,zfa 18 5 2,zld 19 18 1,zfa 20 5 3,zld 21 20 1,zca 22 119 [21],zop 23 (.build (z0s ctOp) [(0,1,15),(1,1,17),(2,1,19),(3,1,22)]),zop 24 (.bsl 69 ctOp [23]),zop 25 (.app 13 24 69 ctOp),zmv 3 25] [(1,9),(2,9),(3,9),(4,9),(5,9),(6,9)])])),(.reg [zbi 26 .add 9 (zki 1),zmv 9 26])])
def Qww:List (Nat × Md):=[(3,.one .f),(7,.one .d),(8,.one .d),(9,.one .d)]
def QuE:TCode :=
 (zsq [(.reg [zmv 27 3,zmv 2 27]),.ret])
def QSa:TCode :=
 (zsq [(.reg [zmv 2 (.k (.n ctOp))]),(.reg [zop 6 (.bsl 69 ctOp []),zmv 3 6]),(zsq [(.reg [zmv 7 0,zle 8 7,zmv 9 (zki 0)]),(.block 0 (.loop Qww Qvp))]),QuE])
def Qtd:List (ARv × Md):=[(.t 2,.one .d)]
def Qrd:Qb:=TQ 0 0 Qtd K
def QH5:Qb:=Qseq (tawp QpN 0 QuE (Qrd K)) (Qrd K)
def QNT:Qb:=Qblk 0 (QH5 K)
def Qog (l:List TOp') (x:Int) (ops:List TOp'):Prop:=Loop QpN 0 Qww Qvp (QNT K) ⟨[(3,(.r ctOp 0 0 ops.length)),(7,(zcs ctOp l)),(8,(zci (l.length:Int))),(9,(zci x))],[(0,(.sl 69 ctOp true ops))],1⟩
theorem Qze (l:List TOp') (x:Int) (ops:List TOp') (h :
 (zif (decide (x<(l.length:Int))) (((0:Int)≤x∧Int.toNat x<l.length)∧(((QJ (α:=List Int) ((gtd dOp l (Int.toNat x)).2.2.2))∧((ops.length=ops.length∨ops.length+1≤ops.length)∧ops.length+1≤big))∧(Qog K l (w64 (x+(1:Int))) (List.take (ops.length+1) ((List.take ops.length ops)++([((gtd dOp l (Int.toNat x)).1,(gtd dOp l (Int.toNat x)).2.1,(gtd dOp l (Int.toNat x)).2.2.1,(List.take ((id (α:=List Int) ((gtd dOp l (Int.toNat x)).2.2.2)).length) (List.drop 0 (id (α:=List Int) ((gtd dOp l (Int.toNat x)).2.2.2)))))])))))) (K (Qc9 (List.take ops.length (List.drop 0 ops)))))):Qog K l x ops :=
 Loop.of (by kernel_rfl) h
theorem QUu (l:List TOp') (h :
 (Qog K l 0 ([]:List TOp'))):Hold (tawp QpN (0+0) QSa (TQ 0 0 Qtd K) (Qd [(.c (.sl ctOp) l)])) :=
 Hold.of (by kernel_rfl) h
theorem QWa (l:List TOp') (hp:QJ (α:=List TOp') l):TCon Tryz.prog 151 [(.c (.sl ctOp) l)] (Qc9 (id (α:=List TOp') l)):=by
 refine Qj rfl fun hb=>tcg (n:=28) (sg:=QgL.sg) Qg (TOk.cons Qbo TOk.nil) (by kernel_rfl) (by kernel_rfl) (QUu _ l ?_)
 have hl_l:l.length≤9223372036854775807:=hb.1.1
 refine QbG (Q:=fun z=>Qc9 z=Qc9 (id (α:=List TOp') l)) hp (fun k x v hk hl hg hv hx ih=>?_) (fun hq=>?_) (R_eq rfl)
 ·refine Qze (fun r'=>r'=Qc9 (id (α:=List TOp') l)) l _ _ ⟨fun _=>?_,fun h=>by simp at h;omega⟩
  try simp only [YC,Yi,QaL] at hx
  rw [Int.toNat_natCast,hg,sc1 (by omega),Zf,Qer]
  exact ⟨⟨by omega,hk⟩,⟨(show Sz.sz (_:List Int)≤2147483648 by omega),room (by omega)⟩,ih⟩
 ·refine Qze (fun r'=>r'=Qc9 (id (α:=List TOp') l)) l _ _ ⟨fun h=>by simp at h,fun _=>?_⟩
  exact R_eq (by simp)
theorem QCi:Qe Tryz.prog QgL:=Qh fun x h=>QWa x.1 h
def QcB (t:(List (List Int))):TRes:=zra (zcs [(.sl [TI])] t)
def Qet:TRow:=Qf 86 [(.c (.sl [(.sl [TI])]))] fun x=>(some (QJ (α:=List (List Int)) x.1),QcB (id (α:=List (List Int)) x.1))
def Qou:List TRow:=[Qay]
def QDh:TCode :=
 (zsq [(.reg [zbi 10 .lss 9 8]),(.cond 10 .skip (.exit 0)),(.block 1 (zsq [(.reg [zia 11 7 9 [(.sl [TI])],zLd 12 11 1,zop 5 (.new 129 [(.n [TI])]),zst 5 12 1]),(.reg [zmv 13 3,zfa 14 5 0,zld 15 14 1,zca 16 119 [15],zop 17 (.build [(.n [TI])] [(0,1,16)]),zop 18 (.bsl 129 [(.sl [TI])] [17]),zop 19 (.app 13 18 129 [(.sl [TI])]),zmv 3 19])])),(.reg [zbi 20 .add 9 (zki 1),zmv 9 20])])
def QD8:List (Nat × Md):=[(3,.one .f),(7,.one .d),(8,.one .d),(9,.one .d)]
def QAW:TCode :=
 (zsq [(.reg [zmv 21 3,zmv 2 21]),.ret])
def QID:TCode :=
 (zsq [(.reg [zmv 2 (.k (.n [(.sl [TI])]))]),(.reg [zop 6 (.bsl 129 [(.sl [TI])] []),zmv 3 6]),(zsq [(.reg [zmv 7 0,zle 8 7,zmv 9 (zki 0)]),(.block 0 (.loop QD8 QDh))]),QAW])
def QvP:List (ARv × Md):=[(.t 2,.one .d)]
def Qvt:Qb:=TQ 0 0 QvP K
def QPY:Qb:=Qseq (tawp Qou 0 QAW (Qvt K)) (Qvt K)
def QJ8:Qb:=Qblk 0 (QPY K)
def Qpe (l:List (List Int)) (x:Int) (rows:List (List Int)):Prop:=Loop Qou 0 QD8 QDh (QJ8 K) ⟨[(3,(.r [(.sl [TI])] 0 0 rows.length)),(7,(zcs [(.sl [TI])] l)),(8,(zci (l.length:Int))),(9,(zci x))],[(0,(.sl 129 [(.sl [TI])] true rows))],1⟩
theorem Qyg (l:List (List Int)) (x:Int) (rows:List (List Int)) (h :
 (zif (decide (x<(l.length:Int))) (((0:Int)≤x∧Int.toNat x<l.length)∧(((QJ (α:=List Int) (gtd ([]:List Int) l (Int.toNat x)))∧((rows.length=rows.length∨rows.length+1≤rows.length)∧rows.length+1≤big))∧(Qpe K l (w64 (x+(1:Int))) (List.take (rows.length+1) ((List.take rows.length rows)++([(List.take ((id (α:=List Int) (gtd ([]:List Int) l (Int.toNat x))).length) (List.drop 0 (id (α:=List Int) (gtd ([]:List Int) l (Int.toNat x)))))])))))) (K (QcB (List.take rows.length (List.drop 0 rows)))))):Qpe K l x rows :=
 Loop.of (by kernel_rfl) h
theorem QG6 (l:List (List Int)) (h :
 (Qpe K l 0 ([]:List (List Int)))):Hold (tawp Qou (0+0) QID (TQ 0 0 QvP K) (Qd [(.c (.sl [(.sl [TI])]) l)])) :=
 Hold.of (by kernel_rfl) h
theorem QUH (l:List (List Int)) (hp:QJ (α:=List (List Int)) l):TCon Tryz.prog 86 [(.c (.sl [(.sl [TI])]) l)] (QcB (id (α:=List (List Int)) l)):=by
 refine Qj rfl fun hb=>tcg (n:=22) (sg:=Qet.sg) Qg (TOk.cons Qbo TOk.nil) (by kernel_rfl) (by kernel_rfl) (QG6 _ l ?_)
 have hl_l:l.length≤9223372036854775807:=hb.1.1
 refine QbG (Q:=fun z=>QcB z=QcB (id (α:=List (List Int)) l)) hp (fun k x v hk hl hg hv hx ih=>?_) (fun hq=>?_) (R_eq rfl)
 ·refine Qyg (fun r'=>r'=QcB (id (α:=List (List Int)) l)) l _ _ ⟨fun _=>?_,fun h=>by simp at h;omega⟩
  try simp only [YC,Yi,QaL] at hx
  rw [Int.toNat_natCast,hg,sc1 (by omega),Zf,Qer]
  exact ⟨⟨by omega,hk⟩,⟨(show Sz.sz (_:List Int)≤2147483648 by omega),room (by omega)⟩,ih⟩
 ·refine Qyg (fun r'=>r'=QcB (id (α:=List (List Int)) l)) l _ _ ⟨fun h=>by simp at h,fun _=>?_⟩
  exact R_eq (by simp)
theorem Qg1:Qe Tryz.prog Qet:=Qh fun x h=>QUH x.1 h
def Qdh (t:(List Qi)):TRes:=zra (zcs Qw t)
def QkF:TRow:=Qf 70 [(.c (.sl Qw))] fun x=>(some (QJ (α:=List Qi) x.1),Qdh (id (α:=List Qi) x.1))
def Qoa:List TRow:=[Qay]
def QvJ:TCode :=
 (zsq [(.reg [zbi 10 .lss 9 8]),(.cond 10 .skip (.exit 0)),(.block 1 (zsq [(.reg [zia 11 7 9 Qw,zLd 12 11 2,zop 5 (.new 108 (z0s Qw)),zst 5 12 2]),(.draw [zmv 13 3,zfa 14 5 0,zld 15 14 1,zca 16 119 [15],zfa 17 5 1,zld 18 17 1,zca 19 119 [18],zop 20 (.build (z0s Qw) [(0,1,16),(1,1,19)]),zop 21 (.bsl 108 Qw [20]),zop 22 (.app 13 21 108 Qw),zmv 3 22] [(3,4),(3,5)])])),(.reg [zbi 23 .add 9 (zki 1),zmv 9 23])])
def QBI:List (Nat × Md):=[(3,.one .f),(7,.one .d),(8,.one .d),(9,.one .d)]
def Qz4:TCode :=
 (zsq [(.reg [zmv 24 3,zmv 2 24]),.ret])
def QQP:TCode :=
 (zsq [(.reg [zmv 2 (.k (.n Qw))]),(.reg [zop 6 (.bsl 108 Qw []),zmv 3 6]),(zsq [(.reg [zmv 7 0,zle 8 7,zmv 9 (zki 0)]),(.block 0 (.loop QBI QvJ))]),Qz4])
def QwD:List (ARv × Md):=[(.t 2,.one .d)]
def QA2:Qb:=TQ 0 0 QwD K
def QJj:Qb:=Qseq (tawp Qoa 0 Qz4 (QA2 K)) (QA2 K)
def QK8:Qb:=Qblk 0 (QJj K)
def QkJ (b:List Qi) (x:Int) (YA:List Qi):Prop:=Loop Qoa 0 QBI QvJ (QK8 K) ⟨[(3,(.r Qw 0 0 YA.length)),(7,(zcs Qw b)),(8,(zci (b.length:Int))),(9,(zci x))],[(0,(.sl 108 Qw true YA))],1⟩
theorem QxQ (b:List Qi) (x:Int) (YA:List Qi) (h :
 (zif (decide (x<(b.length:Int))) (((0:Int)≤x∧Int.toNat x<b.length)∧(((QJ (α:=List Int) ((gtd Zh b (Int.toNat x)).1))∧((QJ (α:=List Int) ((gtd Zh b (Int.toNat x)).2))∧((YA.length=YA.length∨YA.length+1≤YA.length)∧YA.length+1≤big)))∧(QkJ K b (w64 (x+(1:Int))) (List.take (YA.length+1) ((List.take YA.length YA)++([((List.take ((id (α:=List Int) ((gtd Zh b (Int.toNat x)).1)).length) (List.drop 0 (id (α:=List Int) ((gtd Zh b (Int.toNat x)).1)))),(List.take ((id (α:=List Int) ((gtd Zh b (Int.toNat x)).2)).length) (List.drop 0 (id (α:=List Int) ((gtd Zh b (Int.toNat x)).2)))))])))))) (K (Qdh (List.take YA.length (List.drop 0 YA)))))):QkJ K b x YA :=
 Loop.of (by kernel_rfl) h
theorem QOa (b:List Qi) (h :
 (QkJ K b 0 ([]:List Qi))):Hold (tawp Qoa (0+0) QQP (TQ 0 0 QwD K) (Qd [(.c (.sl Qw) b)])) :=
 Hold.of (by kernel_rfl) h
theorem QKz (b:List Qi) (hp:QJ (α:=List Qi) b):TCon Tryz.prog 70 [(.c (.sl Qw) b)] (Qdh (id (α:=List Qi) b)):=by
 refine Qj rfl fun hb=>tcg (n:=25) (sg:=QkF.sg) Qg (TOk.cons Qbo TOk.nil) (by kernel_rfl) (by kernel_rfl) (QOa _ b ?_)
 have hl_b:b.length≤9223372036854775807:=hb.1.1
 refine QbG (Q:=fun z=>Qdh z=Qdh (id (α:=List Qi) b)) hp (fun k x v hk hl hg hv hx ih=>?_) (fun hq=>?_) (R_eq rfl)
 ·refine QxQ (fun r'=>r'=Qdh (id (α:=List Qi) b)) b _ _ ⟨fun _=>?_,fun h=>by simp at h;omega⟩
  try simp only [YC,Yi,QaL] at hx
  rw [Int.toNat_natCast,hg,sc1 (by omega),Zf,Qer,Qer]
  exact ⟨⟨by omega,hk⟩,⟨(show Sz.sz (_:List Int)≤2147483648 by omega),(show Sz.sz (_:List Int)≤2147483648 by omega),room (by omega)⟩,ih⟩
 ·refine QxQ (fun r'=>r'=Qdh (id (α:=List Qi) b)) b _ _ ⟨fun h=>by simp at h,fun _=>?_⟩
  exact R_eq (by simp)
theorem Qvr:Qe Tryz.prog QkF:=Qh fun x h=>QKz x.1 h
def Qk4 (t:QG):TRes:=zra (.a (Tup.cells QK t))
def Qnr:TRow:=Qf 184 [(.a QK)] fun x=>(some (QJ (α:=QG) x.1),Qk4 (id (α:=QG) x.1))
def QUD:List TRow:=[Qet]
def QM1:TCode :=
 (zsq [(.reg [zop 1 (.box 46 0 3),zop 2 (.new 46 (z0s QK))]),(.draw [zfa 3 1 0,zld 4 3 1,zca 5 86 [4],zfa 6 1 1,zld 7 6 1,zfa 8 1 2,zld 9 8 1,zop 10 (.build (z0s QK) [(0,1,5),(1,1,7),(2,1,9)]),zst 2 10 3] [(2,3),(2,4),(2,5),(2,6)]),.ret])
def QSQ:List (ARv × Md):=[(.l 2 3 true,.b [.d,.d,.d])]
theorem QWw (g:QG) (h :
 ((QJ (α:=List (List Int)) g.1)∧K (Qk4 ((id (α:=List (List Int)) g.1),g.2.1,g.2.2)))):Hold (tawp QUD (0+0) QM1 (TQ 0 0 QSQ K) (Qd [(.a (Tup.cells QK g))])) :=
 Hold.of (by kernel_rfl) h
theorem QVH (g:QG) (hp:QJ (α:=QG) g):TCon Tryz.prog 184 [(.a (Tup.cells QK g))] (Qk4 (id (α:=QG) g)):=by
 refine Qj rfl fun hb=>tcg (n:=11) (sg:=Qnr.sg) Qg (TOk.cons Qg1 TOk.nil) (by kernel_rfl) (by kernel_rfl) (QWw _ g ?_)
 have hl_g_0:(g.1).length≤9223372036854775807:=hb.1.1.1
 unfold QJ at hp
 simp only [YC,Yi,QaL] at hp
 exact ⟨hp,R_eq rfl⟩
theorem QJJ:Qe Tryz.prog Qnr:=Qh fun x h=>QVH x.1 h
def Qdd (t:QG):TRes:=zra (.a (Tup.cells QK t))
def QjK:TRow:=Qf 88 [(.a [(.sl ctOp)])] fun x=>(none,Qdd (Zq x.1))
def Qn8:List TRow:=[JU]
def Qxs:TCode :=
 (zsq [(.reg [zbi 15 .lss 14 13]),(.cond 15 .skip (.exit 0)),(.block 1 (zsq [(.reg [zia 16 12 14 ctOp,zLd 17 16 4,zop 5 (.new 69 (z0s ctOp)),zst 5 17 4]),(.draw [zfa 18 3 0,zld 19 18 1,zfa 20 5 3,zld 21 20 1,zle 22 21,zop 23 (.mk 3 [TI] [(zci 0)] 22),zop 24 (.build [(.n [TI])] [(0,1,23)]),zop 25 (.bsl 129 [(.sl [TI])] [24]),zop 26 (.app 19 25 129 [(.sl [TI])]),zfa 27 3 0,zst 27 26 1] [(0,5),(1,5),(0,7),(1,7)])])),(.reg [zbi 28 .add 14 (zki 1),zmv 14 28])])
def QrG:List (Nat × Md):=[(2,.b [.d,.d,.d]),(3,.b [.o 129,.d,.d]),(12,.one .d),(13,.one .d),(14,.one .d)]
def QBR:TCode :=
 (zsq [(.reg [zLd 29 3 3,zst 2 29 3]),.ret])
def QHs:TCode :=
 (zsq [(.reg [zop 1 (.box 26 0 1),zop 2 (.new 46 (z0s QK))]),(zsq [(.reg [zLd 6 1 1,zca 7 131 [6],zno 8 7]),(.cond 8 (zsq [(.reg [zop 9 (.build (z0s QK) []),zst 2 9 3]),.ret]) .skip)]),(.reg [zop 10 (.build (z0s QK) []),zop 3 (.new 46 (z0s QK)),zst 3 10 3]),(zsq [(.reg [zfa 11 1 0,zld 12 11 1,zle 13 12,zmv 14 (zki 0)]),(.block 0 (.loop QrG Qxs))]),QBR])
def Qtq:List (ARv × Md):=[(.l 2 3 true,.b [.d,.d,.d])]
def QAF:Qb:=TQ 0 0 Qtq K
def QUg:Qb:=Qseq (tawp Qn8 0 QBR (QAF K)) (QAF K)
def QJe:Qb:=Qblk 0 (QUg K)
def Qiq (m:List TOp') (x:Int) (g0:List (List Int)):Prop:=Loop Qn8 0 QrG Qxs (QJe K) ⟨[(2,(.p 0 0 0)),(3,(.p 2 0 0)),(12,(zcs ctOp m)),(13,(zci (m.length:Int))),(14,(zci x))],[(0,(.box (Tup.cells QK ([],(0:Int),false)))),(1,(.sl 129 [(.sl [TI])] true g0)),(2,(.box [(.r [(.sl [TI])] 1 0 g0.length),(zci 0),(zcb false)]))],3⟩
theorem QvE (m:List TOp') (x:Int) (g0:List (List Int)) (h :
 (zif (decide (x<(m.length:Int))) (((0:Int)≤x∧Int.toNat x<m.length)∧((((0:Int)≤(((gtd dOp m (Int.toNat x)).2.2.2).length:Int)∧(((gtd dOp m (Int.toNat x)).2.2.2).length:Int)≤big)∧((g0.length=g0.length∨g0.length+1≤g0.length)∧g0.length+1≤big))∧(Qiq K m (w64 (x+(1:Int))) (List.take (g0.length+1) ((List.take g0.length g0)++([(List.take (Int.toNat (((gtd dOp m (Int.toNat x)).2.2.2).length:Int)) (List.drop 0 (List.replicate (Int.toNat (((gtd dOp m (Int.toNat x)).2.2.2).length:Int)) (0:Int))))])))))) (K (Qdd ((List.take g0.length (List.drop 0 g0)),(0:Int),false))))):Qiq K m x g0 :=
 Loop.of (by kernel_rfl) h
theorem QK9 (m:List TOp') (h :
 (zif (!(QN m)) (K (Qdd ([],(0:Int),false))) (Qiq K m 0 ([]:List (List Int))))):Hold (tawp Qn8 (0+0) QHs (TQ 0 0 Qtq K) (Qd [(.a [(.c (.sl ctOp) m)])])) :=
 Hold.of (by kernel_rfl) h
theorem QRW (m:List TOp'):TCon Tryz.prog 88 [(.a [(.c (.sl ctOp) m)])] (Qdd (Zq m)):=by
 refine Qj rfl fun hb=>tcg (n:=30) (sg:=QjK.sg) Qg (TOk.cons QaU TOk.nil) (by kernel_rfl) (by kernel_rfl) (QK9 _ m ?_)
 have hl_m_0:(m).length≤9223372036854775807:=hb.1.1.1
 refine ⟨fun h=>R_eq (by unfold Zq;rw [if_neg (by simpa using h)]),fun h=>?_⟩
 have hm:QN m=true:=by simpa using h
 have hl:=YM hm
 have hv:(Zq m)=(m.map fun o=>List.replicate o.2.2.2.length (0:Int),0,false):=by unfold Zq;rw [if_pos hm]
 refine Zp m (fun r k=>∀ v:List (List Int),v.length=k→v++r.map (fun o=>List.replicate o.2.2.2.length (0:Int))=m.map (fun o=>List.replicate o.2.2.2.length (0:Int))→Qiq (fun r'=>r'=Qdd (Zq m)) m k v) ?_ ?_ [] rfl rfl
 ·intro v hk he
  refine QvE (fun r'=>r'=Qdd (Zq m)) m _ _ ⟨fun h=>by simp at h,fun _=>R_eq ?_⟩
  rw [hv,← he];simp
 ·intro k x r hk hlt hg ih v hvl he
  have ho:=Qht (Qip hm hlt)
  rw [hg] at ho
  refine QvE (fun r'=>r'=Qdd (Zq m)) m _ _ ⟨fun _=>?_,fun h=>by simp [hm] at h;omega⟩
  rw [Int.toNat_natCast,hg,sc1 (by omega),Int.toNat_natCast,Zf,Qyu]
  refine ⟨⟨by omega,hlt⟩,⟨⟨by omega,by rw [bigI];omega⟩,room (by omega)⟩,ih _ (YF hvl) ?_⟩
  rw [← he];simp
theorem Qvv:Qe Tryz.prog QjK:=Qh fun x _=>QRW x.1
def Qdk (t:QG):TRes:=zra (.a (Tup.cells QK t))
def QmS:TRow:=Qf 83 [(.a [(.sl ctOp)])] fun x=>(none,Qdk (Zq x.1))
def Qnm:List TRow:=[Qcj]
def QyO:TCode :=
 (zsq [(zsq [(.reg [zmv 6 4,zfa 7 1 0,zld 8 7 1,zle 9 8,zbi 10 .lss 6 9,zmv 11 10,.grp 11 true [zLd 12 1 1,zca 13 74 [12]] 14 13]),(.cond 14 .skip (.exit 0))]),(.block 1 (.draw [zfa 17 3 0,zld 18 17 1,zfa 19 1 0,zld 20 19 1,zmv 21 4,zia 22 20 21 ctOp,zfa 23 22 3,zld 24 23 1,zle 25 24,zop 26 (.mk 3 [TI] [(zci 0)] 25),zop 27 (.build [(.n [TI])] [(0,1,26)]),zop 28 (.bsl 129 [(.sl [TI])] [27]),zop 29 (.app 18 28 129 [(.sl [TI])]),zfa 30 3 0,zst 30 29 1] [(0,9),(1,9),(0,11),(1,11)])),(.reg [zmv 15 4,zbi 16 .add 15 (zki 1),zmv 4 16])])
def Qrp:List (Nat × Md):=[(1,.b [.d]),(2,.b [.d,.d,.d]),(3,.b [.o 129,.d,.d]),(4,.one .d)]
def QDD:TCode :=
 (zsq [(.reg [zLd 31 3 3,zst 2 31 3]),.ret])
def QMT:TCode :=
 (zsq [(.reg [zop 1 (.box 26 0 1),zop 2 (.new 46 (z0s QK))]),(.reg [zop 5 (.build (z0s QK) []),zop 3 (.new 46 (z0s QK)),zst 3 5 3]),(zsq [(.reg [zmv 4 (zki 0)]),(.block 0 (.loop Qrp QyO))]),QDD])
def QDG:List (ARv × Md):=[(.l 2 3 true,.b [.d,.d,.d])]
def QAq:Qb:=TQ 0 0 QDG K
def QXV:Qb:=Qseq (tawp Qnm 0 QDD (QAq K)) (QAq K)
def QSg:Qb:=Qblk 0 (QXV K)
def QhX (m:List TOp') (i:Int) (g0:List (List Int)):Prop:=Loop Qnm 0 Qrp QyO (QSg K) ⟨[(1,(.p 0 0 0)),(2,(.p 1 0 0)),(3,(.p 3 0 0)),(4,(zci i))],[(0,(.box [(zcs ctOp m)])),(1,(.box (Tup.cells QK ([],(0:Int),false)))),(2,(.sl 129 [(.sl [TI])] true g0)),(3,(.box [(.r [(.sl [TI])] 2 0 g0.length),(zci 0),(zcb false)]))],4⟩
theorem Qpx (m:List TOp') (i:Int) (g0:List (List Int)) (h :
 (zif ((decide (i<(m.length:Int)))&&(QN m)) ((((0:Int)≤i∧Int.toNat i<m.length)∧(((0:Int)≤(((gtd dOp m (Int.toNat i)).2.2.2).length:Int)∧(((gtd dOp m (Int.toNat i)).2.2.2).length:Int)≤big)∧((g0.length=g0.length∨g0.length+1≤g0.length)∧g0.length+1≤big)))∧(QhX K m (w64 (i+(1:Int))) (List.take (g0.length+1) ((List.take g0.length g0)++([(List.take (Int.toNat (((gtd dOp m (Int.toNat i)).2.2.2).length:Int)) (List.drop 0 (List.replicate (Int.toNat (((gtd dOp m (Int.toNat i)).2.2.2).length:Int)) (0:Int))))]))))) (K (Qdk ((List.take g0.length (List.drop 0 g0)),(0:Int),false))))):QhX K m i g0 :=
 Loop.of (by kernel_rfl) h
theorem QJl (m:List TOp') (h :
 (QhX K m 0 ([]:List (List Int)))):Hold (tawp Qnm (0+0) QMT (TQ 0 0 QDG K) (Qd [(.a [(.c (.sl ctOp) m)])])) :=
 Hold.of (by kernel_rfl) h
theorem QEm (m:List TOp'):TCon Tryz.prog 83 [(.a [(.c (.sl ctOp) m)])] (Qdk (Zq m)):=by
 refine Qj rfl fun hb=>tcg (n:=32) (sg:=QmS.sg) Qg (TOk.cons QeL TOk.nil) (by kernel_rfl) (by kernel_rfl) (QJl _ m ?_)
 have hl_m_0:(m).length≤9223372036854775807:=hb.1.1.1
 by_cases hm:QN m=true
 rotate_left
 ·refine Qpx (fun r'=>r'=Qdk (Zq m)) m _ _ ⟨fun h=>by simp [hm] at h,fun _=>R_eq (by unfold Zq;rw [if_neg hm];rfl)⟩
 have hl:=YM hm
 have hv:(Zq m)=(m.map fun o=>List.replicate o.2.2.2.length (0:Int),0,false):=by unfold Zq;rw [if_pos hm]
 refine Zp m (fun r k=>∀ v:List (List Int),v.length=k→v++r.map (fun o=>List.replicate o.2.2.2.length (0:Int))=m.map (fun o=>List.replicate o.2.2.2.length (0:Int))→QhX (fun r'=>r'=Qdk (Zq m)) m k v) ?_ ?_ [] rfl rfl
 ·intro v hk he
  refine Qpx (fun r'=>r'=Qdk (Zq m)) m _ _ ⟨fun h=>by simp at h,fun _=>R_eq ?_⟩
  rw [hv,← he];simp
 ·intro k x r hk hlt hg ih v hvl he
  have ho:=Qht (Qip hm hlt)
  rw [hg] at ho
  refine Qpx (fun r'=>r'=Qdk (Zq m)) m _ _ ⟨fun _=>?_,fun h=>by simp [hm] at h;omega⟩
  rw [Int.toNat_natCast,hg,sc1 (by omega),Int.toNat_natCast,Zf,Qyu]
  refine ⟨⟨⟨by omega,hlt⟩,⟨by omega,by rw [bigI];omega⟩,room (by omega)⟩,ih _ (YF hvl) ?_⟩
  rw [← he];simp
theorem QGV:Qe Tryz.prog QmS:=Qh fun x _=>QEm x.1
def Qc1 (t:(List Int) × Bool):TRes:=zra (.tp [(zcs [TI] t.1),(zcb t.2)])
def Ql2:TRow:=Qf 161 [(.c (.sl [TI])),(.c (.sl [TI]))] fun x=>(some (Yf (α:=List Int) (β:=List Int) x.1 x.2.1),Qc1 (J1 x.1 x.2.1))
def QoT:List TRow:=[QdF]
def QwL:TCode :=
 (zsq [(zsq [(.reg [zmv 12 8,zmv 13 0,zle 14 13,zbi 15 .lss 12 14,zmv 16 15,.grp 16 true [zmv 17 8,zmv 18 1,zle 19 18,zbi 20 .lss 17 19] 21 20]),(.cond 21 .skip (.exit 0))]),(.block 1 (zsq [(.draw [zmv 25 0,zmv 26 8,zia 27 25 26 [TI],zld 28 27 1,zmv 29 1,zmv 30 8,zia 31 29 30 [TI],zld 32 31 1,zca 33 162 [28,32],zmv 24 33,zex 34 24 0,zex 35 24 1,zmv 9 34,zmv 10 35] []),(.reg [zmv 36 6,zmv 37 9,zop 38 (.bsl 3 [TI] [37]),zop 39 (.app 36 38 3 [TI]),zmv 6 39]),(.reg [zmv 40 7,zmv 41 40,.grp 41 false [zmv 42 10] 43 42,zmv 7 43])])),(.reg [zmv 22 8,zbi 23 .add 22 (zki 1),zmv 8 23])])
def QyZ:List (Nat × Md):=[(0,.one .d),(1,.one .d),(6,.one .f),(7,.one .d),(8,.one .d)]
def QA9:TCode :=
 (zsq [(.reg [zmv 44 6,zmv 45 7,zmv 4 44,zmv 5 45]),.ret])
def QYr:TCode :=
 (zsq [(.reg [zmv 4 (.k (.n [TI])),zmv 5 (zkb false)]),(.reg [zop 11 (.bsl 3 [TI] []),zmv 6 11]),(.reg [zmv 7 (zkb false)]),(zsq [(.reg [zmv 8 (zki 0)]),(.block 0 (.loop QyZ QwL))]),QA9])
def Qse:List (ARv × Md):=[(.t 4,.one .d),(.t 5,.one .d)]
def Qrc:Qb:=TQ 0 0 Qse K
def QJT:Qb:=Qseq (tawp QoT 0 QA9 (Qrc K)) (Qrc K)
def QNd:Qb:=Qblk 0 (QJT K)
def QhO (a:List Int) (b:List Int) (sat:Bool) (i:Int) (out:List Int):Prop:=Loop QoT 0 QyZ QwL (QNd K) ⟨[(0,(zcs [TI] a)),(1,(zcs [TI] b)),(6,(.r [TI] 0 0 out.length)),(7,(zcb sat)),(8,(zci i))],[(0,(.sl 3 [TI] true out))],1⟩
theorem Qpk (a:List Int) (b:List Int) (sat:Bool) (i:Int) (out:List Int) (h :
 (zif ((decide (i<(a.length:Int)))&&(decide (i<(b.length:Int)))) ((((0:Int)≤i∧Int.toNat i<a.length)∧((0:Int)≤i∧Int.toNat i<b.length))∧(((out.length=out.length∨out.length+1≤out.length)∧out.length+1≤big)∧(QhO K a b (sat||((Q4 (gtd (0:Int) a (Int.toNat i)) (gtd (0:Int) b (Int.toNat i))).2)) (w64 (i+(1:Int))) (List.take (out.length+1) ((List.take out.length out)++([(Q4 (gtd (0:Int) a (Int.toNat i)) (gtd (0:Int) b (Int.toNat i))).1])))))) (K (Qc1 ((List.take out.length (List.drop 0 out)),sat))))):QhO K a b sat i out :=
 Loop.of (by kernel_rfl) h
theorem QNS (a:List Int) (b:List Int) (h :
 (QhO K a b false 0 ([]:List Int))):Hold (tawp QoT (0+0) QYr (TQ 0 0 Qse K) (Qd [(.c (.sl [TI]) a),(.c (.sl [TI]) b)])) :=
 Hold.of (by kernel_rfl) h
theorem QIv (a:List Int) (b:List Int) (hp:Yf (α:=List Int) (β:=List Int) a b):TCon Tryz.prog 161 [(.c (.sl [TI]) a),(.c (.sl [TI]) b)] (Qc1 (J1 a b)):=by
 refine Qj rfl fun hb=>tcg (n:=46) (sg:=Ql2.sg) Qg (TOk.cons QjM TOk.nil) (by kernel_rfl) (by kernel_rfl) (QNS _ a b ?_)
 have hl_a:a.length≤9223372036854775807:=hb.1.1
 have hl_b:b.length≤9223372036854775807:=hb.2.1.1
 unfold Yf at hp
 have ha:=Y6 a
 have hb2:=Y6 b
 refine Zp a (fun r k=>∀ (v:List Int) (s:Bool),v.length=k→(v++(vz Q4 r (b.drop k)).1,s||(vz Q4 r (b.drop k)).2)=(J1 a b)→QhO (fun r'=>r'=Qc1 (J1 a b)) a b s k v) ?_ ?_ [] false rfl (by unfold J1;simp)
 ·intro v s hv he
  refine Qpk (fun r'=>r'=Qc1 (J1 a b)) a b _ _ _ ⟨fun h=>by simp at h,fun _=>R_eq ?_⟩
  rw [← he];simp [vz]
 ·intro k x r hk hlt hg ih v s hv he
  by_cases hkb:k<b.length
  ·obtain ⟨y,q,hq⟩:=Jg (l:=b) (k:=k) hkb
   refine Qpk (fun r'=>r'=Qc1 (J1 a b)) a b _ _ _ ⟨fun _=>?_,fun h=>by simp at h;omega⟩
   rw [Int.toNat_natCast,hg,Yp hq,sc1 (by omega),Zf]
   refine ⟨⟨⟨by omega,hlt⟩,by omega,hkb⟩,room (by omega),ih _ _ (YF hv) ?_⟩
   rw [← he,hq,vz,Z6 hq]
   simp [Bool.or_assoc]
  ·refine Qpk (fun r'=>r'=Qc1 (J1 a b)) a b _ _ _ ⟨fun h=>by simp at h;omega,fun _=>R_eq ?_⟩
   rw [← he,QgX (l:=b) (by omega)];simp [vz]
theorem QIr:Qe Tryz.prog Ql2:=Qh fun x h=>QIv x.1 x.2.1 h
def QaB (t:QG):TRes:=zra (.a (Tup.cells QK t))
def Qj0:TRow:=Qf 89 [(.a QK),(.a QK)] fun x=>(some (Yf (α:=QG) (β:=QG) x.1 x.2.1),QaB (ZA x.1 x.2.1))
def QcV:List TRow:=[QeH]
def Qtv:TCode :=
 (zsq [(zsq [(.reg [zmv 35 8,zfa 36 2 0,zld 37 36 1,zmv 38 6,zia 39 37 38 [(.sl [TI])],zfa 40 39 0,zld 41 40 1,zle 42 41,zbi 43 .lss 35 42,zmv 44 43,.grp 44 true [zmv 45 8,zfa 46 3 0,zld 47 46 1,zmv 48 6,zia 49 47 48 [(.sl [TI])],zfa 50 49 0,zld 51 50 1,zle 52 51,zbi 53 .lss 45 52] 54 53]),(.cond 54 .skip (.exit 2))]),(.block 3 (zsq [(.draw [zfa 58 2 0,zld 59 58 1,zmv 60 6,zia 61 59 60 [(.sl [TI])],zfa 62 61 0,zld 63 62 1,zmv 64 8,zia 65 63 64 [TI],zld 66 65 1,zfa 67 3 0,zld 68 67 1,zmv 69 6,zia 70 68 69 [(.sl [TI])],zfa 71 70 0,zld 72 71 1,zmv 73 8,zia 74 72 73 [TI],zld 75 74 1,zca 76 121 [66,75],zmv 57 76,zex 77 57 0,zex 78 57 1,zmv 9 77,zmv 10 78] []),(.reg [zfa 79 7 0,zld 80 79 1,zmv 81 9,zop 82 (.bsl 3 [TI] [81]),zop 83 (.app 80 82 3 [TI]),zfa 84 7 0,zst 84 83 1]),(.reg [zfa 85 5 2,zld 86 85 1,zmv 87 86,.grp 87 false [zmv 88 10] 89 88,zfa 90 5 2,zst 90 89 1])])),(.reg [zmv 55 8,zbi 56 .add 55 (zki 1),zmv 8 56])])
def Qtw:List (Nat × Md):=[(2,.b [.d,.d,.d]),(3,.b [.d,.d,.d]),(4,.b [.d,.d,.d]),(5,.b [.f,.d,.d]),(6,.one .d),(7,.b [.o 3]),(8,.one .d)]
def QCk:TCode :=
 (.reg [zfa 91 5 0,zld 92 91 1,zLd 93 7 1,zop 94 (.bsl 129 [(.sl [TI])] [93]),zop 95 (.app 92 94 129 [(.sl [TI])]),zfa 96 5 0,zst 96 95 1])
def Qwg:TCode :=
 (.reg [zmv 32 6,zbi 33 .add 32 (zki 1),zmv 6 33])
def QoQ:TCode :=
 (zsq [(zsq [(.reg [zmv 20 6,zfa 21 2 0,zld 22 21 1,zle 23 22,zbi 24 .lss 20 23,zmv 25 24,.grp 25 true [zmv 26 6,zfa 27 3 0,zld 28 27 1,zle 29 28,zbi 30 .lss 26 29] 31 30]),(.cond 31 .skip (.exit 0))]),(.block 1 (zsq [(.reg [zop 34 (.build [(.n [TI])] []),zop 7 (.new 129 [(.n [TI])]),zst 7 34 1]),(zsq [(.reg [zmv 8 (zki 0)]),(.block 2 (.loop Qtw Qtv))]),QCk])),Qwg])
def QiH:List (Nat × Md):=[(2,.b [.d,.d,.d]),(3,.b [.d,.d,.d]),(4,.b [.d,.d,.d]),(5,.b [.o 129,.d,.d]),(6,.one .d)]
def Qsv:TCode :=
 (zsq [(.reg [zfa 98 2 1,zld 99 98 1,zfa 100 3 1,zld 101 100 1,zca 102 121 [99,101],zmv 97 102,zex 103 97 0,zex 104 97 1,zmv 11 103,zmv 12 104]),(.reg [zmv 105 11,zfa 106 5 1,zst 106 105 1]),(.reg [zfa 107 5 2,zld 108 107 1,zmv 109 108,.grp 109 false [zmv 110 12] 111 110,zfa 112 5 2,zst 112 111 1]),(.reg [zLd 113 5 3,zst 4 113 3]),.ret])
def QJv:TCode :=
 (zsq [(.reg [zop 2 (.box 46 0 3),zop 3 (.box 46 1 3),zop 4 (.new 46 (z0s QK))]),(.reg [zfa 13 2 2,zld 14 13 1,zmv 15 14,.grp 15 false [zfa 16 3 2,zld 17 16 1] 18 17,zop 19 (.build (z0s QK) [(2,1,18)]),zop 5 (.new 46 (z0s QK)),zst 5 19 3]),(zsq [(.reg [zmv 6 (zki 0)]),(.block 0 (.loop QiH QoQ))]),Qsv])
def Qwf:List (ARv × Md):=[(.l 4 3 true,.b [.d,.d,.d])]
def Qxm:Qb:=TQ 0 0 Qwf K
def QTz:Qb:=Qseq (tawp QcV 0 Qsv (Qxm K)) (Qxm K)
def QqF:Qb:=Qblk 0 (QTz K)
def QBZ:Qb:=Qseq (fun s'=>Loop QcV 0 QiH QoQ (QqF K) (gc 0 QiH s')) (QqF K)
def QGH:Qb:=Qseq (tawp QcV 0 Qwg (QBZ K)) (QBZ K)
def QCM:Qb:=Qblk 1 (QGH K)
def QLT:Qb:=Qseq (tawp QcV 0 QCk (QCM K)) (QCM K)
def QGE:Qb:=Qblk 2 (QLT K)
def Qkc (a:QG) (b:QG) (k:Int) (g2:Bool) (row0:List Int) (i:Int) (g01:List (List Int)):Prop:=Loop QcV 0 Qtw Qtv (QGE K) ⟨[(2,(.p 0 0 0)),(3,(.p 1 0 0)),(4,(.p 2 0 0)),(5,(.p 4 0 0)),(6,(zci i)),(7,(.p 6 0 0)),(8,(zci k))],[(0,(.box (Tup.cells QK a))),(1,(.box (Tup.cells QK b))),(2,(.box (Tup.cells QK ([],(0:Int),false)))),(3,(.sl 129 [(.sl [TI])] true g01)),(4,(.box [(.r [(.sl [TI])] 3 0 g01.length),(zci 0),(zcb g2)])),(5,(.sl 3 [TI] true row0)),(6,(.box [(.r [TI] 5 0 row0.length)]))],7⟩
def QiQ (a:QG) (b:QG) (i:Int) (g0:List (List Int)) (g21:Bool):Prop:=Loop QcV 0 QiH QoQ (QqF K) ⟨[(2,(.p 0 0 0)),(3,(.p 1 0 0)),(4,(.p 2 0 0)),(5,(.p 4 0 0)),(6,(zci i))],[(0,(.box (Tup.cells QK a))),(1,(.box (Tup.cells QK b))),(2,(.box (Tup.cells QK ([],(0:Int),false)))),(3,(.sl 129 [(.sl [TI])] true g0)),(4,(.box [(.r [(.sl [TI])] 3 0 g0.length),(zci 0),(zcb g21)]))],5⟩
theorem Qtx (a:QG) (b:QG) (k:Int) (g2:Bool) (row0:List Int) (i:Int) (g01:List (List Int)) (h :
 ((((0:Int)≤i∧Int.toNat i<(a.1).length)∧((decide (k<((gtd ([]:List Int) a.1 (Int.toNat i)).length:Int)))=true→((0:Int)≤i∧Int.toNat i<(b.1).length)))∧(zif ((decide (k<((gtd ([]:List Int) a.1 (Int.toNat i)).length:Int)))&&(decide (k<((gtd ([]:List Int) b.1 (Int.toNat i)).length:Int)))) ((((0:Int)≤i∧Int.toNat i<(a.1).length)∧(((0:Int)≤k∧Int.toNat k<(gtd ([]:List Int) a.1 (Int.toNat i)).length)∧(((0:Int)≤i∧Int.toNat i<(b.1).length)∧((0:Int)≤k∧Int.toNat k<(gtd ([]:List Int) b.1 (Int.toNat i)).length))))∧(((row0.length=row0.length∨row0.length+1≤row0.length)∧row0.length+1≤big)∧(Qkc K a b (w64 (k+(1:Int))) (g2||((Q4 (gtd (0:Int) (gtd ([]:List Int) a.1 (Int.toNat i)) (Int.toNat k)) (gtd (0:Int) (gtd ([]:List Int) b.1 (Int.toNat i)) (Int.toNat k))).2)) (List.take (row0.length+1) ((List.take row0.length row0)++([(Q4 (gtd (0:Int) (gtd ([]:List Int) a.1 (Int.toNat i)) (Int.toNat k)) (gtd (0:Int) (gtd ([]:List Int) b.1 (Int.toNat i)) (Int.toNat k))).1]))) i (List.take g01.length g01)))) (((g01.length=g01.length∨g01.length+1≤g01.length)∧g01.length+1≤big)∧(QiQ K a b (w64 (i+(1:Int))) (List.take (g01.length+1) ((List.take g01.length g01)++([(List.take row0.length (List.drop 0 row0))]))) g2))))):Qkc K a b k g2 row0 i g01 :=
 Loop.of (by kernel_rfl) h
theorem QlF (a:QG) (b:QG) (i:Int) (g0:List (List Int)) (g21:Bool) (h :
 (zif ((decide (i<((a.1).length:Int)))&&(decide (i<((b.1).length:Int)))) (Qkc K a b 0 g21 ([]:List Int) i (List.take g0.length g0)) (K (QaB ((List.take g0.length (List.drop 0 g0)),(Q4 a.2.1 b.2.1).1,(g21||((Q4 a.2.1 b.2.1).2))))))):QiQ K a b i g0 g21 :=
 Loop.of (by kernel_rfl) h
theorem QOB (a:QG) (b:QG) (h :
 (QiQ K a b 0 ([]:List (List Int)) (a.2.2||b.2.2))):Hold (tawp QcV (0+0) QJv (TQ 0 0 Qwf K) (Qd [(.a (Tup.cells QK a)),(.a (Tup.cells QK b))])) :=
 Hold.of (by kernel_rfl) h
theorem QEF (a:QG) (b:QG) (hp:Yf (α:=QG) (β:=QG) a b):TCon Tryz.prog 89 [(.a (Tup.cells QK a)),(.a (Tup.cells QK b))] (QaB (ZA a b)):=by
 refine Qj rfl fun hb=>tcg (n:=114) (sg:=Qj0.sg) Qg (TOk.cons Qjs TOk.nil) (by kernel_rfl) (by kernel_rfl) (QOB _ a b ?_)
 have hl_a_0:(a.1).length≤9223372036854775807:=hb.1.1.1
 have hl_b_0:(b.1).length≤9223372036854775807:=hb.2.1.1.1
 unfold Yf at hp
 simp only [YC,Yi,QaL] at hp
 have ha:=Qab a.1
 refine Zp a.1 (fun r k=>∀ (v:List (List Int)) (z:Bool),v.length=k→v++(Zd r (b.1.drop k)).1=(Zd a.1 b.1).1→(z||(Zd r (b.1.drop k)).2)=(a.2.2||b.2.2||(Zd a.1 b.1).2)→QiQ (fun r'=>r'=QaB (ZA a b)) a b k v z) ?_ ?_ [] _ rfl (by simp) (by simp)
 ·intro v z hv he hz
  refine QlF (fun r'=>r'=QaB (ZA a b)) a b _ _ _ ⟨fun h=>by simp at h,fun _=>R_eq ?_⟩
  unfold ZA;rw [← he,← hz];simp [Zd]
 ·intro k x r hk hlt hg ih v z hv he hz
  by_cases hkb:k<b.1.length
  ·obtain ⟨y,q,hq⟩:=Jg (l:=b.1) (k:=k) hkb
   have hx:=QhN hk
   have hxl:=Y6 x
   refine QlF (fun r'=>r'=QaB (ZA a b)) a b _ _ _ ⟨fun _=>?_,fun h=>by simp at h;omega⟩
   rw [List.take_length]
   refine Zp x (fun r2 j=>∀ (w:List Int) (z2:Bool),w.length=j→w++(vz Q4 r2 (y.drop j)).1=(vz Q4 x y).1→(z2||(vz Q4 r2 (y.drop j)).2)=(z||(vz Q4 x y).2)→Qkc (fun r'=>r'=QaB (ZA a b)) a b j z2 w k v) ?_ ?_ [] z rfl (by simp) (by simp)
   ·intro w z2 hw he2 hz2
    refine Qtx (fun r'=>r'=QaB (ZA a b)) a b _ _ _ _ _ ?_
    rw [Int.toNat_natCast,hg,Yp hq]
    refine ⟨⟨⟨by omega,hlt⟩,fun h=>by simp at h⟩,fun h=>by simp at h,fun _=>⟨room (by omega),?_⟩⟩
    rw [QcY,sc1 (by omega),Zf]
    simp only [vz,List.append_nil,Bool.or_false] at he2 hz2
    refine ih _ _ (YF hv) ?_ ?_
    ·rw [← he,hq,Zd,Z6 hq,he2];simp
    ·rw [← hz,hq,Zd,Z6 hq,hz2];simp [Bool.or_assoc]
   ·intro j e r2 hj hlt2 hg2 ih2 w z2 hw he2 hz2
    refine Qtx (fun r'=>r'=QaB (ZA a b)) a b _ _ _ _ _ ?_
    rw [Int.toNat_natCast,Int.toNat_natCast,hg,Yp hq]
    by_cases hjy:j<y.length
    ·obtain ⟨f,q2,hq2⟩:=Jg (l:=y) (k:=j) hjy
     refine ⟨⟨⟨by omega,hlt⟩,fun _=>⟨by omega,hkb⟩⟩,fun _=>?_,fun h=>by simp at h;omega⟩
     rw [hg2,Yp hq2,sc1 (by omega),Zf,List.take_length]
     refine ⟨⟨⟨by omega,hlt⟩,⟨by omega,hlt2⟩,⟨by omega,hkb⟩,by omega,hjy⟩,room (by omega),ih2 _ _ (YF hw) ?_ ?_⟩
     ·rw [← he2,hq2,vz,Z6 hq2];simp
     ·rw [← hz2,hq2,vz,Z6 hq2];simp [Bool.or_assoc]
    ·refine ⟨⟨⟨by omega,hlt⟩,fun _=>⟨by omega,hkb⟩⟩,fun h=>by simp at h;omega,fun _=>⟨room (by omega),?_⟩⟩
     rw [QcY,sc1 (by omega),Zf]
     rw [QgX (l:=y) (by omega)] at he2 hz2
     simp only [vz,List.append_nil,Bool.or_false] at he2 hz2
     refine ih _ _ (YF hv) ?_ ?_
     ·rw [← he,hq,Zd,Z6 hq,he2];simp
     ·rw [← hz,hq,Zd,Z6 hq,hz2];simp [Bool.or_assoc]
  ·refine QlF (fun r'=>r'=QaB (ZA a b)) a b _ _ _ ⟨fun h=>by simp at h;omega,fun _=>R_eq ?_⟩
   unfold ZA;rw [← he,← hz,QgX (l:=b.1) (by omega)];simp [Zd]
theorem QsJ:Qe Tryz.prog Qj0:=Qh fun x h=>QEF x.1 x.2.1 h
def QcQ (t:QG):TRes:=zra (.a (Tup.cells QK t))
def Qqs:TRow:=Qf 84 [(.a QK),(.a QK)] fun x=>(some (Yf (α:=QG) (β:=QG) x.1 x.2.1),QcQ (ZA x.1 x.2.1))
def Qo6:List TRow:=[Ql2,QdF]
def QAA:TCode :=
 (zsq [(zsq [(.reg [zmv 18 6,zfa 19 2 0,zld 20 19 1,zle 21 20,zbi 22 .lss 18 21,zmv 23 22,.grp 23 true [zmv 24 6,zfa 25 3 0,zld 26 25 1,zle 27 26,zbi 28 .lss 24 27] 29 28]),(.cond 29 .skip (.exit 0))]),(.block 1 (zsq [(.draw [zfa 33 2 0,zld 34 33 1,zmv 35 6,zia 36 34 35 [(.sl [TI])],zfa 37 36 0,zld 38 37 1,zfa 39 3 0,zld 40 39 1,zmv 41 6,zia 42 40 41 [(.sl [TI])],zfa 43 42 0,zld 44 43 1,zca 45 161 [38,44],zmv 32 45,zex 46 32 0,zex 47 32 1,zmv 7 46,zmv 8 47] []),(.reg [zfa 48 5 0,zld 49 48 1,zmv 50 7,zop 51 (.build [(.n [TI])] [(0,1,50)]),zop 52 (.bsl 129 [(.sl [TI])] [51]),zop 53 (.app 49 52 129 [(.sl [TI])]),zfa 54 5 0,zst 54 53 1]),(.reg [zfa 55 5 2,zld 56 55 1,zmv 57 56,.grp 57 false [zmv 58 8] 59 58,zfa 60 5 2,zst 60 59 1])])),(.reg [zmv 30 6,zbi 31 .add 30 (zki 1),zmv 6 31])])
def QzL:List (Nat × Md):=[(2,.b [.d,.d,.d]),(3,.b [.d,.d,.d]),(4,.b [.d,.d,.d]),(5,.b [.o 129,.d,.d]),(6,.one .d)]
def QBY:TCode :=
 (zsq [(.reg [zfa 62 2 1,zld 63 62 1,zfa 64 3 1,zld 65 64 1,zca 66 162 [63,65],zmv 61 66,zex 67 61 0,zex 68 61 1,zmv 9 67,zmv 10 68]),(.reg [zmv 69 9,zfa 70 5 1,zst 70 69 1]),(.reg [zfa 71 5 2,zld 72 71 1,zmv 73 72,.grp 73 false [zmv 74 10] 75 74,zfa 76 5 2,zst 76 75 1]),(.reg [zLd 77 5 3,zst 4 77 3]),.ret])
def QRR:TCode :=
 (zsq [(.reg [zop 2 (.box 46 0 3),zop 3 (.box 46 1 3),zop 4 (.new 46 (z0s QK))]),(.reg [zfa 11 2 2,zld 12 11 1,zmv 13 12,.grp 13 false [zfa 14 3 2,zld 15 14 1] 16 15,zop 17 (.build (z0s QK) [(2,1,16)]),zop 5 (.new 46 (z0s QK)),zst 5 17 3]),(zsq [(.reg [zmv 6 (zki 0)]),(.block 0 (.loop QzL QAA))]),QBY])
def Qzl:List (ARv × Md):=[(.l 4 3 true,.b [.d,.d,.d])]
def Qry:Qb:=TQ 0 0 Qzl K
def QQ1:Qb:=Qseq (tawp Qo6 0 QBY (Qry K)) (Qry K)
def QUF:Qb:=Qblk 0 (QQ1 K)
def QjY (a:QG) (b:QG) (i:Int) (g0:List (List Int)) (g2:Bool):Prop:=Loop Qo6 0 QzL QAA (QUF K) ⟨[(2,(.p 0 0 0)),(3,(.p 1 0 0)),(4,(.p 2 0 0)),(5,(.p 4 0 0)),(6,(zci i))],[(0,(.box (Tup.cells QK a))),(1,(.box (Tup.cells QK b))),(2,(.box (Tup.cells QK ([],(0:Int),false)))),(3,(.sl 129 [(.sl [TI])] true g0)),(4,(.box [(.r [(.sl [TI])] 3 0 g0.length),(zci 0),(zcb g2)]))],5⟩
theorem Qnc (a:QG) (b:QG) (i:Int) (g0:List (List Int)) (g2:Bool) (h :
 (zif ((decide (i<((a.1).length:Int)))&&(decide (i<((b.1).length:Int)))) ((((0:Int)≤i∧Int.toNat i<(a.1).length)∧(((0:Int)≤i∧Int.toNat i<(b.1).length)∧(Yf (α:=List Int) (β:=List Int) (gtd ([]:List Int) a.1 (Int.toNat i)) (gtd ([]:List Int) b.1 (Int.toNat i)))))∧(((g0.length=g0.length∨g0.length+1≤g0.length)∧g0.length+1≤big)∧(QjY K a b (w64 (i+(1:Int))) (List.take (g0.length+1) ((List.take g0.length g0)++([(J1 (gtd ([]:List Int) a.1 (Int.toNat i)) (gtd ([]:List Int) b.1 (Int.toNat i))).1]))) (g2||((J1 (gtd ([]:List Int) a.1 (Int.toNat i)) (gtd ([]:List Int) b.1 (Int.toNat i))).2))))) (K (QcQ ((List.take g0.length (List.drop 0 g0)),(Q4 a.2.1 b.2.1).1,(g2||((Q4 a.2.1 b.2.1).2))))))):QjY K a b i g0 g2 :=
 Loop.of (by kernel_rfl) h
theorem QF9 (a:QG) (b:QG) (h :
 (QjY K a b 0 ([]:List (List Int)) (a.2.2||b.2.2))):Hold (tawp Qo6 (0+0) QRR (TQ 0 0 Qzl K) (Qd [(.a (Tup.cells QK a)),(.a (Tup.cells QK b))])) :=
 Hold.of (by kernel_rfl) h
theorem QEj (a:QG) (b:QG) (hp:Yf (α:=QG) (β:=QG) a b):TCon Tryz.prog 84 [(.a (Tup.cells QK a)),(.a (Tup.cells QK b))] (QcQ (ZA a b)):=by
 refine Qj rfl fun hb=>tcg (n:=78) (sg:=Qqs.sg) Qg (TOk.cons QIr (TOk.cons QjM TOk.nil)) (by kernel_rfl) (by kernel_rfl) (QF9 _ a b ?_)
 have hl_a_0:(a.1).length≤9223372036854775807:=hb.1.1.1
 have hl_b_0:(b.1).length≤9223372036854775807:=hb.2.1.1.1
 unfold Yf at hp
 simp only [YC,Yi,QaL] at hp
 have ha:=Qab a.1
 refine Zp a.1 (fun r k=>∀ (v:List (List Int)) (z:Bool),v.length=k→v++(Zd r (b.1.drop k)).1=(Zd a.1 b.1).1→(z||(Zd r (b.1.drop k)).2)=(a.2.2||b.2.2||(Zd a.1 b.1).2)→QjY (fun r'=>r'=QcQ (ZA a b)) a b k v z) ?_ ?_ [] _ rfl (by simp) (by simp)
 ·intro v z hv he hz
  refine Qnc (fun r'=>r'=QcQ (ZA a b)) a b _ _ _ ⟨fun h=>by simp at h,fun _=>R_eq ?_⟩
  unfold ZA;rw [← he,← hz];simp [Zd]
 ·intro k x r hk hlt hg ih v z hv he hz
  by_cases hkb:k<b.1.length
  ·obtain ⟨y,q,hq⟩:=Jg (l:=b.1) (k:=k) hkb
   have hx:=QhN hk
   have hy:=QhN hq
   refine Qnc (fun r'=>r'=QcQ (ZA a b)) a b _ _ _ ⟨fun _=>?_,fun h=>by simp at h;omega⟩
   rw [Int.toNat_natCast,hg,Yp hq,sc1 (by omega),Zf]
   refine ⟨⟨⟨by omega,hlt⟩,⟨by omega,hkb⟩,by unfold Yf;omega⟩,room (by omega),ih _ _ (YF hv) ?_ ?_⟩
   ·rw [← he,hq,Zd,Z6 hq];simp [J1]
   ·rw [← hz,hq,Zd,Z6 hq];simp [J1,Bool.or_assoc]
  ·refine Qnc (fun r'=>r'=QcQ (ZA a b)) a b _ _ _ ⟨fun h=>by simp at h;omega,fun _=>R_eq ?_⟩
   unfold ZA;rw [← he,← hz,QgX (l:=b.1) (by omega)];simp [Zd]
theorem QO1:Qe Tryz.prog Qqs:=Qh fun x h=>QEj x.1 x.2.1 h
end
end Go.Proofs.YtjbdljkhbglnhaaGreat.Am

