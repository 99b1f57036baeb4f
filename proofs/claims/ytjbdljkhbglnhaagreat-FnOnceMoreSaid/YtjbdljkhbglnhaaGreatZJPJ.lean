/- -/
import Derived.Test.YtjbdljkhbglnhaaGreatZJPF
import Derived.Test.YtjbdljkhbglnhaaGreatZJP4
namespace Go.Proofs.YtjbdljkhbglnhaaGreat.Am
open Go Go.RowKit Go.Proofs.YtjbdljkhbglnhaaGreat
set_option linter.all false
noncomputable section
variable (K:TRes→Prop)
def Qas (t:(List TOp')):TRes:=zra (zcs ctOp t)
def Qir:TRow:=Qg 151 [(.c (.sl ctOp))] fun x=>(some (QO (α:=List TOp') x.1),Qas (id (α:=List TOp') x.1))
def Qgu:List TRow:=[J2]
def Qpr:TCode :=
 (zsq [(.reg [zbi 10 .lss 9 8]),(.cond 10 .skip (.exit 0)),(.block 1 (zsq [(.reg [zia 11 7 9 ctOp,zLd 12 11 4,zop 5 (.new 69 (z0s ctOp)),zst 5 12 4]),(.draw [zmv 13 3,zfa 14 5 0,zld 15 14 1,zfa 16 5 1,zld 17 16 1,zfa 18 5 2,zld 19 18 1,zfa 20 5 3,zld 21 20 1,zca 22 119 [21],zop 23 (.build (z0s ctOp) [(0,1,15),(1,1,17),(2,1,19),(3,1,22)]),zop 24 (.bsl 69 ctOp [23]),zop 25 (.app 13 24 69 ctOp),zmv 3 25] [(1,9),(2,9),(3,9),(4,9),(5,9),(6,9)])])),(.reg [zbi 26 .add 9 (zki 1),zmv 9 26])])
def QuW:List (Nat × Md):=[(3,.one .f),(7,.one .d),(8,.one .d),(9,.one .d)]
def Qt2:TCode :=
 (zsq [(.reg [zmv 27 3,zmv 2 27]),.ret])
def QCB:TCode :=
 (zsq [(.reg [zmv 2 (.k (.n ctOp))]),(.reg [zop 6 (.bsl 69 ctOp []),zmv 3 6]),(zsq [(.reg [zmv 7 0,zle 8 7,zmv 9 (zki 0)]),(.block 0 (.loop QuW Qpr))]),Qt2])
def Qp0:List (ARv × Md):=[(.t 2,.one .d)]
def QnG:Qc:=TQ 0 0 Qp0 K
def QCI:Qc:=Qseq (tawp Qgu 0 Qt2 (QnG K)) (QnG K)
def Qxl:Qc:=Qblk 0 (QCI K)
def QiJ (l:List TOp') (x:Int) (ops:List TOp'):Prop:=Loop Qgu 0 QuW Qpr (Qxl K) ⟨[(3,(.r ctOp 0 0 ops.length)),(7,(zcs ctOp l)),(8,(zci (l.length:Int))),(9,(zci x))],[(0,(.sl 69 ctOp true ops))],1⟩
theorem QoG (l:List TOp') (x:Int) (ops:List TOp') (h :
 (zif (decide (x<(l.length:Int))) (((0:Int)≤x∧Int.toNat x<l.length)∧(((QO (α:=List Int) ((gtd dOp l (Int.toNat x)).2.2.2))∧((ops.length=ops.length∨ops.length+1≤ops.length)∧ops.length+1≤big))∧(QiJ K l (w64 (x+(1:Int))) (List.take (ops.length+1) ((List.take ops.length ops)++([((gtd dOp l (Int.toNat x)).1,(gtd dOp l (Int.toNat x)).2.1,(gtd dOp l (Int.toNat x)).2.2.1,(List.take ((id (α:=List Int) ((gtd dOp l (Int.toNat x)).2.2.2)).length) (List.drop 0 (id (α:=List Int) ((gtd dOp l (Int.toNat x)).2.2.2)))))])))))) (K (Qas (List.take ops.length (List.drop 0 ops)))))):QiJ K l x ops :=
 Loop.of (by kernel_rfl) h
theorem QzE (l:List TOp') (h :
 (QiJ K l 0 ([]:List TOp'))):Hold (tawp Qgu (0+0) QCB (TQ 0 0 Qp0 K) (Qe [(.c (.sl ctOp) l)])) :=
 Hold.of (by kernel_rfl) h
theorem Qv6 (l:List TOp') (hp:QO (α:=List TOp') l):TCon Tryz.prog 151 [(.c (.sl ctOp) l)] (Qas (id (α:=List TOp') l)):=by
 refine Ql rfl fun hb=>tcg (n:=28) (sg:=Qir.sg) Qi (TOk.cons QbC TOk.nil) (by kernel_rfl) (by kernel_rfl) (QzE _ l ?_)
 have hl_l:l.length≤9223372036854775807:=hb.1.1
 refine Qbr (Q:=fun z=>Qas z=Qas (id (α:=List TOp') l)) hp (fun k x v hk hl hg hv hx ih=>?_) (fun hq=>?_) (R_eq rfl)
 ·refine QoG (fun r'=>r'=Qas (id (α:=List TOp') l)) l _ _ ⟨fun _=>?_,fun h=>by simp at h;omega⟩
  try simp only [Yz,Ym,YY] at hx
  rw [Int.toNat_natCast,hg,sc1 (by omega),Q9,Qgx]
  exact ⟨⟨by omega,hk⟩,⟨(show Sz.sz (_:List Int)≤2147483648 by omega),room (by omega)⟩,ih⟩
 ·refine QoG (fun r'=>r'=Qas (id (α:=List TOp') l)) l _ _ ⟨fun h=>by simp at h,fun _=>?_⟩
  exact R_eq (by simp)
theorem QI6:Qh Tryz.prog Qir:=Qk fun x h=>Qv6 x.1 h
def Qaw (t:(List (List Int))):TRes:=zra (zcs [(.sl [TI])] t)
def Qcx:TRow:=Qg 86 [(.c (.sl [(.sl [TI])]))] fun x=>(some (QO (α:=List (List Int)) x.1),Qaw (id (α:=List (List Int)) x.1))
def Qk6:List TRow:=[J2]
def QqR:TCode :=
 (zsq [(.reg [zbi 10 .lss 9 8]),(.cond 10 .skip (.exit 0)),(.block 1 (zsq [(.reg [zia 11 7 9 [(.sl [TI])],zLd 12 11 1,zop 5 (.new 129 [(.n [TI])]),zst 5 12 1]),(.reg [zmv 13 3,zfa 14 5 0,zld 15 14 1,zca 16 119 [15],zop 17 (.build [(.n [TI])] [(0,1,16)]),zop 18 (.bsl 129 [(.sl [TI])] [17]),zop 19 (.app 13 18 129 [(.sl [TI])]),zmv 3 19])])),(.reg [zbi 20 .add 9 (zki 1),zmv 9 20])])
def QnW:List (Nat × Md):=[(3,.one .f),(7,.one .d),(8,.one .d),(9,.one .d)]
def QoF:TCode :=
 (zsq [(.reg [zmv 21 3,zmv 2 21]),.ret])
def Qy1:TCode :=
 (zsq [(.reg [zmv 2 (.k (.n [(.sl [TI])]))]),(.reg [zop 6 (.bsl 129 [(.sl [TI])] []),zmv 3 6]),(zsq [(.reg [zmv 7 0,zle 8 7,zmv 9 (zki 0)]),(.block 0 (.loop QnW QqR))]),QoF])
def QqA:List (ARv × Md):=[(.t 2,.one .d)]
def Qmz:Qc:=TQ 0 0 QqA K
def Qy0:Qc:=Qseq (tawp Qk6 0 QoF (Qmz K)) (Qmz K)
def QA5:Qc:=Qblk 0 (Qy0 K)
def Qhc (l:List (List Int)) (x:Int) (rows:List (List Int)):Prop:=Loop Qk6 0 QnW QqR (QA5 K) ⟨[(3,(.r [(.sl [TI])] 0 0 rows.length)),(7,(zcs [(.sl [TI])] l)),(8,(zci (l.length:Int))),(9,(zci x))],[(0,(.sl 129 [(.sl [TI])] true rows))],1⟩
theorem QmF (l:List (List Int)) (x:Int) (rows:List (List Int)) (h :
 (zif (decide (x<(l.length:Int))) (((0:Int)≤x∧Int.toNat x<l.length)∧(((QO (α:=List Int) (gtd ([]:List Int) l (Int.toNat x)))∧((rows.length=rows.length∨rows.length+1≤rows.length)∧rows.length+1≤big))∧(Qhc K l (w64 (x+(1:Int))) (List.take (rows.length+1) ((List.take rows.length rows)++([(List.take ((id (α:=List Int) (gtd ([]:List Int) l (Int.toNat x))).length) (List.drop 0 (id (α:=List Int) (gtd ([]:List Int) l (Int.toNat x)))))])))))) (K (Qaw (List.take rows.length (List.drop 0 rows)))))):Qhc K l x rows :=
 Loop.of (by kernel_rfl) h
theorem Qx2 (l:List (List Int)) (h :
 (Qhc K l 0 ([]:List (List Int)))):Hold (tawp Qk6 (0+0) Qy1 (TQ 0 0 QqA K) (Qe [(.c (.sl [(.sl [TI])]) l)])) :=
 Hold.of (by kernel_rfl) h
theorem QIz (l:List (List Int)) (hp:QO (α:=List (List Int)) l):TCon Tryz.prog 86 [(.c (.sl [(.sl [TI])]) l)] (Qaw (id (α:=List (List Int)) l)):=by
 refine Ql rfl fun hb=>tcg (n:=22) (sg:=Qcx.sg) Qi (TOk.cons QbC TOk.nil) (by kernel_rfl) (by kernel_rfl) (Qx2 _ l ?_)
 have hl_l:l.length≤9223372036854775807:=hb.1.1
 refine Qbr (Q:=fun z=>Qaw z=Qaw (id (α:=List (List Int)) l)) hp (fun k x v hk hl hg hv hx ih=>?_) (fun hq=>?_) (R_eq rfl)
 ·refine QmF (fun r'=>r'=Qaw (id (α:=List (List Int)) l)) l _ _ ⟨fun _=>?_,fun h=>by simp at h;omega⟩
  try simp only [Yz,Ym,YY] at hx
  rw [Int.toNat_natCast,hg,sc1 (by omega),Q9,Qgx]
  exact ⟨⟨by omega,hk⟩,⟨(show Sz.sz (_:List Int)≤2147483648 by omega),room (by omega)⟩,ih⟩
 ·refine QmF (fun r'=>r'=Qaw (id (α:=List (List Int)) l)) l _ _ ⟨fun h=>by simp at h,fun _=>?_⟩
  exact R_eq (by simp)
theorem Qi7:Qh Tryz.prog Qcx:=Qk fun x h=>QIz x.1 h
def QjQ (t:QK):TRes:=zra (.a (Tup.cells QW t))
def Qlk:TRow:=Qg 184 [(.a QW)] fun x=>(some (QO (α:=QK) x.1),QjQ (id (α:=QK) x.1))
def QJb:List TRow:=[Qcx]
def QH2:TCode :=
 (zsq [(.reg [zop 1 (.box 46 0 3),zop 2 (.new 46 (z0s QW))]),(.draw [zfa 3 1 0,zld 4 3 1,zca 5 86 [4],zfa 6 1 1,zld 7 6 1,zfa 8 1 2,zld 9 8 1,zop 10 (.build (z0s QW) [(0,1,5),(1,1,7),(2,1,9)]),zst 2 10 3] [(2,3),(2,4),(2,5),(2,6)]),.ret])
def QzK:List (ARv × Md):=[(.l 2 3 true,.b [.d,.d,.d])]
theorem QDz (g:QK) (h :
 ((QO (α:=List (List Int)) g.1)∧K (QjQ ((id (α:=List (List Int)) g.1),g.2.1,g.2.2)))):Hold (tawp QJb (0+0) QH2 (TQ 0 0 QzK K) (Qe [(.a (Tup.cells QW g))])) :=
 Hold.of (by kernel_rfl) h
theorem QG0 (g:QK) (hp:QO (α:=QK) g):TCon Tryz.prog 184 [(.a (Tup.cells QW g))] (QjQ (id (α:=QK) g)):=by
 refine Ql rfl fun hb=>tcg (n:=11) (sg:=Qlk.sg) Qi (TOk.cons Qi7 TOk.nil) (by kernel_rfl) (by kernel_rfl) (QDz _ g ?_)
 have hl_g_0:(g.1).length≤9223372036854775807:=hb.1.1.1
 unfold QO at hp
 simp only [Yz,Ym,YY] at hp
 exact ⟨hp,R_eq rfl⟩
theorem QE0:Qh Tryz.prog Qlk:=Qk fun x h=>QG0 x.1 h
def Qa5 (t:(List TOp')):TRes:=zra (zcs ctOp t)
def Qd4:TRow:=Qg 176 [(.c (.sl ctOp))] fun x=>(some (QO (α:=List TOp') x.1),Qa5 (id (α:=List TOp') x.1))
def QjW:List TRow:=[]
def Qmo:TCode :=
 (zsq [(zsq [(.reg [zmv 7 4,zmv 8 0,zle 9 8,zbi 10 .lss 7 9]),(.cond 10 .skip (.exit 0))]),(.block 1 (zsq [(.reg [zmv 13 0,zmv 14 4,zia 15 13 14 ctOp,zLd 16 15 4,zop 5 (.new 69 (z0s ctOp)),zst 5 16 4]),(.reg [zop 17 (.bsl 3 [TI] []),zmv 18 0,zmv 19 4,zia 20 18 19 ctOp,zfa 21 20 3,zld 22 21 1,zop 23 (.app 17 22 3 [TI]),zfa 24 5 3,zst 24 23 1]),(.reg [zmv 25 3,zLd 26 5 4,zop 27 (.bsl 69 ctOp [26]),zop 28 (.app 25 27 69 ctOp),zmv 3 28])])),(.reg [zmv 11 4,zbi 12 .add 11 (zki 1),zmv 4 12])])
def QsW:List (Nat × Md):=[(0,.one .d),(3,.one .f),(4,.one .d)]
def QlN:TCode :=
 (zsq [(.reg [zmv 29 3,zmv 2 29]),.ret])
def Qzi:TCode :=
 (zsq [(.reg [zmv 2 (.k (.n ctOp))]),(.reg [zop 6 (.bsl 69 ctOp []),zmv 3 6]),(zsq [(.reg [zmv 4 (zki 0)]),(.block 0 (.loop QsW Qmo))]),QlN])
def QoI:List (ARv × Md):=[(.t 2,.one .d)]
def Qpg:Qc:=TQ 0 0 QoI K
def QHh:Qc:=Qseq (tawp QjW 0 QlN (Qpg K)) (Qpg K)
def QI8:Qc:=Qblk 0 (QHh K)
def Qjw (l:List TOp') (i:Int) (out:List TOp'):Prop:=Loop QjW 0 QsW Qmo (QI8 K) ⟨[(0,(zcs ctOp l)),(3,(.r ctOp 0 0 out.length)),(4,(zci i))],[(0,(.sl 69 ctOp true out))],1⟩
theorem Qof (l:List TOp') (i:Int) (out:List TOp') (h :
 (zif (decide (i<(l.length:Int))) (((0:Int)≤i∧Int.toNat i<l.length)∧((((0:Int)≤i∧Int.toNat i<l.length)∧((0=0∨0+((gtd dOp l (Int.toNat i)).2.2.2).length≤0)∧0+((gtd dOp l (Int.toNat i)).2.2.2).length≤big))∧(((out.length=out.length∨out.length+1≤out.length)∧out.length+1≤big)∧(Qjw K l (w64 (i+(1:Int))) (List.take (out.length+1) ((List.take out.length out)++([((gtd dOp l (Int.toNat i)).1,(gtd dOp l (Int.toNat i)).2.1,(gtd dOp l (Int.toNat i)).2.2.1,(List.take (0+((gtd dOp l (Int.toNat i)).2.2.2).length) (List.drop 0 ((gtd dOp l (Int.toNat i)).2.2.2))))]))))))) (K (Qa5 (List.take out.length (List.drop 0 out)))))):Qjw K l i out :=
 Loop.of (by kernel_rfl) h
theorem QDv (l:List TOp') (h :
 (Qjw K l 0 ([]:List TOp'))):Hold (tawp QjW (0+0) Qzi (TQ 0 0 QoI K) (Qe [(.c (.sl ctOp) l)])) :=
 Hold.of (by kernel_rfl) h
theorem QEY (l:List TOp') (hp:QO (α:=List TOp') l):TCon Tryz.prog 176 [(.c (.sl ctOp) l)] (Qa5 (id (α:=List TOp') l)):=by
 refine Ql rfl fun hb=>tcg (n:=30) (sg:=Qd4.sg) Qi TOk.nil (by kernel_rfl) (by kernel_rfl) (QDv _ l ?_)
 have hl_l:l.length≤9223372036854775807:=hb.1.1
 refine Qbr (Q:=fun z=>Qa5 z=Qa5 (id (α:=List TOp') l)) hp (fun k x v hk hl hg hv hx ih=>?_) (fun hq=>?_) (R_eq rfl)
 ·refine Qof (fun r'=>r'=Qa5 (id (α:=List TOp') l)) l _ _ ⟨fun _=>?_,fun h=>by simp at h;omega⟩
  try simp only [Yz,Ym,YY] at hx
  rw [Int.toNat_natCast,hg,sc1 (by omega),Q9,Qg9]
  exact ⟨⟨by omega,hk⟩,⟨⟨by omega,hk⟩,.inl rfl,by have:=ZF x.2.2.2;rw [ZC];omega⟩,room (by omega),ih⟩
 ·refine Qof (fun r'=>r'=Qa5 (id (α:=List TOp') l)) l _ _ ⟨fun h=>by simp at h,fun _=>?_⟩
  exact R_eq (by simp)
theorem Qs1:Qh Tryz.prog Qd4:=Qk fun x h=>QEY x.1 h
def Qbc (t:(List (List Int))):TRes:=zra (zcs [(.sl [TI])] t)
def Qhf:TRow:=Qg 210 [(.c (.sl [(.sl [TI])]))] fun x=>(some (QO (α:=List (List Int)) x.1),Qbc (id (α:=List (List Int)) x.1))
def Qkb:List TRow:=[]
def QrW:TCode :=
 (zsq [(zsq [(.reg [zmv 6 4,zmv 7 0,zle 8 7,zbi 9 .lss 6 8]),(.cond 9 .skip (.exit 0))]),(.block 1 (.reg [zmv 12 3,zop 13 (.bsl 3 [TI] []),zmv 14 0,zmv 15 4,zia 16 14 15 [(.sl [TI])],zfa 17 16 0,zld 18 17 1,zop 19 (.app 13 18 3 [TI]),zop 20 (.build [(.n [TI])] [(0,1,19)]),zop 21 (.bsl 129 [(.sl [TI])] [20]),zop 22 (.app 12 21 129 [(.sl [TI])]),zmv 3 22])),(.reg [zmv 10 4,zbi 11 .add 10 (zki 1),zmv 4 11])])
def QsU:List (Nat × Md):=[(0,.one .d),(3,.one .f),(4,.one .d)]
def Qmr:TCode :=
 (zsq [(.reg [zmv 23 3,zmv 2 23]),.ret])
def QAp:TCode :=
 (zsq [(.reg [zmv 2 (.k (.n [(.sl [TI])]))]),(.reg [zop 5 (.bsl 129 [(.sl [TI])] []),zmv 3 5]),(zsq [(.reg [zmv 4 (zki 0)]),(.block 0 (.loop QsU QrW))]),Qmr])
def Qrm:List (ARv × Md):=[(.t 2,.one .d)]
def QtU:Qc:=TQ 0 0 Qrm K
def QFv:Qc:=Qseq (tawp Qkb 0 Qmr (QtU K)) (QtU K)
def QEA:Qc:=Qblk 0 (QFv K)
def QkN (l:List (List Int)) (i:Int) (out:List (List Int)):Prop:=Loop Qkb 0 QsU QrW (QEA K) ⟨[(0,(zcs [(.sl [TI])] l)),(3,(.r [(.sl [TI])] 0 0 out.length)),(4,(zci i))],[(0,(.sl 129 [(.sl [TI])] true out))],1⟩
theorem Qun (l:List (List Int)) (i:Int) (out:List (List Int)) (h :
 (zif (decide (i<(l.length:Int))) ((((0:Int)≤i∧Int.toNat i<l.length)∧(((0=0∨0+(gtd ([]:List Int) l (Int.toNat i)).length≤0)∧0+(gtd ([]:List Int) l (Int.toNat i)).length≤big)∧((out.length=out.length∨out.length+1≤out.length)∧out.length+1≤big)))∧(QkN K l (w64 (i+(1:Int))) (List.take (out.length+1) ((List.take out.length out)++([(List.take (0+(gtd ([]:List Int) l (Int.toNat i)).length) (List.drop 0 (gtd ([]:List Int) l (Int.toNat i))))]))))) (K (Qbc (List.take out.length (List.drop 0 out)))))):QkN K l i out :=
 Loop.of (by kernel_rfl) h
theorem Qw2 (l:List (List Int)) (h :
 (QkN K l 0 ([]:List (List Int)))):Hold (tawp Qkb (0+0) QAp (TQ 0 0 Qrm K) (Qe [(.c (.sl [(.sl [TI])]) l)])) :=
 Hold.of (by kernel_rfl) h
theorem Qwh (l:List (List Int)) (hp:QO (α:=List (List Int)) l):TCon Tryz.prog 210 [(.c (.sl [(.sl [TI])]) l)] (Qbc (id (α:=List (List Int)) l)):=by
 refine Ql rfl fun hb=>tcg (n:=24) (sg:=Qhf.sg) Qi TOk.nil (by kernel_rfl) (by kernel_rfl) (Qw2 _ l ?_)
 have hl_l:l.length≤9223372036854775807:=hb.1.1
 refine Qbr (Q:=fun z=>Qbc z=Qbc (id (α:=List (List Int)) l)) hp (fun k x v hk hl hg hv hx ih=>?_) (fun hq=>?_) (R_eq rfl)
 ·refine Qun (fun r'=>r'=Qbc (id (α:=List (List Int)) l)) l _ _ ⟨fun _=>?_,fun h=>by simp at h;omega⟩
  try simp only [Yz,Ym,YY] at hx
  rw [Int.toNat_natCast,hg,sc1 (by omega),Q9,Qg9]
  exact ⟨⟨⟨by omega,hk⟩,⟨.inl rfl,by have:=ZF x;rw [ZC];omega⟩,room (by omega)⟩,ih⟩
 ·refine Qun (fun r'=>r'=Qbc (id (α:=List (List Int)) l)) l _ _ ⟨fun h=>by simp at h,fun _=>?_⟩
  exact R_eq (by simp)
theorem QGI:Qh Tryz.prog Qhf:=Qk fun x h=>Qwh x.1 h
def QaE (t:QK):TRes:=zra (.a (Tup.cells QW t))
def Qke:TRow:=Qg 83 [(.a [(.sl ctOp)])] fun x=>(none,QaE (Z0 x.1))
def QjJ:List TRow:=[Qau]
def Qn7:TCode :=
 (zsq [(zsq [(.reg [zmv 6 4,zfa 7 1 0,zld 8 7 1,zle 9 8,zbi 10 .lss 6 9,zmv 11 10,.grp 11 true [zLd 12 1 1,zca 13 74 [12]] 14 13]),(.cond 14 .skip (.exit 0))]),(.block 1 (.draw [zfa 17 3 0,zld 18 17 1,zfa 19 1 0,zld 20 19 1,zmv 21 4,zia 22 20 21 ctOp,zfa 23 22 3,zld 24 23 1,zle 25 24,zop 26 (.mk 3 [TI] [(zci 0)] 25),zop 27 (.build [(.n [TI])] [(0,1,26)]),zop 28 (.bsl 129 [(.sl [TI])] [27]),zop 29 (.app 18 28 129 [(.sl [TI])]),zfa 30 3 0,zst 30 29 1] [(0,9),(1,9),(0,11),(1,11)])),(.reg [zmv 15 4,zbi 16 .add 15 (zki 1),zmv 4 16])])
def Qn4:List (Nat × Md):=[(1,.b [.d]),(2,.b [.d,.d,.d]),(3,.b [.o 129,.d,.d]),(4,.one .d)]
def Ql2:TCode :=
 (zsq [(.reg [zLd 31 3 3,zst 2 31 3]),.ret])
def QFf:TCode :=
 (zsq [(.reg [zop 1 (.box 26 0 1),zop 2 (.new 46 (z0s QW))]),(.reg [zop 5 (.build (z0s QW) []),zop 3 (.new 46 (z0s QW)),zst 3 5 3]),(zsq [(.reg [zmv 4 (zki 0)]),(.block 0 (.loop Qn4 Qn7))]),Ql2])
def Quq:List (ARv × Md):=[(.l 2 3 true,.b [.d,.d,.d])]
def Qoy:Qc:=TQ 0 0 Quq K
def QC1:Qc:=Qseq (tawp QjJ 0 Ql2 (Qoy K)) (Qoy K)
def QCE:Qc:=Qblk 0 (QC1 K)
def QfG (m:List TOp') (i:Int) (g0:List (List Int)):Prop:=Loop QjJ 0 Qn4 Qn7 (QCE K) ⟨[(1,(.p 0 0 0)),(2,(.p 1 0 0)),(3,(.p 3 0 0)),(4,(zci i))],[(0,(.box [(zcs ctOp m)])),(1,(.box (Tup.cells QW ([],(0:Int),false)))),(2,(.sl 129 [(.sl [TI])] true g0)),(3,(.box [(.r [(.sl [TI])] 2 0 g0.length),(zci 0),(zcb false)]))],4⟩
theorem QkX (m:List TOp') (i:Int) (g0:List (List Int)) (h :
 (zif ((decide (i<(m.length:Int)))&&(QC m)) ((((0:Int)≤i∧Int.toNat i<m.length)∧(((0:Int)≤(((gtd dOp m (Int.toNat i)).2.2.2).length:Int)∧(((gtd dOp m (Int.toNat i)).2.2.2).length:Int)≤big)∧((g0.length=g0.length∨g0.length+1≤g0.length)∧g0.length+1≤big)))∧(QfG K m (w64 (i+(1:Int))) (List.take (g0.length+1) ((List.take g0.length g0)++([(List.take (Int.toNat (((gtd dOp m (Int.toNat i)).2.2.2).length:Int)) (List.drop 0 (List.replicate (Int.toNat (((gtd dOp m (Int.toNat i)).2.2.2).length:Int)) (0:Int))))]))))) (K (QaE ((List.take g0.length (List.drop 0 g0)),(0:Int),false))))):QfG K m i g0 :=
 Loop.of (by kernel_rfl) h
theorem QAu (m:List TOp') (h :
 (QfG K m 0 ([]:List (List Int)))):Hold (tawp QjJ (0+0) QFf (TQ 0 0 Quq K) (Qe [(.a [(.c (.sl ctOp) m)])])) :=
 Hold.of (by kernel_rfl) h
theorem QHW (m:List TOp'):TCon Tryz.prog 83 [(.a [(.c (.sl ctOp) m)])] (QaE (Z0 m)):=by
 refine Ql rfl fun hb=>tcg (n:=32) (sg:=Qke.sg) Qi (TOk.cons Qcu TOk.nil) (by kernel_rfl) (by kernel_rfl) (QAu _ m ?_)
 have hl_m_0:(m).length≤9223372036854775807:=hb.1.1.1
 by_cases hm:QC m=true
 rotate_left
 ·refine QkX (fun r'=>r'=QaE (Z0 m)) m _ _ ⟨fun h=>by simp [hm] at h,fun _=>R_eq (by unfold Z0;rw [if_neg hm];rfl)⟩
 have hl:=Zw hm
 have hv:(Z0 m)=(m.map fun o=>List.replicate o.2.2.2.length (0:Int),0,false):=by unfold Z0;rw [if_pos hm]
 refine Zc m (fun r k=>∀ v:List (List Int),v.length=k→v++r.map (fun o=>List.replicate o.2.2.2.length (0:Int))=m.map (fun o=>List.replicate o.2.2.2.length (0:Int))→QfG (fun r'=>r'=QaE (Z0 m)) m k v) ?_ ?_ [] rfl rfl
 ·intro v hk he
  refine QkX (fun r'=>r'=QaE (Z0 m)) m _ _ ⟨fun h=>by simp at h,fun _=>R_eq ?_⟩
  rw [hv,← he];simp
 ·intro k x r hk hlt hg ih v hvl he
  have ho:=QgZ (Qeu hm hlt)
  rw [hg] at ho
  refine QkX (fun r'=>r'=QaE (Z0 m)) m _ _ ⟨fun _=>?_,fun h=>by simp [hm] at h;omega⟩
  rw [Int.toNat_natCast,hg,sc1 (by omega),Int.toNat_natCast,Q9,Qxr]
  refine ⟨⟨⟨by omega,hlt⟩,⟨by omega,by rw [bigI];omega⟩,room (by omega)⟩,ih _ (ZZ hvl) ?_⟩
  rw [← he];simp
theorem QJV:Qh Tryz.prog Qke:=Qk fun x _=>QHW x.1
def Qbf (t:(List Int) × Bool):TRes:=zra (.tp [(zcs [TI] t.1),(zcb t.2)])
def QjC:TRow:=Qg 161 [(.c (.sl [TI])),(.c (.sl [TI]))] fun x=>(some (Yq (α:=List Int) (β:=List Int) x.1 x.2.1),Qbf (YN x.1 x.2.1))
def Qio:List TRow:=[QaB]
def QpB:TCode :=
 (zsq [(zsq [(.reg [zmv 12 8,zmv 13 0,zle 14 13,zbi 15 .lss 12 14,zmv 16 15,.grp 16 true [zmv 17 8,zmv 18 1,zle 19 18,zbi 20 .lss 17 19] 21 20]),(.cond 21 .skip (.exit 0))]),(.block 1 (zsq [(.draw [zmv 25 0,zmv 26 8,zia 27 25 26 [TI],zld 28 27 1,zmv 29 1,zmv 30 8,zia 31 29 30 [TI],zld 32 31 1,zca 33 162 [28,32],zmv 24 33,zex 34 24 0,zex 35 24 1,zmv 9 34,zmv 10 35] []),(.reg [zmv 36 6,zmv 37 9,zop 38 (.bsl 3 [TI] [37]),zop 39 (.app 36 38 3 [TI]),zmv 6 39]),(.reg [zmv 40 7,zmv 41 40,.grp 41 false [zmv 42 10] 43 42,zmv 7 43])])),(.reg [zmv 22 8,zbi 23 .add 22 (zki 1),zmv 8 23])])
def Qsg:List (Nat × Md):=[(0,.one .d),(1,.one .d),(6,.one .f),(7,.one .d),(8,.one .d)]
def Qsz:TCode :=
 (zsq [(.reg [zmv 44 6,zmv 45 7,zmv 4 44,zmv 5 45]),.ret])
def QAr:TCode :=
 (zsq [(.reg [zmv 4 (.k (.n [TI])),zmv 5 (zkb false)]),(.reg [zop 11 (.bsl 3 [TI] []),zmv 6 11]),(.reg [zmv 7 (zkb false)]),(zsq [(.reg [zmv 8 (zki 0)]),(.block 0 (.loop Qsg QpB))]),Qsz])
def Qlv:List (ARv × Md):=[(.t 4,.one .d),(.t 5,.one .d)]
def Qlo:Qc:=TQ 0 0 Qlv K
def QyC:Qc:=Qseq (tawp Qio 0 Qsz (Qlo K)) (Qlo K)
def QBB:Qc:=Qblk 0 (QyC K)
def QfF (a:List Int) (b:List Int) (sat:Bool) (i:Int) (out:List Int):Prop:=Loop Qio 0 Qsg QpB (QBB K) ⟨[(0,(zcs [TI] a)),(1,(zcs [TI] b)),(6,(.r [TI] 0 0 out.length)),(7,(zcb sat)),(8,(zci i))],[(0,(.sl 3 [TI] true out))],1⟩
theorem Qij (a:List Int) (b:List Int) (sat:Bool) (i:Int) (out:List Int) (h :
 (zif ((decide (i<(a.length:Int)))&&(decide (i<(b.length:Int)))) ((((0:Int)≤i∧Int.toNat i<a.length)∧((0:Int)≤i∧Int.toNat i<b.length))∧(((out.length=out.length∨out.length+1≤out.length)∧out.length+1≤big)∧(QfF K a b (sat||((QT (gtd (0:Int) a (Int.toNat i)) (gtd (0:Int) b (Int.toNat i))).2)) (w64 (i+(1:Int))) (List.take (out.length+1) ((List.take out.length out)++([(QT (gtd (0:Int) a (Int.toNat i)) (gtd (0:Int) b (Int.toNat i))).1])))))) (K (Qbf ((List.take out.length (List.drop 0 out)),sat))))):QfF K a b sat i out :=
 Loop.of (by kernel_rfl) h
theorem QHB (a:List Int) (b:List Int) (h :
 (QfF K a b false 0 ([]:List Int))):Hold (tawp Qio (0+0) QAr (TQ 0 0 Qlv K) (Qe [(.c (.sl [TI]) a),(.c (.sl [TI]) b)])) :=
 Hold.of (by kernel_rfl) h
theorem QDq (a:List Int) (b:List Int) (hp:Yq (α:=List Int) (β:=List Int) a b):TCon Tryz.prog 161 [(.c (.sl [TI]) a),(.c (.sl [TI]) b)] (Qbf (YN a b)):=by
 refine Ql rfl fun hb=>tcg (n:=46) (sg:=QjC.sg) Qi (TOk.cons Qdn TOk.nil) (by kernel_rfl) (by kernel_rfl) (QHB _ a b ?_)
 have hl_a:a.length≤9223372036854775807:=hb.1.1
 have hl_b:b.length≤9223372036854775807:=hb.2.1.1
 unfold Yq at hp
 have ha:=ZF a
 have hb2:=ZF b
 refine Zc a (fun r k=>∀ (v:List Int) (s:Bool),v.length=k→(v++(vz QT r (b.drop k)).1,s||(vz QT r (b.drop k)).2)=(YN a b)→QfF (fun r'=>r'=Qbf (YN a b)) a b s k v) ?_ ?_ [] false rfl (by unfold YN;simp)
 ·intro v s hv he
  refine Qij (fun r'=>r'=Qbf (YN a b)) a b _ _ _ ⟨fun h=>by simp at h,fun _=>R_eq ?_⟩
  rw [← he];simp [vz]
 ·intro k x r hk hlt hg ih v s hv he
  by_cases hkb:k<b.length
  ·obtain ⟨y,q,hq⟩:=Yj (l:=b) (k:=k) hkb
   refine Qij (fun r'=>r'=Qbf (YN a b)) a b _ _ _ ⟨fun _=>?_,fun h=>by simp at h;omega⟩
   rw [Int.toNat_natCast,hg,ZN hq,sc1 (by omega),Q9]
   refine ⟨⟨⟨by omega,hlt⟩,by omega,hkb⟩,room (by omega),ih _ _ (ZZ hv) ?_⟩
   rw [← he,hq,vz,Zx hq]
   simp [Bool.or_assoc]
  ·refine Qij (fun r'=>r'=Qbf (YN a b)) a b _ _ _ ⟨fun h=>by simp at h;omega,fun _=>R_eq ?_⟩
   rw [← he,Qdu (l:=b) (by omega)];simp [vz]
theorem QGX:Qh Tryz.prog QjC:=Qk fun x h=>QDq x.1 x.2.1 h
def Jp (t:QK):TRes:=zra (.a (Tup.cells QW t))
def Qk8:TRow:=Qg 89 [(.a QW),(.a QW)] fun x=>(some (Yq (α:=QK) (β:=QK) x.1 x.2.1),Jp (Zo x.1 x.2.1))
def QaW:List TRow:=[Qb0]
def QqU:TCode :=
 (zsq [(zsq [(.reg [zmv 35 8,zfa 36 2 0,zld 37 36 1,zmv 38 6,zia 39 37 38 [(.sl [TI])],zfa 40 39 0,zld 41 40 1,zle 42 41,zbi 43 .lss 35 42,zmv 44 43,.grp 44 true [zmv 45 8,zfa 46 3 0,zld 47 46 1,zmv 48 6,zia 49 47 48 [(.sl [TI])],zfa 50 49 0,zld 51 50 1,zle 52 51,zbi 53 .lss 45 52] 54 53]),(.cond 54 .skip (.exit 2))]),(.block 3 (zsq [(.draw [zfa 58 2 0,zld 59 58 1,zmv 60 6,zia 61 59 60 [(.sl [TI])],zfa 62 61 0,zld 63 62 1,zmv 64 8,zia 65 63 64 [TI],zld 66 65 1,zfa 67 3 0,zld 68 67 1,zmv 69 6,zia 70 68 69 [(.sl [TI])],zfa 71 70 0,zld 72 71 1,zmv 73 8,zia 74 72 73 [TI],zld 75 74 1,zca 76 121 [66,75],zmv 57 76,zex 77 57 0,zex 78 57 1,zmv 9 77,zmv 10 78] []),(.reg [zfa 79 7 0,zld 80 79 1,zmv 81 9,zop 82 (.bsl 3 [TI] [81]),zop 83 (.app 80 82 3 [TI]),zfa 84 7 0,zst 84 83 1]),(.reg [zfa 85 5 2,zld 86 85 1,zmv 87 86,.grp 87 false [zmv 88 10] 89 88,zfa 90 5 2,zst 90 89 1])])),(.reg [zmv 55 8,zbi 56 .add 55 (zki 1),zmv 8 56])])
def Qmb:List (Nat × Md):=[(2,.b [.d,.d,.d]),(3,.b [.d,.d,.d]),(4,.b [.d,.d,.d]),(5,.b [.f,.d,.d]),(6,.one .d),(7,.b [.o 3]),(8,.one .d)]
def Qr6:TCode :=
 (.reg [zfa 91 5 0,zld 92 91 1,zLd 93 7 1,zop 94 (.bsl 129 [(.sl [TI])] [93]),zop 95 (.app 92 94 129 [(.sl [TI])]),zfa 96 5 0,zst 96 95 1])
def Qsl:TCode :=
 (.reg [zmv 32 6,zbi 33 .add 32 (zki 1),zmv 6 33])
def Qif:TCode :=
 (zsq [(zsq [(.reg [zmv 20 6,zfa 21 2 0,zld 22 21 1,zle 23 22,zbi 24 .lss 20 23,zmv 25 24,.grp 25 true [zmv 26 6,zfa 27 3 0,zld 28 27 1,zle 29 28,zbi 30 .lss 26 29] 31 30]),(.cond 31 .skip (.exit 0))]),(.block 1 (zsq [(.reg [zop 34 (.build [(.n [TI])] []),zop 7 (.new 129 [(.n [TI])]),zst 7 34 1]),(zsq [(.reg [zmv 8 (zki 0)]),(.block 2 (.loop Qmb QqU))]),Qr6])),Qsl])
def QeB:List (Nat × Md):=[(2,.b [.d,.d,.d]),(3,.b [.d,.d,.d]),(4,.b [.d,.d,.d]),(5,.b [.o 129,.d,.d]),(6,.one .d)]
def QsX:TCode :=
 (zsq [(.reg [zfa 98 2 1,zld 99 98 1,zfa 100 3 1,zld 101 100 1,zca 102 121 [99,101],zmv 97 102,zex 103 97 0,zex 104 97 1,zmv 11 103,zmv 12 104]),(.reg [zmv 105 11,zfa 106 5 1,zst 106 105 1]),(.reg [zfa 107 5 2,zld 108 107 1,zmv 109 108,.grp 109 false [zmv 110 12] 111 110,zfa 112 5 2,zst 112 111 1]),(.reg [zLd 113 5 3,zst 4 113 3]),.ret])
def QDm:TCode :=
 (zsq [(.reg [zop 2 (.box 46 0 3),zop 3 (.box 46 1 3),zop 4 (.new 46 (z0s QW))]),(.reg [zfa 13 2 2,zld 14 13 1,zmv 15 14,.grp 15 false [zfa 16 3 2,zld 17 16 1] 18 17,zop 19 (.build (z0s QW) [(2,1,18)]),zop 5 (.new 46 (z0s QW)),zst 5 19 3]),(zsq [(.reg [zmv 6 (zki 0)]),(.block 0 (.loop QeB Qif))]),QsX])
def Qqg:List (ARv × Md):=[(.l 4 3 true,.b [.d,.d,.d])]
def Qtt:Qc:=TQ 0 0 Qqg K
def QxE:Qc:=Qseq (tawp QaW 0 QsX (Qtt K)) (Qtt K)
def QhD:Qc:=Qblk 0 (QxE K)
def QlW:Qc:=Qseq (fun s'=>Loop QaW 0 QeB Qif (QhD K) (gc 0 QeB s')) (QhD K)
def QE8:Qc:=Qseq (tawp QaW 0 Qsl (QlW K)) (QlW K)
def QrZ:Qc:=Qblk 1 (QE8 K)
def QFi:Qc:=Qseq (tawp QaW 0 Qr6 (QrZ K)) (QrZ K)
def QIu:Qc:=Qblk 2 (QFi K)
def Qep (a:QK) (b:QK) (k:Int) (g2:Bool) (row0:List Int) (i:Int) (g01:List (List Int)):Prop:=Loop QaW 0 Qmb QqU (QIu K) ⟨[(2,(.p 0 0 0)),(3,(.p 1 0 0)),(4,(.p 2 0 0)),(5,(.p 4 0 0)),(6,(zci i)),(7,(.p 6 0 0)),(8,(zci k))],[(0,(.box (Tup.cells QW a))),(1,(.box (Tup.cells QW b))),(2,(.box (Tup.cells QW ([],(0:Int),false)))),(3,(.sl 129 [(.sl [TI])] true g01)),(4,(.box [(.r [(.sl [TI])] 3 0 g01.length),(zci 0),(zcb g2)])),(5,(.sl 3 [TI] true row0)),(6,(.box [(.r [TI] 5 0 row0.length)]))],7⟩
def QfT (a:QK) (b:QK) (i:Int) (g0:List (List Int)) (g21:Bool):Prop:=Loop QaW 0 QeB Qif (QhD K) ⟨[(2,(.p 0 0 0)),(3,(.p 1 0 0)),(4,(.p 2 0 0)),(5,(.p 4 0 0)),(6,(zci i))],[(0,(.box (Tup.cells QW a))),(1,(.box (Tup.cells QW b))),(2,(.box (Tup.cells QW ([],(0:Int),false)))),(3,(.sl 129 [(.sl [TI])] true g0)),(4,(.box [(.r [(.sl [TI])] 3 0 g0.length),(zci 0),(zcb g21)]))],5⟩
theorem QrF (a:QK) (b:QK) (k:Int) (g2:Bool) (row0:List Int) (i:Int) (g01:List (List Int)) (h :
 ((((0:Int)≤i∧Int.toNat i<(a.1).length)∧((decide (k<((gtd ([]:List Int) a.1 (Int.toNat i)).length:Int)))=true→((0:Int)≤i∧Int.toNat i<(b.1).length)))∧(zif ((decide (k<((gtd ([]:List Int) a.1 (Int.toNat i)).length:Int)))&&(decide (k<((gtd ([]:List Int) b.1 (Int.toNat i)).length:Int)))) ((((0:Int)≤i∧Int.toNat i<(a.1).length)∧(((0:Int)≤k∧Int.toNat k<(gtd ([]:List Int) a.1 (Int.toNat i)).length)∧(((0:Int)≤i∧Int.toNat i<(b.1).length)∧((0:Int)≤k∧Int.toNat k<(gtd ([]:List Int) b.1 (Int.toNat i)).length))))∧(((row0.length=row0.length∨row0.length+1≤row0.length)∧row0.length+1≤big)∧(Qep K a b (w64 (k+(1:Int))) (g2||((QT (gtd (0:Int) (gtd ([]:List Int) a.1 (Int.toNat i)) (Int.toNat k)) (gtd (0:Int) (gtd ([]:List Int) b.1 (Int.toNat i)) (Int.toNat k))).2)) (List.take (row0.length+1) ((List.take row0.length row0)++([(QT (gtd (0:Int) (gtd ([]:List Int) a.1 (Int.toNat i)) (Int.toNat k)) (gtd (0:Int) (gtd ([]:List Int) b.1 (Int.toNat i)) (Int.toNat k))).1]))) i (List.take g01.length g01)))) (((g01.length=g01.length∨g01.length+1≤g01.length)∧g01.length+1≤big)∧(QfT K a b (w64 (i+(1:Int))) (List.take (g01.length+1) ((List.take g01.length g01)++([(List.take row0.length (List.drop 0 row0))]))) g2))))):Qep K a b k g2 row0 i g01 :=
 Loop.of (by kernel_rfl) h
theorem QiO (a:QK) (b:QK) (i:Int) (g0:List (List Int)) (g21:Bool) (h :
 (zif ((decide (i<((a.1).length:Int)))&&(decide (i<((b.1).length:Int)))) (Qep K a b 0 g21 ([]:List Int) i (List.take g0.length g0)) (K (Jp ((List.take g0.length (List.drop 0 g0)),(QT a.2.1 b.2.1).1,(g21||((QT a.2.1 b.2.1).2))))))):QfT K a b i g0 g21 :=
 Loop.of (by kernel_rfl) h
theorem QxT (a:QK) (b:QK) (h :
 (QfT K a b 0 ([]:List (List Int)) (a.2.2||b.2.2))):Hold (tawp QaW (0+0) QDm (TQ 0 0 Qqg K) (Qe [(.a (Tup.cells QW a)),(.a (Tup.cells QW b))])) :=
 Hold.of (by kernel_rfl) h
theorem QHR (a:QK) (b:QK) (hp:Yq (α:=QK) (β:=QK) a b):TCon Tryz.prog 89 [(.a (Tup.cells QW a)),(.a (Tup.cells QW b))] (Jp (Zo a b)):=by
 refine Ql rfl fun hb=>tcg (n:=114) (sg:=Qk8.sg) Qi (TOk.cons Qfk TOk.nil) (by kernel_rfl) (by kernel_rfl) (QxT _ a b ?_)
 have hl_a_0:(a.1).length≤9223372036854775807:=hb.1.1.1
 have hl_b_0:(b.1).length≤9223372036854775807:=hb.2.1.1.1
 unfold Yq at hp
 simp only [Yz,Ym,YY] at hp
 have ha:=JJ a.1
 refine Zc a.1 (fun r k=>∀ (v:List (List Int)) (z:Bool),v.length=k→v++(Zl r (b.1.drop k)).1=(Zl a.1 b.1).1→(z||(Zl r (b.1.drop k)).2)=(a.2.2||b.2.2||(Zl a.1 b.1).2)→QfT (fun r'=>r'=Jp (Zo a b)) a b k v z) ?_ ?_ [] _ rfl (by simp) (by simp)
 ·intro v z hv he hz
  refine QiO (fun r'=>r'=Jp (Zo a b)) a b _ _ _ ⟨fun h=>by simp at h,fun _=>R_eq ?_⟩
  unfold Zo;rw [← he,← hz];simp [Zl]
 ·intro k x r hk hlt hg ih v z hv he hz
  by_cases hkb:k<b.1.length
  ·obtain ⟨y,q,hq⟩:=Yj (l:=b.1) (k:=k) hkb
   have hx:=QdZ hk
   have hxl:=ZF x
   refine QiO (fun r'=>r'=Jp (Zo a b)) a b _ _ _ ⟨fun _=>?_,fun h=>by simp at h;omega⟩
   rw [List.take_length]
   refine Zc x (fun r2 j=>∀ (w:List Int) (z2:Bool),w.length=j→w++(vz QT r2 (y.drop j)).1=(vz QT x y).1→(z2||(vz QT r2 (y.drop j)).2)=(z||(vz QT x y).2)→Qep (fun r'=>r'=Jp (Zo a b)) a b j z2 w k v) ?_ ?_ [] z rfl (by simp) (by simp)
   ·intro w z2 hw he2 hz2
    refine QrF (fun r'=>r'=Jp (Zo a b)) a b _ _ _ _ _ ?_
    rw [Int.toNat_natCast,hg,ZN hq]
    refine ⟨⟨⟨by omega,hlt⟩,fun h=>by simp at h⟩,fun h=>by simp at h,fun _=>⟨room (by omega),?_⟩⟩
    rw [QaU,sc1 (by omega),Q9]
    simp only [vz,List.append_nil,Bool.or_false] at he2 hz2
    refine ih _ _ (ZZ hv) ?_ ?_
    ·rw [← he,hq,Zl,Zx hq,he2];simp
    ·rw [← hz,hq,Zl,Zx hq,hz2];simp [Bool.or_assoc]
   ·intro j e r2 hj hlt2 hg2 ih2 w z2 hw he2 hz2
    refine QrF (fun r'=>r'=Jp (Zo a b)) a b _ _ _ _ _ ?_
    rw [Int.toNat_natCast,Int.toNat_natCast,hg,ZN hq]
    by_cases hjy:j<y.length
    ·obtain ⟨f,q2,hq2⟩:=Yj (l:=y) (k:=j) hjy
     refine ⟨⟨⟨by omega,hlt⟩,fun _=>⟨by omega,hkb⟩⟩,fun _=>?_,fun h=>by simp at h;omega⟩
     rw [hg2,ZN hq2,sc1 (by omega),Q9,List.take_length]
     refine ⟨⟨⟨by omega,hlt⟩,⟨by omega,hlt2⟩,⟨by omega,hkb⟩,by omega,hjy⟩,room (by omega),ih2 _ _ (ZZ hw) ?_ ?_⟩
     ·rw [← he2,hq2,vz,Zx hq2];simp
     ·rw [← hz2,hq2,vz,Zx hq2];simp [Bool.or_assoc]
    ·refine ⟨⟨⟨by omega,hlt⟩,fun _=>⟨by omega,hkb⟩⟩,fun h=>by simp at h;omega,fun _=>⟨room (by omega),?_⟩⟩
     rw [QaU,sc1 (by omega),Q9]
     rw [Qdu (l:=y) (by omega)] at he2 hz2
     simp only [vz,List.append_nil,Bool.or_false] at he2 hz2
     refine ih _ _ (ZZ hv) ?_ ?_
     ·rw [← he,hq,Zl,Zx hq,he2];simp
     ·rw [← hz,hq,Zl,Zx hq,hz2];simp [Bool.or_assoc]
  ·refine QiO (fun r'=>r'=Jp (Zo a b)) a b _ _ _ ⟨fun h=>by simp at h;omega,fun _=>R_eq ?_⟩
   unfold Zo;rw [← he,← hz,Qdu (l:=b.1) (by omega)];simp [Zl]
theorem QBf:Qh Tryz.prog Qk8:=Qk fun x h=>QHR x.1 x.2.1 h
def QaT (t:QK):TRes:=zra (.a (Tup.cells QW t))
def QgQ:TRow:=Qg 84 [(.a QW),(.a QW)] fun x=>(some (Yq (α:=QK) (β:=QK) x.1 x.2.1),QaT (Zo x.1 x.2.1))
def QhW:List TRow:=[QjC,QaB]
def Qr8:TCode :=
 (zsq [(zsq [(.reg [zmv 18 6,zfa 19 2 0,zld 20 19 1,zle 21 20,zbi 22 .lss 18 21,zmv 23 22,.grp 23 true [zmv 24 6,zfa 25 3 0,zld 26 25 1,zle 27 26,zbi 28 .lss 24 27] 29 28]),(.cond 29 .skip (.exit 0))]),(.block 1 (zsq [(.draw [zfa 33 2 0,zld 34 33 1,zmv 35 6,zia 36 34 35 [(.sl [TI])],zfa 37 36 0,zld 38 37 1,zfa 39 3 0,zld 40 39 1,zmv 41 6,zia 42 40 41 [(.sl [TI])],zfa 43 42 0,zld 44 43 1,zca 45 161 [38,44],zmv 32 45,zex 46 32 0,zex 47 32 1,zmv 7 46,zmv 8 47] []),(.reg [zfa 48 5 0,zld 49 48 1,zmv 50 7,zop 51 (.build [(.n [TI])] [(0,1,50)]),zop 52 (.bsl 129 [(.sl [TI])] [51]),zop 53 (.app 49 52 129 [(.sl [TI])]),zfa 54 5 0,zst 54 53 1]),(.reg [zfa 55 5 2,zld 56 55 1,zmv 57 56,.grp 57 false [zmv 58 8] 59 58,zfa 60 5 2,zst 60 59 1])])),(.reg [zmv 30 6,zbi 31 .add 30 (zki 1),zmv 6 31])])
def Qrz:List (Nat × Md):=[(2,.b [.d,.d,.d]),(3,.b [.d,.d,.d]),(4,.b [.d,.d,.d]),(5,.b [.o 129,.d,.d]),(6,.one .d)]
def Quf:TCode :=
 (zsq [(.reg [zfa 62 2 1,zld 63 62 1,zfa 64 3 1,zld 65 64 1,zca 66 162 [63,65],zmv 61 66,zex 67 61 0,zex 68 61 1,zmv 9 67,zmv 10 68]),(.reg [zmv 69 9,zfa 70 5 1,zst 70 69 1]),(.reg [zfa 71 5 2,zld 72 71 1,zmv 73 72,.grp 73 false [zmv 74 10] 75 74,zfa 76 5 2,zst 76 75 1]),(.reg [zLd 77 5 3,zst 4 77 3]),.ret])
def Qyp:TCode :=
 (zsq [(.reg [zop 2 (.box 46 0 3),zop 3 (.box 46 1 3),zop 4 (.new 46 (z0s QW))]),(.reg [zfa 11 2 2,zld 12 11 1,zmv 13 12,.grp 13 false [zfa 14 3 2,zld 15 14 1] 16 15,zop 17 (.build (z0s QW) [(2,1,16)]),zop 5 (.new 46 (z0s QW)),zst 5 17 3]),(zsq [(.reg [zmv 6 (zki 0)]),(.block 0 (.loop Qrz Qr8))]),Quf])
def Quo:List (ARv × Md):=[(.l 4 3 true,.b [.d,.d,.d])]
def QoT:Qc:=TQ 0 0 Quo K
def QBe:Qc:=Qseq (tawp QhW 0 Quf (QoT K)) (QoT K)
def QD6:Qc:=Qblk 0 (QBe K)
def Qe6 (a:QK) (b:QK) (i:Int) (g0:List (List Int)) (g2:Bool):Prop:=Loop QhW 0 Qrz Qr8 (QD6 K) ⟨[(2,(.p 0 0 0)),(3,(.p 1 0 0)),(4,(.p 2 0 0)),(5,(.p 4 0 0)),(6,(zci i))],[(0,(.box (Tup.cells QW a))),(1,(.box (Tup.cells QW b))),(2,(.box (Tup.cells QW ([],(0:Int),false)))),(3,(.sl 129 [(.sl [TI])] true g0)),(4,(.box [(.r [(.sl [TI])] 3 0 g0.length),(zci 0),(zcb g2)]))],5⟩
theorem Qlb (a:QK) (b:QK) (i:Int) (g0:List (List Int)) (g2:Bool) (h :
 (zif ((decide (i<((a.1).length:Int)))&&(decide (i<((b.1).length:Int)))) ((((0:Int)≤i∧Int.toNat i<(a.1).length)∧(((0:Int)≤i∧Int.toNat i<(b.1).length)∧(Yq (α:=List Int) (β:=List Int) (gtd ([]:List Int) a.1 (Int.toNat i)) (gtd ([]:List Int) b.1 (Int.toNat i)))))∧(((g0.length=g0.length∨g0.length+1≤g0.length)∧g0.length+1≤big)∧(Qe6 K a b (w64 (i+(1:Int))) (List.take (g0.length+1) ((List.take g0.length g0)++([(YN (gtd ([]:List Int) a.1 (Int.toNat i)) (gtd ([]:List Int) b.1 (Int.toNat i))).1]))) (g2||((YN (gtd ([]:List Int) a.1 (Int.toNat i)) (gtd ([]:List Int) b.1 (Int.toNat i))).2))))) (K (QaT ((List.take g0.length (List.drop 0 g0)),(QT a.2.1 b.2.1).1,(g2||((QT a.2.1 b.2.1).2))))))):Qe6 K a b i g0 g2 :=
 Loop.of (by kernel_rfl) h
theorem QBL (a:QK) (b:QK) (h :
 (Qe6 K a b 0 ([]:List (List Int)) (a.2.2||b.2.2))):Hold (tawp QhW (0+0) Qyp (TQ 0 0 Quo K) (Qe [(.a (Tup.cells QW a)),(.a (Tup.cells QW b))])) :=
 Hold.of (by kernel_rfl) h
theorem QJv (a:QK) (b:QK) (hp:Yq (α:=QK) (β:=QK) a b):TCon Tryz.prog 84 [(.a (Tup.cells QW a)),(.a (Tup.cells QW b))] (QaT (Zo a b)):=by
 refine Ql rfl fun hb=>tcg (n:=78) (sg:=QgQ.sg) Qi (TOk.cons QGX (TOk.cons Qdn TOk.nil)) (by kernel_rfl) (by kernel_rfl) (QBL _ a b ?_)
 have hl_a_0:(a.1).length≤9223372036854775807:=hb.1.1.1
 have hl_b_0:(b.1).length≤9223372036854775807:=hb.2.1.1.1
 unfold Yq at hp
 simp only [Yz,Ym,YY] at hp
 have ha:=JJ a.1
 refine Zc a.1 (fun r k=>∀ (v:List (List Int)) (z:Bool),v.length=k→v++(Zl r (b.1.drop k)).1=(Zl a.1 b.1).1→(z||(Zl r (b.1.drop k)).2)=(a.2.2||b.2.2||(Zl a.1 b.1).2)→Qe6 (fun r'=>r'=QaT (Zo a b)) a b k v z) ?_ ?_ [] _ rfl (by simp) (by simp)
 ·intro v z hv he hz
  refine Qlb (fun r'=>r'=QaT (Zo a b)) a b _ _ _ ⟨fun h=>by simp at h,fun _=>R_eq ?_⟩
  unfold Zo;rw [← he,← hz];simp [Zl]
 ·intro k x r hk hlt hg ih v z hv he hz
  by_cases hkb:k<b.1.length
  ·obtain ⟨y,q,hq⟩:=Yj (l:=b.1) (k:=k) hkb
   have hx:=QdZ hk
   have hy:=QdZ hq
   refine Qlb (fun r'=>r'=QaT (Zo a b)) a b _ _ _ ⟨fun _=>?_,fun h=>by simp at h;omega⟩
   rw [Int.toNat_natCast,hg,ZN hq,sc1 (by omega),Q9]
   refine ⟨⟨⟨by omega,hlt⟩,⟨by omega,hkb⟩,by unfold Yq;omega⟩,room (by omega),ih _ _ (ZZ hv) ?_ ?_⟩
   ·rw [← he,hq,Zl,Zx hq];simp [YN]
   ·rw [← hz,hq,Zl,Zx hq];simp [YN,Bool.or_assoc]
  ·refine Qlb (fun r'=>r'=QaT (Zo a b)) a b _ _ _ ⟨fun h=>by simp at h;omega,fun _=>R_eq ?_⟩
   unfold Zo;rw [← he,← hz,Qdu (l:=b.1) (by omega)];simp [Zl]
theorem Qyk:Qh Tryz.prog QgQ:=Qk fun x h=>QJv x.1 x.2.1 h
end
end Go.Proofs.YtjbdljkhbglnhaaGreat.Am

