/- -/
import Derived.Test.YtjbdljkhbglnhaaGreatZEPF
import Derived.Test.YtjbdljkhbglnhaaGreatZEP4
namespace Go.Proofs.YtjbdljkhbglnhaaGreat.Am
open Go Go.RowKit Go.Proofs.YtjbdljkhbglnhaaGreat
set_option linter.all false
noncomputable section
variable (K:TRes→Prop)
def Qdt (t:(List TOp')):TRes:=zra (zcs ctOp t)
def Qn1:TRow:=Qk 151 [(.c (.sl ctOp))] fun x=>(some (Qu (α:=List TOp') x.1),Qdt (id (α:=List TOp') x.1))
def Qql:List TRow:=[Qao]
def Qvu:TCode :=
 (zsq [(.reg [zbi 10 .lss 9 8]),(.cond 10 .skip (.exit 0)),(.block 1 (zsq [(.reg [zia 11 7 9 ctOp,zLd 12 11 4,zop 5 (.new 69 (z0s ctOp)),zst 5 12 4]),(.draw [zmv 13 3,zfa 14 5 0,zld 15 14 1,zfa 16 5 1,zld 17 16 1,zfa 18 5 2,zld 19 18 1,zfa 20 5 3,zld 21 20 1,zca 22 119 [21],zop 23 (.build (z0s ctOp) [(0,1,15),(1,1,17),(2,1,19),(3,1,22)]),zop 24 (.bsl 69 ctOp [23]),zop 25 (.app 13 24 69 ctOp),zmv 3 25] [(1,9),(2,9),(3,9),(4,9),(5,9),(6,9)])])),(.reg [zbi 26 .add 9 (zki 1),zmv 9 26])])
def Qsg:List (Nat × Md):=[(3,.one .f),(7,.one .d),(8,.one .d),(9,.one .d)]
def QvW:TCode :=
 (zsq [(.reg [zmv 27 3,zmv 2 27]),.ret])
def QIe:TCode :=
 (zsq [(.reg [zmv 2 (.k (.n ctOp))]),(.reg [zop 6 (.bsl 69 ctOp []),zmv 3 6]),(zsq [(.reg [zmv 7 0,zle 8 7,zmv 9 (zki 0)]),(.block 0 (.loop Qsg Qvu))]),QvW])
def QtU:List (ARv × Md):=[(.t 2,.one .d)]
def QqV:Qb:=TQ 0 0 QtU K
def QSo:Qb:=Qseq (tawp Qql 0 QvW (QqV K)) (QqV K)
def QJi:Qb:=Qblk 0 (QSo K)
def Qmm (l:List TOp') (x:Int) (ops:List TOp'):Prop:=Loop Qql 0 Qsg Qvu (QJi K) ⟨[(3,(.r ctOp 0 0 ops.length)),(7,(zcs ctOp l)),(8,(zci (l.length:Int))),(9,(zci x))],[(0,(.sl 69 ctOp true ops))],1⟩
theorem QCY (l:List TOp') (x:Int) (ops:List TOp') (h :
 (zif (decide (x<(l.length:Int))) (((0:Int)≤x∧Int.toNat x<l.length)∧(((Qu (α:=List Int) ((gtd dOp l (Int.toNat x)).2.2.2))∧((ops.length=ops.length∨ops.length+1≤ops.length)∧ops.length+1≤big))∧(Qmm K l (w64 (x+(1:Int))) (List.take (ops.length+1) ((List.take ops.length ops)++([((gtd dOp l (Int.toNat x)).1,(gtd dOp l (Int.toNat x)).2.1,(gtd dOp l (Int.toNat x)).2.2.1,(List.take ((id (α:=List Int) ((gtd dOp l (Int.toNat x)).2.2.2)).length) (List.drop 0 (id (α:=List Int) ((gtd dOp l (Int.toNat x)).2.2.2)))))])))))) (K (Qdt (List.take ops.length (List.drop 0 ops)))))):Qmm K l x ops :=
 Loop.of (by kernel_rfl) h
theorem QXY (l:List TOp') (h :
 (Qmm K l 0 ([]:List TOp'))):Hold (tawp Qql (0+0) QIe (TQ 0 0 QtU K) (Qg [(.c (.sl ctOp) l)])) :=
 Hold.of (by kernel_rfl) h
theorem QI5 (l:List TOp') (hp:Qu (α:=List TOp') l):TCon Tryz.prog 151 [(.c (.sl ctOp) l)] (Qdt (id (α:=List TOp') l)):=by
 refine Qo rfl fun hb=>tcg (n:=28) (sg:=Qn1.sg) Qm (TOk.cons Qa8 TOk.nil) (by kernel_rfl) (by kernel_rfl) (QXY _ l ?_)
 have hl_l:l.length≤9223372036854775807:=hb.1.1
 refine Jk (Q:=fun z=>Qdt z=Qdt (id (α:=List TOp') l)) hp (fun k x v hk hl hg hv hx ih=>?_) (fun hq=>?_) (R_eq rfl)
 ·refine QCY (fun r'=>r'=Qdt (id (α:=List TOp') l)) l _ _ ⟨fun _=>?_,fun h=>by simp at h;omega⟩
  try simp only [ZP,ZF,JP] at hx
  rw [Int.toNat_natCast,hg,sc1 (by omega),Q8,Qd7]
  exact ⟨⟨by omega,hk⟩,⟨(show Sz.sz (_:List Int)≤2147483648 by omega),room (by omega)⟩,ih⟩
 ·refine QCY (fun r'=>r'=Qdt (id (α:=List TOp') l)) l _ _ ⟨fun h=>by simp at h,fun _=>?_⟩
  exact R_eq (by simp)
theorem QOR:Qj Tryz.prog Qn1:=Qn fun x h=>QI5 x.1 h
def Qdy (t:(List (List Int))):TRes:=zra (zcs [(.sl [TI])] t)
def QfZ:TRow:=Qk 86 [(.c (.sl [(.sl [TI])]))] fun x=>(some (Qu (α:=List (List Int)) x.1),Qdy (id (α:=List (List Int)) x.1))
def Qk9:List TRow:=[Qao]
def QDb:TCode :=
 (zsq [(.reg [zbi 10 .lss 9 8]),(.cond 10 .skip (.exit 0)),(.block 1 (zsq [(.reg [zia 11 7 9 [(.sl [TI])],zLd 12 11 1,zop 5 (.new 129 [(.n [TI])]),zst 5 12 1]),(.reg [zmv 13 3,zfa 14 5 0,zld 15 14 1,zca 16 119 [15],zop 17 (.build [(.n [TI])] [(0,1,16)]),zop 18 (.bsl 129 [(.sl [TI])] [17]),zop 19 (.app 13 18 129 [(.sl [TI])]),zmv 3 19])])),(.reg [zbi 20 .add 9 (zki 1),zmv 9 20])])
def Qyg:List (Nat × Md):=[(3,.one .f),(7,.one .d),(8,.one .d),(9,.one .d)]
def QAM:TCode :=
 (zsq [(.reg [zmv 21 3,zmv 2 21]),.ret])
def QNb:TCode :=
 (zsq [(.reg [zmv 2 (.k (.n [(.sl [TI])]))]),(.reg [zop 6 (.bsl 129 [(.sl [TI])] []),zmv 3 6]),(zsq [(.reg [zmv 7 0,zle 8 7,zmv 9 (zki 0)]),(.block 0 (.loop Qyg QDb))]),QAM])
def QCB:List (ARv × Md):=[(.t 2,.one .d)]
def QDk:Qb:=TQ 0 0 QCB K
def QMn:Qb:=Qseq (tawp Qk9 0 QAM (QDk K)) (QDk K)
def QIb:Qb:=Qblk 0 (QMn K)
def Qqc (l:List (List Int)) (x:Int) (rows:List (List Int)):Prop:=Loop Qk9 0 Qyg QDb (QIb K) ⟨[(3,(.r [(.sl [TI])] 0 0 rows.length)),(7,(zcs [(.sl [TI])] l)),(8,(zci (l.length:Int))),(9,(zci x))],[(0,(.sl 129 [(.sl [TI])] true rows))],1⟩
theorem QyC (l:List (List Int)) (x:Int) (rows:List (List Int)) (h :
 (zif (decide (x<(l.length:Int))) (((0:Int)≤x∧Int.toNat x<l.length)∧(((Qu (α:=List Int) (gtd ([]:List Int) l (Int.toNat x)))∧((rows.length=rows.length∨rows.length+1≤rows.length)∧rows.length+1≤big))∧(Qqc K l (w64 (x+(1:Int))) (List.take (rows.length+1) ((List.take rows.length rows)++([(List.take ((id (α:=List Int) (gtd ([]:List Int) l (Int.toNat x))).length) (List.drop 0 (id (α:=List Int) (gtd ([]:List Int) l (Int.toNat x)))))])))))) (K (Qdy (List.take rows.length (List.drop 0 rows)))))):Qqc K l x rows :=
 Loop.of (by kernel_rfl) h
theorem QJP (l:List (List Int)) (h :
 (Qqc K l 0 ([]:List (List Int)))):Hold (tawp Qk9 (0+0) QNb (TQ 0 0 QCB K) (Qg [(.c (.sl [(.sl [TI])]) l)])) :=
 Hold.of (by kernel_rfl) h
theorem QUk (l:List (List Int)) (hp:Qu (α:=List (List Int)) l):TCon Tryz.prog 86 [(.c (.sl [(.sl [TI])]) l)] (Qdy (id (α:=List (List Int)) l)):=by
 refine Qo rfl fun hb=>tcg (n:=22) (sg:=QfZ.sg) Qm (TOk.cons Qa8 TOk.nil) (by kernel_rfl) (by kernel_rfl) (QJP _ l ?_)
 have hl_l:l.length≤9223372036854775807:=hb.1.1
 refine Jk (Q:=fun z=>Qdy z=Qdy (id (α:=List (List Int)) l)) hp (fun k x v hk hl hg hv hx ih=>?_) (fun hq=>?_) (R_eq rfl)
 ·refine QyC (fun r'=>r'=Qdy (id (α:=List (List Int)) l)) l _ _ ⟨fun _=>?_,fun h=>by simp at h;omega⟩
  try simp only [ZP,ZF,JP] at hx
  rw [Int.toNat_natCast,hg,sc1 (by omega),Q8,Qd7]
  exact ⟨⟨by omega,hk⟩,⟨(show Sz.sz (_:List Int)≤2147483648 by omega),room (by omega)⟩,ih⟩
 ·refine QyC (fun r'=>r'=Qdy (id (α:=List (List Int)) l)) l _ _ ⟨fun h=>by simp at h,fun _=>?_⟩
  exact R_eq (by simp)
theorem Qqo:Qj Tryz.prog QfZ:=Qn fun x h=>QUk x.1 h
def Qcv (t:(List Qt)):TRes:=zra (zcs QG t)
def Qn8:TRow:=Qk 70 [(.c (.sl QG))] fun x=>(some (Qu (α:=List Qt) x.1),Qcv (id (α:=List Qt) x.1))
def Qn4:List TRow:=[Qao]
def QzX:TCode :=
 (zsq [(.reg [zbi 10 .lss 9 8]),(.cond 10 .skip (.exit 0)),(.block 1 (zsq [(.reg [zia 11 7 9 QG,zLd 12 11 2,zop 5 (.new 108 (z0s QG)),zst 5 12 2]),(.draw [zmv 13 3,zfa 14 5 0,zld 15 14 1,zca 16 119 [15],zfa 17 5 1,zld 18 17 1,zca 19 119 [18],zop 20 (.build (z0s QG) [(0,1,16),(1,1,19)]),zop 21 (.bsl 108 QG [20]),zop 22 (.app 13 21 108 QG),zmv 3 22] [(3,4),(3,5)])])),(.reg [zbi 23 .add 9 (zki 1),zmv 9 23])])
def QD0:List (Nat × Md):=[(3,.one .f),(7,.one .d),(8,.one .d),(9,.one .d)]
def Qwh:TCode :=
 (zsq [(.reg [zmv 24 3,zmv 2 24]),.ret])
def QUh:TCode :=
 (zsq [(.reg [zmv 2 (.k (.n QG))]),(.reg [zop 6 (.bsl 108 QG []),zmv 3 6]),(zsq [(.reg [zmv 7 0,zle 8 7,zmv 9 (zki 0)]),(.block 0 (.loop QD0 QzX))]),Qwh])
def QsB:List (ARv × Md):=[(.t 2,.one .d)]
def QtA:Qb:=TQ 0 0 QsB K
def QQ1:Qb:=Qseq (tawp Qn4 0 Qwh (QtA K)) (QtA K)
def QX5:Qb:=Qblk 0 (QQ1 K)
def Qlo (b:List Qt) (x:Int) (YJ:List Qt):Prop:=Loop Qn4 0 QD0 QzX (QX5 K) ⟨[(3,(.r QG 0 0 YJ.length)),(7,(zcs QG b)),(8,(zci (b.length:Int))),(9,(zci x))],[(0,(.sl 108 QG true YJ))],1⟩
theorem QyH (b:List Qt) (x:Int) (YJ:List Qt) (h :
 (zif (decide (x<(b.length:Int))) (((0:Int)≤x∧Int.toNat x<b.length)∧(((Qu (α:=List Int) ((gtd QY b (Int.toNat x)).1))∧((Qu (α:=List Int) ((gtd QY b (Int.toNat x)).2))∧((YJ.length=YJ.length∨YJ.length+1≤YJ.length)∧YJ.length+1≤big)))∧(Qlo K b (w64 (x+(1:Int))) (List.take (YJ.length+1) ((List.take YJ.length YJ)++([((List.take ((id (α:=List Int) ((gtd QY b (Int.toNat x)).1)).length) (List.drop 0 (id (α:=List Int) ((gtd QY b (Int.toNat x)).1)))),(List.take ((id (α:=List Int) ((gtd QY b (Int.toNat x)).2)).length) (List.drop 0 (id (α:=List Int) ((gtd QY b (Int.toNat x)).2)))))])))))) (K (Qcv (List.take YJ.length (List.drop 0 YJ)))))):Qlo K b x YJ :=
 Loop.of (by kernel_rfl) h
theorem QG8 (b:List Qt) (h :
 (Qlo K b 0 ([]:List Qt))):Hold (tawp Qn4 (0+0) QUh (TQ 0 0 QsB K) (Qg [(.c (.sl QG) b)])) :=
 Hold.of (by kernel_rfl) h
theorem QSp (b:List Qt) (hp:Qu (α:=List Qt) b):TCon Tryz.prog 70 [(.c (.sl QG) b)] (Qcv (id (α:=List Qt) b)):=by
 refine Qo rfl fun hb=>tcg (n:=25) (sg:=Qn8.sg) Qm (TOk.cons Qa8 TOk.nil) (by kernel_rfl) (by kernel_rfl) (QG8 _ b ?_)
 have hl_b:b.length≤9223372036854775807:=hb.1.1
 refine Jk (Q:=fun z=>Qcv z=Qcv (id (α:=List Qt) b)) hp (fun k x v hk hl hg hv hx ih=>?_) (fun hq=>?_) (R_eq rfl)
 ·refine QyH (fun r'=>r'=Qcv (id (α:=List Qt) b)) b _ _ ⟨fun _=>?_,fun h=>by simp at h;omega⟩
  try simp only [ZP,ZF,JP] at hx
  rw [Int.toNat_natCast,hg,sc1 (by omega),Q8,Qd7,Qd7]
  exact ⟨⟨by omega,hk⟩,⟨(show Sz.sz (_:List Int)≤2147483648 by omega),(show Sz.sz (_:List Int)≤2147483648 by omega),room (by omega)⟩,ih⟩
 ·refine QyH (fun r'=>r'=Qcv (id (α:=List Qt) b)) b _ _ ⟨fun h=>by simp at h,fun _=>?_⟩
  exact R_eq (by simp)
theorem QFz:Qj Tryz.prog Qn8:=Qn fun x h=>QSp x.1 h
def Qog (t:QZ):TRes:=zra (.a (Tup.cells Zk t))
def Qod:TRow:=Qk 184 [(.a Zk)] fun x=>(some (Qu (α:=QZ) x.1),Qog (id (α:=QZ) x.1))
def QMf:List TRow:=[QfZ]
def QXg:TCode :=
 (zsq [(.reg [zop 1 (.box 46 0 3),zop 2 (.new 46 (z0s Zk))]),(.draw [zfa 3 1 0,zld 4 3 1,zca 5 86 [4],zfa 6 1 1,zld 7 6 1,zfa 8 1 2,zld 9 8 1,zop 10 (.build (z0s Zk) [(0,1,5),(1,1,7),(2,1,9)]),zst 2 10 3] [(2,3),(2,4),(2,5),(2,6)]),.ret])
def QXs:List (ARv × Md):=[(.l 2 3 true,.b [.d,.d,.d])]
theorem QMk (g:QZ) (h :
 ((Qu (α:=List (List Int)) g.1)∧K (Qog ((id (α:=List (List Int)) g.1),g.2.1,g.2.2)))):Hold (tawp QMf (0+0) QXg (TQ 0 0 QXs K) (Qg [(.a (Tup.cells Zk g))])) :=
 Hold.of (by kernel_rfl) h
theorem QPg (g:QZ) (hp:Qu (α:=QZ) g):TCon Tryz.prog 184 [(.a (Tup.cells Zk g))] (Qog (id (α:=QZ) g)):=by
 refine Qo rfl fun hb=>tcg (n:=11) (sg:=Qod.sg) Qm (TOk.cons Qqo TOk.nil) (by kernel_rfl) (by kernel_rfl) (QMk _ g ?_)
 have hl_g_0:(g.1).length≤9223372036854775807:=hb.1.1.1
 unfold Qu at hp
 simp only [ZP,ZF,JP] at hp
 exact ⟨hp,R_eq rfl⟩
theorem QHZ:Qj Tryz.prog Qod:=Qn fun x h=>QPg x.1 h
def Qdj (t:(List TOp')):TRes:=zra (zcs ctOp t)
def QiW:TRow:=Qk 176 [(.c (.sl ctOp))] fun x=>(some (Qu (α:=List TOp') x.1),Qdj (id (α:=List TOp') x.1))
def QmS:List TRow:=[]
def QuF:TCode :=
 (zsq [(zsq [(.reg [zmv 7 4,zmv 8 0,zle 9 8,zbi 10 .lss 7 9]),(.cond 10 .skip (.exit 0))]),(.block 1 (zsq [(.reg [zmv 13 0,zmv 14 4,zia 15 13 14 ctOp,zLd 16 15 4,zop 5 (.new 69 (z0s ctOp)),zst 5 16 4]),(.reg [zop 17 (.bsl 3 [TI] []),zmv 18 0,zmv 19 4,zia 20 18 19 ctOp,zfa 21 20 3,zld 22 21 1,zop 23 (.app 17 22 3 [TI]),zfa 24 5 3,zst 24 23 1]),(.reg [zmv 25 3,zLd 26 5 4,zop 27 (.bsl 69 ctOp [26]),zop 28 (.app 25 27 69 ctOp),zmv 3 28])])),(.reg [zmv 11 4,zbi 12 .add 11 (zki 1),zmv 4 12])])
def QC4:List (Nat × Md):=[(0,.one .d),(3,.one .f),(4,.one .d)]
def QqP:TCode :=
 (zsq [(.reg [zmv 29 3,zmv 2 29]),.ret])
def QFN:TCode :=
 (zsq [(.reg [zmv 2 (.k (.n ctOp))]),(.reg [zop 6 (.bsl 69 ctOp []),zmv 3 6]),(zsq [(.reg [zmv 4 (zki 0)]),(.block 0 (.loop QC4 QuF))]),QqP])
def QBF:List (ARv × Md):=[(.t 2,.one .d)]
def QBS:Qb:=TQ 0 0 QBF K
def QYA:Qb:=Qseq (tawp QmS 0 QqP (QBS K)) (QBS K)
def QKL:Qb:=Qblk 0 (QYA K)
def QpZ (l:List TOp') (i:Int) (out:List TOp'):Prop:=Loop QmS 0 QC4 QuF (QKL K) ⟨[(0,(zcs ctOp l)),(3,(.r ctOp 0 0 out.length)),(4,(zci i))],[(0,(.sl 69 ctOp true out))],1⟩
theorem Qq2 (l:List TOp') (i:Int) (out:List TOp') (h :
 (zif (decide (i<(l.length:Int))) (((0:Int)≤i∧Int.toNat i<l.length)∧((((0:Int)≤i∧Int.toNat i<l.length)∧((0=0∨0+((gtd dOp l (Int.toNat i)).2.2.2).length≤0)∧0+((gtd dOp l (Int.toNat i)).2.2.2).length≤big))∧(((out.length=out.length∨out.length+1≤out.length)∧out.length+1≤big)∧(QpZ K l (w64 (i+(1:Int))) (List.take (out.length+1) ((List.take out.length out)++([((gtd dOp l (Int.toNat i)).1,(gtd dOp l (Int.toNat i)).2.1,(gtd dOp l (Int.toNat i)).2.2.1,(List.take (0+((gtd dOp l (Int.toNat i)).2.2.2).length) (List.drop 0 ((gtd dOp l (Int.toNat i)).2.2.2))))]))))))) (K (Qdj (List.take out.length (List.drop 0 out)))))):QpZ K l i out :=
 Loop.of (by kernel_rfl) h
theorem QGA (l:List TOp') (h :
 (QpZ K l 0 ([]:List TOp'))):Hold (tawp QmS (0+0) QFN (TQ 0 0 QBF K) (Qg [(.c (.sl ctOp) l)])) :=
 Hold.of (by kernel_rfl) h
theorem QPV (l:List TOp') (hp:Qu (α:=List TOp') l):TCon Tryz.prog 176 [(.c (.sl ctOp) l)] (Qdj (id (α:=List TOp') l)):=by
 refine Qo rfl fun hb=>tcg (n:=30) (sg:=QiW.sg) Qm TOk.nil (by kernel_rfl) (by kernel_rfl) (QGA _ l ?_)
 have hl_l:l.length≤9223372036854775807:=hb.1.1
 refine Jk (Q:=fun z=>Qdj z=Qdj (id (α:=List TOp') l)) hp (fun k x v hk hl hg hv hx ih=>?_) (fun hq=>?_) (R_eq rfl)
 ·refine Qq2 (fun r'=>r'=Qdj (id (α:=List TOp') l)) l _ _ ⟨fun _=>?_,fun h=>by simp at h;omega⟩
  try simp only [ZP,ZF,JP] at hx
  rw [Int.toNat_natCast,hg,sc1 (by omega),Q8,Qb1]
  exact ⟨⟨by omega,hk⟩,⟨⟨by omega,hk⟩,.inl rfl,by have:=ZS x.2.2.2;rw [Q9];omega⟩,room (by omega),ih⟩
 ·refine Qq2 (fun r'=>r'=Qdj (id (α:=List TOp') l)) l _ _ ⟨fun h=>by simp at h,fun _=>?_⟩
  exact R_eq (by simp)
theorem QEr:Qj Tryz.prog QiW:=Qn fun x h=>QPV x.1 h
def Qds (t:(List (List Int))):TRes:=zra (zcs [(.sl [TI])] t)
def QqI:TRow:=Qk 210 [(.c (.sl [(.sl [TI])]))] fun x=>(some (Qu (α:=List (List Int)) x.1),Qds (id (α:=List (List Int)) x.1))
def QoN:List TRow:=[]
def QBo:TCode :=
 (zsq [(zsq [(.reg [zmv 6 4,zmv 7 0,zle 8 7,zbi 9 .lss 6 8]),(.cond 9 .skip (.exit 0))]),(.block 1 (.reg [zmv 12 3,zop 13 (.bsl 3 [TI] []),zmv 14 0,zmv 15 4,zia 16 14 15 [(.sl [TI])],zfa 17 16 0,zld 18 17 1,zop 19 (.app 13 18 3 [TI]),zop 20 (.build [(.n [TI])] [(0,1,19)]),zop 21 (.bsl 129 [(.sl [TI])] [20]),zop 22 (.app 12 21 129 [(.sl [TI])]),zmv 3 22])),(.reg [zmv 10 4,zbi 11 .add 10 (zki 1),zmv 4 11])])
def Qsy:List (Nat × Md):=[(0,.one .d),(3,.one .f),(4,.one .d)]
def Qwc:TCode :=
 (zsq [(.reg [zmv 23 3,zmv 2 23]),.ret])
def QRX:TCode :=
 (zsq [(.reg [zmv 2 (.k (.n [(.sl [TI])]))]),(.reg [zop 5 (.bsl 129 [(.sl [TI])] []),zmv 3 5]),(zsq [(.reg [zmv 4 (zki 0)]),(.block 0 (.loop Qsy QBo))]),Qwc])
def Qtp:List (ARv × Md):=[(.t 2,.one .d)]
def QC6:Qb:=TQ 0 0 Qtp K
def QPA:Qb:=Qseq (tawp QoN 0 Qwc (QC6 K)) (QC6 K)
def QWO:Qb:=Qblk 0 (QPA K)
def QlY (l:List (List Int)) (i:Int) (out:List (List Int)):Prop:=Loop QoN 0 Qsy QBo (QWO K) ⟨[(0,(zcs [(.sl [TI])] l)),(3,(.r [(.sl [TI])] 0 0 out.length)),(4,(zci i))],[(0,(.sl 129 [(.sl [TI])] true out))],1⟩
theorem QqX (l:List (List Int)) (i:Int) (out:List (List Int)) (h :
 (zif (decide (i<(l.length:Int))) ((((0:Int)≤i∧Int.toNat i<l.length)∧(((0=0∨0+(gtd ([]:List Int) l (Int.toNat i)).length≤0)∧0+(gtd ([]:List Int) l (Int.toNat i)).length≤big)∧((out.length=out.length∨out.length+1≤out.length)∧out.length+1≤big)))∧(QlY K l (w64 (i+(1:Int))) (List.take (out.length+1) ((List.take out.length out)++([(List.take (0+(gtd ([]:List Int) l (Int.toNat i)).length) (List.drop 0 (gtd ([]:List Int) l (Int.toNat i))))]))))) (K (Qds (List.take out.length (List.drop 0 out)))))):QlY K l i out :=
 Loop.of (by kernel_rfl) h
theorem QLk (l:List (List Int)) (h :
 (QlY K l 0 ([]:List (List Int)))):Hold (tawp QoN (0+0) QRX (TQ 0 0 Qtp K) (Qg [(.c (.sl [(.sl [TI])]) l)])) :=
 Hold.of (by kernel_rfl) h
theorem QRF (l:List (List Int)) (hp:Qu (α:=List (List Int)) l):TCon Tryz.prog 210 [(.c (.sl [(.sl [TI])]) l)] (Qds (id (α:=List (List Int)) l)):=by
 refine Qo rfl fun hb=>tcg (n:=24) (sg:=QqI.sg) Qm TOk.nil (by kernel_rfl) (by kernel_rfl) (QLk _ l ?_)
 have hl_l:l.length≤9223372036854775807:=hb.1.1
 refine Jk (Q:=fun z=>Qds z=Qds (id (α:=List (List Int)) l)) hp (fun k x v hk hl hg hv hx ih=>?_) (fun hq=>?_) (R_eq rfl)
 ·refine QqX (fun r'=>r'=Qds (id (α:=List (List Int)) l)) l _ _ ⟨fun _=>?_,fun h=>by simp at h;omega⟩
  try simp only [ZP,ZF,JP] at hx
  rw [Int.toNat_natCast,hg,sc1 (by omega),Q8,Qb1]
  exact ⟨⟨⟨by omega,hk⟩,⟨.inl rfl,by have:=ZS x;rw [Q9];omega⟩,room (by omega)⟩,ih⟩
 ·refine QqX (fun r'=>r'=Qds (id (α:=List (List Int)) l)) l _ _ ⟨fun h=>by simp at h,fun _=>?_⟩
  exact R_eq (by simp)
theorem QMh:Qj Tryz.prog QqI:=Qn fun x h=>QRF x.1 h
def Qcu (t:QZ):TRes:=zra (.a (Tup.cells Zk t))
def Qo9:TRow:=Qk 83 [(.a [(.sl ctOp)])] fun x=>(none,Qcu (Yw x.1))
def QpB:List TRow:=[QaL]
def QvV:TCode :=
 (zsq [(zsq [(.reg [zmv 6 4,zfa 7 1 0,zld 8 7 1,zle 9 8,zbi 10 .lss 6 9,zmv 11 10,.grp 11 true [zLd 12 1 1,zca 13 74 [12]] 14 13]),(.cond 14 .skip (.exit 0))]),(.block 1 (.draw [zfa 17 3 0,zld 18 17 1,zfa 19 1 0,zld 20 19 1,zmv 21 4,zia 22 20 21 ctOp,zfa 23 22 3,zld 24 23 1,zle 25 24,zop 26 (.mk 3 [TI] [(zci 0)] 25),zop 27 (.build [(.n [TI])] [(0,1,26)]),zop 28 (.bsl 129 [(.sl [TI])] [27]),zop 29 (.app 18 28 129 [(.sl [TI])]),zfa 30 3 0,zst 30 29 1] [(0,9),(1,9),(0,11),(1,11)])),(.reg [zmv 15 4,zbi 16 .add 15 (zki 1),zmv 4 16])])
def QD1:List (Nat × Md):=[(1,.b [.d]),(2,.b [.d,.d,.d]),(3,.b [.o 129,.d,.d]),(4,.one .d)]
def QyR:TCode :=
 (zsq [(.reg [zLd 31 3 3,zst 2 31 3]),.ret])
def QVp:TCode :=
 (zsq [(.reg [zop 1 (.box 26 0 1),zop 2 (.new 46 (z0s Zk))]),(.reg [zop 5 (.build (z0s Zk) []),zop 3 (.new 46 (z0s Zk)),zst 3 5 3]),(zsq [(.reg [zmv 4 (zki 0)]),(.block 0 (.loop QD1 QvV))]),QyR])
def QwV:List (ARv × Md):=[(.l 2 3 true,.b [.d,.d,.d])]
def QCF:Qb:=TQ 0 0 QwV K
def QGg:Qb:=Qseq (tawp QpB 0 QyR (QCF K)) (QCF K)
def QN4:Qb:=Qblk 0 (QGg K)
def Qi3 (m:List TOp') (i:Int) (g0:List (List Int)):Prop:=Loop QpB 0 QD1 QvV (QN4 K) ⟨[(1,(.p 0 0 0)),(2,(.p 1 0 0)),(3,(.p 3 0 0)),(4,(zci i))],[(0,(.box [(zcs ctOp m)])),(1,(.box (Tup.cells Zk ([],(0:Int),false)))),(2,(.sl 129 [(.sl [TI])] true g0)),(3,(.box [(.r [(.sl [TI])] 2 0 g0.length),(zci 0),(zcb false)]))],4⟩
theorem Qqe (m:List TOp') (i:Int) (g0:List (List Int)) (h :
 (zif ((decide (i<(m.length:Int)))&&(QU m)) ((((0:Int)≤i∧Int.toNat i<m.length)∧(((0:Int)≤(((gtd dOp m (Int.toNat i)).2.2.2).length:Int)∧(((gtd dOp m (Int.toNat i)).2.2.2).length:Int)≤big)∧((g0.length=g0.length∨g0.length+1≤g0.length)∧g0.length+1≤big)))∧(Qi3 K m (w64 (i+(1:Int))) (List.take (g0.length+1) ((List.take g0.length g0)++([(List.take (Int.toNat (((gtd dOp m (Int.toNat i)).2.2.2).length:Int)) (List.drop 0 (List.replicate (Int.toNat (((gtd dOp m (Int.toNat i)).2.2.2).length:Int)) (0:Int))))]))))) (K (Qcu ((List.take g0.length (List.drop 0 g0)),(0:Int),false))))):Qi3 K m i g0 :=
 Loop.of (by kernel_rfl) h
theorem QXh (m:List TOp') (h :
 (Qi3 K m 0 ([]:List (List Int)))):Hold (tawp QpB (0+0) QVp (TQ 0 0 QwV K) (Qg [(.a [(.c (.sl ctOp) m)])])) :=
 Hold.of (by kernel_rfl) h
theorem QPC (m:List TOp'):TCon Tryz.prog 83 [(.a [(.c (.sl ctOp) m)])] (Qcu (Yw m)):=by
 refine Qo rfl fun hb=>tcg (n:=32) (sg:=Qo9.sg) Qm (TOk.cons Qb2 TOk.nil) (by kernel_rfl) (by kernel_rfl) (QXh _ m ?_)
 have hl_m_0:(m).length≤9223372036854775807:=hb.1.1.1
 by_cases hm:QU m=true
 rotate_left
 ·refine Qqe (fun r'=>r'=Qcu (Yw m)) m _ _ ⟨fun h=>by simp [hm] at h,fun _=>R_eq (by unfold Yw;rw [if_neg hm];rfl)⟩
 have hl:=Ym hm
 have hv:(Yw m)=(m.map fun o=>List.replicate o.2.2.2.length (0:Int),0,false):=by unfold Yw;rw [if_pos hm]
 refine Zp m (fun r k=>∀ v:List (List Int),v.length=k→v++r.map (fun o=>List.replicate o.2.2.2.length (0:Int))=m.map (fun o=>List.replicate o.2.2.2.length (0:Int))→Qi3 (fun r'=>r'=Qcu (Yw m)) m k v) ?_ ?_ [] rfl rfl
 ·intro v hk he
  refine Qqe (fun r'=>r'=Qcu (Yw m)) m _ _ ⟨fun h=>by simp at h,fun _=>R_eq ?_⟩
  rw [hv,← he];simp
 ·intro k x r hk hlt hg ih v hvl he
  have ho:=Qoy (Qp1 hm hlt)
  rw [hg] at ho
  refine Qqe (fun r'=>r'=Qcu (Yw m)) m _ _ ⟨fun _=>?_,fun h=>by simp [hm] at h;omega⟩
  rw [Int.toNat_natCast,hg,sc1 (by omega),Int.toNat_natCast,Q8,QSm]
  refine ⟨⟨⟨by omega,hlt⟩,⟨by omega,by rw [bigI];omega⟩,room (by omega)⟩,ih _ (YQ hvl) ?_⟩
  rw [← he];simp
theorem QMq:Qj Tryz.prog Qo9:=Qn fun x _=>QPC x.1
def QcK (t:(List Int) × Bool):TRes:=zra (.tp [(zcs [TI] t.1),(zcb t.2)])
def QoJ:TRow:=Qk 161 [(.c (.sl [TI])),(.c (.sl [TI]))] fun x=>(some (ZZ (α:=List Int) (β:=List Int) x.1 x.2.1),QcK (J3 x.1 x.2.1))
def QoC:List TRow:=[Qdp]
def QzN:TCode :=
 (zsq [(zsq [(.reg [zmv 12 8,zmv 13 0,zle 14 13,zbi 15 .lss 12 14,zmv 16 15,.grp 16 true [zmv 17 8,zmv 18 1,zle 19 18,zbi 20 .lss 17 19] 21 20]),(.cond 21 .skip (.exit 0))]),(.block 1 (zsq [(.draw [zmv 25 0,zmv 26 8,zia 27 25 26 [TI],zld 28 27 1,zmv 29 1,zmv 30 8,zia 31 29 30 [TI],zld 32 31 1,zca 33 162 [28,32],zmv 24 33,zex 34 24 0,zex 35 24 1,zmv 9 34,zmv 10 35] []),(.reg [zmv 36 6,zmv 37 9,zop 38 (.bsl 3 [TI] [37]),zop 39 (.app 36 38 3 [TI]),zmv 6 39]),(.reg [zmv 40 7,zmv 41 40,.grp 41 false [zmv 42 10] 43 42,zmv 7 43])])),(.reg [zmv 22 8,zbi 23 .add 22 (zki 1),zmv 8 23])])
def Qq9:List (Nat × Md):=[(0,.one .d),(1,.one .d),(6,.one .f),(7,.one .d),(8,.one .d)]
def QtQ:TCode :=
 (zsq [(.reg [zmv 44 6,zmv 45 7,zmv 4 44,zmv 5 45]),.ret])
def QR2:TCode :=
 (zsq [(.reg [zmv 4 (.k (.n [TI])),zmv 5 (zkb false)]),(.reg [zop 11 (.bsl 3 [TI] []),zmv 6 11]),(.reg [zmv 7 (zkb false)]),(zsq [(.reg [zmv 8 (zki 0)]),(.block 0 (.loop Qq9 QzN))]),QtQ])
def QEU:List (ARv × Md):=[(.t 4,.one .d),(.t 5,.one .d)]
def Qz1:Qb:=TQ 0 0 QEU K
def QJv:Qb:=Qseq (tawp QoC 0 QtQ (Qz1 K)) (Qz1 K)
def QID:Qb:=Qblk 0 (QJv K)
def Qhq (a:List Int) (b:List Int) (sat:Bool) (i:Int) (out:List Int):Prop:=Loop QoC 0 Qq9 QzN (QID K) ⟨[(0,(zcs [TI] a)),(1,(zcs [TI] b)),(6,(.r [TI] 0 0 out.length)),(7,(zcb sat)),(8,(zci i))],[(0,(.sl 3 [TI] true out))],1⟩
theorem QpU (a:List Int) (b:List Int) (sat:Bool) (i:Int) (out:List Int) (h :
 (zif ((decide (i<(a.length:Int)))&&(decide (i<(b.length:Int)))) ((((0:Int)≤i∧Int.toNat i<a.length)∧((0:Int)≤i∧Int.toNat i<b.length))∧(((out.length=out.length∨out.length+1≤out.length)∧out.length+1≤big)∧(Qhq K a b (sat||((Q4 (gtd (0:Int) a (Int.toNat i)) (gtd (0:Int) b (Int.toNat i))).2)) (w64 (i+(1:Int))) (List.take (out.length+1) ((List.take out.length out)++([(Q4 (gtd (0:Int) a (Int.toNat i)) (gtd (0:Int) b (Int.toNat i))).1])))))) (K (QcK ((List.take out.length (List.drop 0 out)),sat))))):Qhq K a b sat i out :=
 Loop.of (by kernel_rfl) h
theorem QGT (a:List Int) (b:List Int) (h :
 (Qhq K a b false 0 ([]:List Int))):Hold (tawp QoC (0+0) QR2 (TQ 0 0 QEU K) (Qg [(.c (.sl [TI]) a),(.c (.sl [TI]) b)])) :=
 Hold.of (by kernel_rfl) h
theorem QVi (a:List Int) (b:List Int) (hp:ZZ (α:=List Int) (β:=List Int) a b):TCon Tryz.prog 161 [(.c (.sl [TI]) a),(.c (.sl [TI]) b)] (QcK (J3 a b)):=by
 refine Qo rfl fun hb=>tcg (n:=46) (sg:=QoJ.sg) Qm (TOk.cons Qfd TOk.nil) (by kernel_rfl) (by kernel_rfl) (QGT _ a b ?_)
 have hl_a:a.length≤9223372036854775807:=hb.1.1
 have hl_b:b.length≤9223372036854775807:=hb.2.1.1
 unfold ZZ at hp
 have ha:=ZS a
 have hb2:=ZS b
 refine Zp a (fun r k=>∀ (v:List Int) (s:Bool),v.length=k→(v++(vz Q4 r (b.drop k)).1,s||(vz Q4 r (b.drop k)).2)=(J3 a b)→Qhq (fun r'=>r'=QcK (J3 a b)) a b s k v) ?_ ?_ [] false rfl (by unfold J3;simp)
 ·intro v s hv he
  refine QpU (fun r'=>r'=QcK (J3 a b)) a b _ _ _ ⟨fun h=>by simp at h,fun _=>R_eq ?_⟩
  rw [← he];simp [vz]
 ·intro k x r hk hlt hg ih v s hv he
  by_cases hkb:k<b.length
  ·obtain ⟨y,q,hq⟩:=Jl (l:=b) (k:=k) hkb
   refine QpU (fun r'=>r'=QcK (J3 a b)) a b _ _ _ ⟨fun _=>?_,fun h=>by simp at h;omega⟩
   rw [Int.toNat_natCast,hg,Yb hq,sc1 (by omega),Q8]
   refine ⟨⟨⟨by omega,hlt⟩,by omega,hkb⟩,room (by omega),ih _ _ (YQ hv) ?_⟩
   rw [← he,hq,vz,ZY hq]
   simp [Bool.or_assoc]
  ·refine QpU (fun r'=>r'=QcK (J3 a b)) a b _ _ _ ⟨fun h=>by simp at h;omega,fun _=>R_eq ?_⟩
   rw [← he,QhX (l:=b) (by omega)];simp [vz]
theorem QRk:Qj Tryz.prog QoJ:=Qn fun x h=>QVi x.1 x.2.1 h
def QaT (t:QZ):TRes:=zra (.a (Tup.cells Zk t))
def Qls:TRow:=Qk 89 [(.a Zk),(.a Zk)] fun x=>(some (ZZ (α:=QZ) (β:=QZ) x.1 x.2.1),QaT (Z7 x.1 x.2.1))
def Qc8:List TRow:=[QeF]
def QA2:TCode :=
 (zsq [(zsq [(.reg [zmv 35 8,zfa 36 2 0,zld 37 36 1,zmv 38 6,zia 39 37 38 [(.sl [TI])],zfa 40 39 0,zld 41 40 1,zle 42 41,zbi 43 .lss 35 42,zmv 44 43,.grp 44 true [zmv 45 8,zfa 46 3 0,zld 47 46 1,zmv 48 6,zia 49 47 48 [(.sl [TI])],zfa 50 49 0,zld 51 50 1,zle 52 51,zbi 53 .lss 45 52] 54 53]),(.cond 54 .skip (.exit 2))]),(.block 3 (zsq [(.draw [zfa 58 2 0,zld 59 58 1,zmv 60 6,zia 61 59 60 [(.sl [TI])],zfa 62 61 0,zld 63 62 1,zmv 64 8,zia 65 63 64 [TI],zld 66 65 1,zfa 67 3 0,zld 68 67 1,zmv 69 6,zia 70 68 69 [(.sl [TI])],zfa 71 70 0,zld 72 71 1,zmv 73 8,zia 74 72 73 [TI],zld 75 74 1,zca 76 121 [66,75],zmv 57 76,zex 77 57 0,zex 78 57 1,zmv 9 77,zmv 10 78] []),(.reg [zfa 79 7 0,zld 80 79 1,zmv 81 9,zop 82 (.bsl 3 [TI] [81]),zop 83 (.app 80 82 3 [TI]),zfa 84 7 0,zst 84 83 1]),(.reg [zfa 85 5 2,zld 86 85 1,zmv 87 86,.grp 87 false [zmv 88 10] 89 88,zfa 90 5 2,zst 90 89 1])])),(.reg [zmv 55 8,zbi 56 .add 55 (zki 1),zmv 8 56])])
def QAa:List (Nat × Md):=[(2,.b [.d,.d,.d]),(3,.b [.d,.d,.d]),(4,.b [.d,.d,.d]),(5,.b [.f,.d,.d]),(6,.one .d),(7,.b [.o 3]),(8,.one .d)]
def Qvk:TCode :=
 (.reg [zfa 91 5 0,zld 92 91 1,zLd 93 7 1,zop 94 (.bsl 129 [(.sl [TI])] [93]),zop 95 (.app 92 94 129 [(.sl [TI])]),zfa 96 5 0,zst 96 95 1])
def QA6:TCode :=
 (.reg [zmv 32 6,zbi 33 .add 32 (zki 1),zmv 6 33])
def QpC:TCode :=
 (zsq [(zsq [(.reg [zmv 20 6,zfa 21 2 0,zld 22 21 1,zle 23 22,zbi 24 .lss 20 23,zmv 25 24,.grp 25 true [zmv 26 6,zfa 27 3 0,zld 28 27 1,zle 29 28,zbi 30 .lss 26 29] 31 30]),(.cond 31 .skip (.exit 0))]),(.block 1 (zsq [(.reg [zop 34 (.build [(.n [TI])] []),zop 7 (.new 129 [(.n [TI])]),zst 7 34 1]),(zsq [(.reg [zmv 8 (zki 0)]),(.block 2 (.loop QAa QA2))]),Qvk])),QA6])
def Qi6:List (Nat × Md):=[(2,.b [.d,.d,.d]),(3,.b [.d,.d,.d]),(4,.b [.d,.d,.d]),(5,.b [.o 129,.d,.d]),(6,.one .d)]
def QuE:TCode :=
 (zsq [(.reg [zfa 98 2 1,zld 99 98 1,zfa 100 3 1,zld 101 100 1,zca 102 121 [99,101],zmv 97 102,zex 103 97 0,zex 104 97 1,zmv 11 103,zmv 12 104]),(.reg [zmv 105 11,zfa 106 5 1,zst 106 105 1]),(.reg [zfa 107 5 2,zld 108 107 1,zmv 109 108,.grp 109 false [zmv 110 12] 111 110,zfa 112 5 2,zst 112 111 1]),(.reg [zLd 113 5 3,zst 4 113 3]),.ret])
def QVn:TCode :=
 (zsq [(.reg [zop 2 (.box 46 0 3),zop 3 (.box 46 1 3),zop 4 (.new 46 (z0s Zk))]),(.reg [zfa 13 2 2,zld 14 13 1,zmv 15 14,.grp 15 false [zfa 16 3 2,zld 17 16 1] 18 17,zop 19 (.build (z0s Zk) [(2,1,18)]),zop 5 (.new 46 (z0s Zk)),zst 5 19 3]),(zsq [(.reg [zmv 6 (zki 0)]),(.block 0 (.loop Qi6 QpC))]),QuE])
def QwL:List (ARv × Md):=[(.l 4 3 true,.b [.d,.d,.d])]
def Qts:Qb:=TQ 0 0 QwL K
def QPN:Qb:=Qseq (tawp Qc8 0 QuE (Qts K)) (Qts K)
def Qob:Qb:=Qblk 0 (QPN K)
def Qvp:Qb:=Qseq (fun s'=>Loop Qc8 0 Qi6 QpC (Qob K) (gc 0 Qi6 s')) (Qob K)
def QYU:Qb:=Qseq (tawp Qc8 0 QA6 (Qvp K)) (Qvp K)
def Qrg:Qb:=Qblk 1 (QYU K)
def QTl:Qb:=Qseq (tawp Qc8 0 Qvk (Qrg K)) (Qrg K)
def QHl:Qb:=Qblk 2 (QTl K)
def Qio (a:QZ) (b:QZ) (k:Int) (g2:Bool) (row0:List Int) (i:Int) (g01:List (List Int)):Prop:=Loop Qc8 0 QAa QA2 (QHl K) ⟨[(2,(.p 0 0 0)),(3,(.p 1 0 0)),(4,(.p 2 0 0)),(5,(.p 4 0 0)),(6,(zci i)),(7,(.p 6 0 0)),(8,(zci k))],[(0,(.box (Tup.cells Zk a))),(1,(.box (Tup.cells Zk b))),(2,(.box (Tup.cells Zk ([],(0:Int),false)))),(3,(.sl 129 [(.sl [TI])] true g01)),(4,(.box [(.r [(.sl [TI])] 3 0 g01.length),(zci 0),(zcb g2)])),(5,(.sl 3 [TI] true row0)),(6,(.box [(.r [TI] 5 0 row0.length)]))],7⟩
def QhO (a:QZ) (b:QZ) (i:Int) (g0:List (List Int)) (g21:Bool):Prop:=Loop Qc8 0 Qi6 QpC (Qob K) ⟨[(2,(.p 0 0 0)),(3,(.p 1 0 0)),(4,(.p 2 0 0)),(5,(.p 4 0 0)),(6,(zci i))],[(0,(.box (Tup.cells Zk a))),(1,(.box (Tup.cells Zk b))),(2,(.box (Tup.cells Zk ([],(0:Int),false)))),(3,(.sl 129 [(.sl [TI])] true g0)),(4,(.box [(.r [(.sl [TI])] 3 0 g0.length),(zci 0),(zcb g21)]))],5⟩
theorem Qx4 (a:QZ) (b:QZ) (k:Int) (g2:Bool) (row0:List Int) (i:Int) (g01:List (List Int)) (h :
 ((((0:Int)≤i∧Int.toNat i<(a.1).length)∧((decide (k<((gtd ([]:List Int) a.1 (Int.toNat i)).length:Int)))=true→((0:Int)≤i∧Int.toNat i<(b.1).length)))∧(zif ((decide (k<((gtd ([]:List Int) a.1 (Int.toNat i)).length:Int)))&&(decide (k<((gtd ([]:List Int) b.1 (Int.toNat i)).length:Int)))) ((((0:Int)≤i∧Int.toNat i<(a.1).length)∧(((0:Int)≤k∧Int.toNat k<(gtd ([]:List Int) a.1 (Int.toNat i)).length)∧(((0:Int)≤i∧Int.toNat i<(b.1).length)∧((0:Int)≤k∧Int.toNat k<(gtd ([]:List Int) b.1 (Int.toNat i)).length))))∧(((row0.length=row0.length∨row0.length+1≤row0.length)∧row0.length+1≤big)∧(Qio K a b (w64 (k+(1:Int))) (g2||((Q4 (gtd (0:Int) (gtd ([]:List Int) a.1 (Int.toNat i)) (Int.toNat k)) (gtd (0:Int) (gtd ([]:List Int) b.1 (Int.toNat i)) (Int.toNat k))).2)) (List.take (row0.length+1) ((List.take row0.length row0)++([(Q4 (gtd (0:Int) (gtd ([]:List Int) a.1 (Int.toNat i)) (Int.toNat k)) (gtd (0:Int) (gtd ([]:List Int) b.1 (Int.toNat i)) (Int.toNat k))).1]))) i (List.take g01.length g01)))) (((g01.length=g01.length∨g01.length+1≤g01.length)∧g01.length+1≤big)∧(QhO K a b (w64 (i+(1:Int))) (List.take (g01.length+1) ((List.take g01.length g01)++([(List.take row0.length (List.drop 0 row0))]))) g2))))):Qio K a b k g2 row0 i g01 :=
 Loop.of (by kernel_rfl) h
theorem QmD (a:QZ) (b:QZ) (i:Int) (g0:List (List Int)) (g21:Bool) (h :
 (zif ((decide (i<((a.1).length:Int)))&&(decide (i<((b.1).length:Int)))) (Qio K a b 0 g21 ([]:List Int) i (List.take g0.length g0)) (K (QaT ((List.take g0.length (List.drop 0 g0)),(Q4 a.2.1 b.2.1).1,(g21||((Q4 a.2.1 b.2.1).2))))))):QhO K a b i g0 g21 :=
 Loop.of (by kernel_rfl) h
theorem QTN (a:QZ) (b:QZ) (h :
 (QhO K a b 0 ([]:List (List Int)) (a.2.2||b.2.2))):Hold (tawp Qc8 (0+0) QVn (TQ 0 0 QwL K) (Qg [(.a (Tup.cells Zk a)),(.a (Tup.cells Zk b))])) :=
 Hold.of (by kernel_rfl) h
theorem QWJ (a:QZ) (b:QZ) (hp:ZZ (α:=QZ) (β:=QZ) a b):TCon Tryz.prog 89 [(.a (Tup.cells Zk a)),(.a (Tup.cells Zk b))] (QaT (Z7 a b)):=by
 refine Qo rfl fun hb=>tcg (n:=114) (sg:=Qls.sg) Qm (TOk.cons QgO TOk.nil) (by kernel_rfl) (by kernel_rfl) (QTN _ a b ?_)
 have hl_a_0:(a.1).length≤9223372036854775807:=hb.1.1.1
 have hl_b_0:(b.1).length≤9223372036854775807:=hb.2.1.1.1
 unfold ZZ at hp
 simp only [ZP,ZF,JP] at hp
 have ha:=YF a.1
 refine Zp a.1 (fun r k=>∀ (v:List (List Int)) (z:Bool),v.length=k→v++(ZD r (b.1.drop k)).1=(ZD a.1 b.1).1→(z||(ZD r (b.1.drop k)).2)=(a.2.2||b.2.2||(ZD a.1 b.1).2)→QhO (fun r'=>r'=QaT (Z7 a b)) a b k v z) ?_ ?_ [] _ rfl (by simp) (by simp)
 ·intro v z hv he hz
  refine QmD (fun r'=>r'=QaT (Z7 a b)) a b _ _ _ ⟨fun h=>by simp at h,fun _=>R_eq ?_⟩
  unfold Z7;rw [← he,← hz];simp [ZD]
 ·intro k x r hk hlt hg ih v z hv he hz
  by_cases hkb:k<b.1.length
  ·obtain ⟨y,q,hq⟩:=Jl (l:=b.1) (k:=k) hkb
   have hx:=Qgi hk
   have hxl:=ZS x
   refine QmD (fun r'=>r'=QaT (Z7 a b)) a b _ _ _ ⟨fun _=>?_,fun h=>by simp at h;omega⟩
   rw [List.take_length]
   refine Zp x (fun r2 j=>∀ (w:List Int) (z2:Bool),w.length=j→w++(vz Q4 r2 (y.drop j)).1=(vz Q4 x y).1→(z2||(vz Q4 r2 (y.drop j)).2)=(z||(vz Q4 x y).2)→Qio (fun r'=>r'=QaT (Z7 a b)) a b j z2 w k v) ?_ ?_ [] z rfl (by simp) (by simp)
   ·intro w z2 hw he2 hz2
    refine Qx4 (fun r'=>r'=QaT (Z7 a b)) a b _ _ _ _ _ ?_
    rw [Int.toNat_natCast,hg,Yb hq]
    refine ⟨⟨⟨by omega,hlt⟩,fun h=>by simp at h⟩,fun h=>by simp at h,fun _=>⟨room (by omega),?_⟩⟩
    rw [JI,sc1 (by omega),Q8]
    simp only [vz,List.append_nil,Bool.or_false] at he2 hz2
    refine ih _ _ (YQ hv) ?_ ?_
    ·rw [← he,hq,ZD,ZY hq,he2];simp
    ·rw [← hz,hq,ZD,ZY hq,hz2];simp [Bool.or_assoc]
   ·intro j e r2 hj hlt2 hg2 ih2 w z2 hw he2 hz2
    refine Qx4 (fun r'=>r'=QaT (Z7 a b)) a b _ _ _ _ _ ?_
    rw [Int.toNat_natCast,Int.toNat_natCast,hg,Yb hq]
    by_cases hjy:j<y.length
    ·obtain ⟨f,q2,hq2⟩:=Jl (l:=y) (k:=j) hjy
     refine ⟨⟨⟨by omega,hlt⟩,fun _=>⟨by omega,hkb⟩⟩,fun _=>?_,fun h=>by simp at h;omega⟩
     rw [hg2,Yb hq2,sc1 (by omega),Q8,List.take_length]
     refine ⟨⟨⟨by omega,hlt⟩,⟨by omega,hlt2⟩,⟨by omega,hkb⟩,by omega,hjy⟩,room (by omega),ih2 _ _ (YQ hw) ?_ ?_⟩
     ·rw [← he2,hq2,vz,ZY hq2];simp
     ·rw [← hz2,hq2,vz,ZY hq2];simp [Bool.or_assoc]
    ·refine ⟨⟨⟨by omega,hlt⟩,fun _=>⟨by omega,hkb⟩⟩,fun h=>by simp at h;omega,fun _=>⟨room (by omega),?_⟩⟩
     rw [JI,sc1 (by omega),Q8]
     rw [QhX (l:=y) (by omega)] at he2 hz2
     simp only [vz,List.append_nil,Bool.or_false] at he2 hz2
     refine ih _ _ (YQ hv) ?_ ?_
     ·rw [← he,hq,ZD,ZY hq,he2];simp
     ·rw [← hz,hq,ZD,ZY hq,hz2];simp [Bool.or_assoc]
  ·refine QmD (fun r'=>r'=QaT (Z7 a b)) a b _ _ _ ⟨fun h=>by simp at h;omega,fun _=>R_eq ?_⟩
   unfold Z7;rw [← he,← hz,QhX (l:=b.1) (by omega)];simp [ZD]
theorem QNR:Qj Tryz.prog Qls:=Qn fun x h=>QWJ x.1 x.2.1 h
def Qdo (t:QZ):TRes:=zra (.a (Tup.cells Zk t))
def QmL:TRow:=Qk 84 [(.a Zk),(.a Zk)] fun x=>(some (ZZ (α:=QZ) (β:=QZ) x.1 x.2.1),Qdo (Z7 x.1 x.2.1))
def Qnj:List TRow:=[QoJ,Qdp]
def Qyx:TCode :=
 (zsq [(zsq [(.reg [zmv 18 6,zfa 19 2 0,zld 20 19 1,zle 21 20,zbi 22 .lss 18 21,zmv 23 22,.grp 23 true [zmv 24 6,zfa 25 3 0,zld 26 25 1,zle 27 26,zbi 28 .lss 24 27] 29 28]),(.cond 29 .skip (.exit 0))]),(.block 1 (zsq [(.draw [zfa 33 2 0,zld 34 33 1,zmv 35 6,zia 36 34 35 [(.sl [TI])],zfa 37 36 0,zld 38 37 1,zfa 39 3 0,zld 40 39 1,zmv 41 6,zia 42 40 41 [(.sl [TI])],zfa 43 42 0,zld 44 43 1,zca 45 161 [38,44],zmv 32 45,zex 46 32 0,zex 47 32 1,zmv 7 46,zmv 8 47] []),(.reg [zfa 48 5 0,zld 49 48 1,zmv 50 7,zop 51 (.build [(.n [TI])] [(0,1,50)]),zop 52 (.bsl 129 [(.sl [TI])] [51]),zop 53 (.app 49 52 129 [(.sl [TI])]),zfa 54 5 0,zst 54 53 1]),(.reg [zfa 55 5 2,zld 56 55 1,zmv 57 56,.grp 57 false [zmv 58 8] 59 58,zfa 60 5 2,zst 60 59 1])])),(.reg [zmv 30 6,zbi 31 .add 30 (zki 1),zmv 6 31])])
def QC7:List (Nat × Md):=[(2,.b [.d,.d,.d]),(3,.b [.d,.d,.d]),(4,.b [.d,.d,.d]),(5,.b [.o 129,.d,.d]),(6,.one .d)]
def QA9:TCode :=
 (zsq [(.reg [zfa 62 2 1,zld 63 62 1,zfa 64 3 1,zld 65 64 1,zca 66 162 [63,65],zmv 61 66,zex 67 61 0,zex 68 61 1,zmv 9 67,zmv 10 68]),(.reg [zmv 69 9,zfa 70 5 1,zst 70 69 1]),(.reg [zfa 71 5 2,zld 72 71 1,zmv 73 72,.grp 73 false [zmv 74 10] 75 74,zfa 76 5 2,zst 76 75 1]),(.reg [zLd 77 5 3,zst 4 77 3]),.ret])
def QKD:TCode :=
 (zsq [(.reg [zop 2 (.box 46 0 3),zop 3 (.box 46 1 3),zop 4 (.new 46 (z0s Zk))]),(.reg [zfa 11 2 2,zld 12 11 1,zmv 13 12,.grp 13 false [zfa 14 3 2,zld 15 14 1] 16 15,zop 17 (.build (z0s Zk) [(2,1,16)]),zop 5 (.new 46 (z0s Zk)),zst 5 17 3]),(zsq [(.reg [zmv 6 (zki 0)]),(.block 0 (.loop QC7 Qyx))]),QA9])
def QBU:List (ARv × Md):=[(.l 4 3 true,.b [.d,.d,.d])]
def QDy:Qb:=TQ 0 0 QBU K
def QNt:Qb:=Qseq (tawp Qnj 0 QA9 (QDy K)) (QDy K)
def QJn:Qb:=Qblk 0 (QNt K)
def QiG (a:QZ) (b:QZ) (i:Int) (g0:List (List Int)) (g2:Bool):Prop:=Loop Qnj 0 QC7 Qyx (QJn K) ⟨[(2,(.p 0 0 0)),(3,(.p 1 0 0)),(4,(.p 2 0 0)),(5,(.p 4 0 0)),(6,(zci i))],[(0,(.box (Tup.cells Zk a))),(1,(.box (Tup.cells Zk b))),(2,(.box (Tup.cells Zk ([],(0:Int),false)))),(3,(.sl 129 [(.sl [TI])] true g0)),(4,(.box [(.r [(.sl [TI])] 3 0 g0.length),(zci 0),(zcb g2)]))],5⟩
theorem QnH (a:QZ) (b:QZ) (i:Int) (g0:List (List Int)) (g2:Bool) (h :
 (zif ((decide (i<((a.1).length:Int)))&&(decide (i<((b.1).length:Int)))) ((((0:Int)≤i∧Int.toNat i<(a.1).length)∧(((0:Int)≤i∧Int.toNat i<(b.1).length)∧(ZZ (α:=List Int) (β:=List Int) (gtd ([]:List Int) a.1 (Int.toNat i)) (gtd ([]:List Int) b.1 (Int.toNat i)))))∧(((g0.length=g0.length∨g0.length+1≤g0.length)∧g0.length+1≤big)∧(QiG K a b (w64 (i+(1:Int))) (List.take (g0.length+1) ((List.take g0.length g0)++([(J3 (gtd ([]:List Int) a.1 (Int.toNat i)) (gtd ([]:List Int) b.1 (Int.toNat i))).1]))) (g2||((J3 (gtd ([]:List Int) a.1 (Int.toNat i)) (gtd ([]:List Int) b.1 (Int.toNat i))).2))))) (K (Qdo ((List.take g0.length (List.drop 0 g0)),(Q4 a.2.1 b.2.1).1,(g2||((Q4 a.2.1 b.2.1).2))))))):QiG K a b i g0 g2 :=
 Loop.of (by kernel_rfl) h
theorem QKf (a:QZ) (b:QZ) (h :
 (QiG K a b 0 ([]:List (List Int)) (a.2.2||b.2.2))):Hold (tawp Qnj (0+0) QKD (TQ 0 0 QBU K) (Qg [(.a (Tup.cells Zk a)),(.a (Tup.cells Zk b))])) :=
 Hold.of (by kernel_rfl) h
theorem QRR (a:QZ) (b:QZ) (hp:ZZ (α:=QZ) (β:=QZ) a b):TCon Tryz.prog 84 [(.a (Tup.cells Zk a)),(.a (Tup.cells Zk b))] (Qdo (Z7 a b)):=by
 refine Qo rfl fun hb=>tcg (n:=78) (sg:=QmL.sg) Qm (TOk.cons QRk (TOk.cons Qfd TOk.nil)) (by kernel_rfl) (by kernel_rfl) (QKf _ a b ?_)
 have hl_a_0:(a.1).length≤9223372036854775807:=hb.1.1.1
 have hl_b_0:(b.1).length≤9223372036854775807:=hb.2.1.1.1
 unfold ZZ at hp
 simp only [ZP,ZF,JP] at hp
 have ha:=YF a.1
 refine Zp a.1 (fun r k=>∀ (v:List (List Int)) (z:Bool),v.length=k→v++(ZD r (b.1.drop k)).1=(ZD a.1 b.1).1→(z||(ZD r (b.1.drop k)).2)=(a.2.2||b.2.2||(ZD a.1 b.1).2)→QiG (fun r'=>r'=Qdo (Z7 a b)) a b k v z) ?_ ?_ [] _ rfl (by simp) (by simp)
 ·intro v z hv he hz
  refine QnH (fun r'=>r'=Qdo (Z7 a b)) a b _ _ _ ⟨fun h=>by simp at h,fun _=>R_eq ?_⟩
  unfold Z7;rw [← he,← hz];simp [ZD]
 ·intro k x r hk hlt hg ih v z hv he hz
  by_cases hkb:k<b.1.length
  ·obtain ⟨y,q,hq⟩:=Jl (l:=b.1) (k:=k) hkb
   have hx:=Qgi hk
   have hy:=Qgi hq
   refine QnH (fun r'=>r'=Qdo (Z7 a b)) a b _ _ _ ⟨fun _=>?_,fun h=>by simp at h;omega⟩
   rw [Int.toNat_natCast,hg,Yb hq,sc1 (by omega),Q8]
   refine ⟨⟨⟨by omega,hlt⟩,⟨by omega,hkb⟩,by unfold ZZ;omega⟩,room (by omega),ih _ _ (YQ hv) ?_ ?_⟩
   ·rw [← he,hq,ZD,ZY hq];simp [J3]
   ·rw [← hz,hq,ZD,ZY hq];simp [J3,Bool.or_assoc]
  ·refine QnH (fun r'=>r'=Qdo (Z7 a b)) a b _ _ _ ⟨fun h=>by simp at h;omega,fun _=>R_eq ?_⟩
   unfold Z7;rw [← he,← hz,QhX (l:=b.1) (by omega)];simp [ZD]
theorem QHd:Qj Tryz.prog QmL:=Qn fun x h=>QRR x.1 x.2.1 h
end
end Go.Proofs.YtjbdljkhbglnhaaGreat.Am

