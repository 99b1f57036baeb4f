/- -/
import Derived.Test.YtjbdljkhbglnhaaGreatZDPF
import Derived.Test.YtjbdljkhbglnhaaGreatZDP4
namespace Go.Proofs.YtjbdljkhbglnhaaGreat.Am
open Go Go.RowKit Go.Proofs.YtjbdljkhbglnhaaGreat
set_option linter.all false
noncomputable section
variable (K:TRes→Prop)
def QcV (t:(List TOp')):TRes:=zra (zcs ctOp t)
def QmT:TRow:=Qj 151 [(.c (.sl ctOp))] fun x=>(some (Qu (α:=List TOp') x.1),QcV (id (α:=List TOp') x.1))
def Qp9:List TRow:=[Qaw]
def Qz9:TCode :=
 (zsq [(.reg [zbi 10 .lss 9 8]),(.cond 10 .skip (.exit 0)),(.block 1 (zsq [(.reg [zia 11 7 9 ctOp,zLd 12 11 4,zop 5 (.new 69 (z0s ctOp)),zst 5 12 4]),(.draw [zmv 13 3,zfa 14 5 0,zld 15 14 1,zfa 16 5 1,zld 17 16 1,zfa 18 5 2,zld 19 18 1,zfa 20 5 3,zld 21 20 1,zca 22 119 [21],zop 23 (.build (z0s ctOp) [(0,1,15),(1,1,17),(2,1,19),(3,1,22)]),zop 24 (.bsl 69 ctOp [23]),zop 25 (.app 13 24 69 ctOp),zmv 3 25] [(1,9),(2,9),(3,9),(4,9),(5,9),(6,9)])])),(.reg [zbi 26 .add 9 (zki 1),zmv 9 26])])
def Qy1:List (Nat × Md):=[(3,.one .f),(7,.one .d),(8,.one .d),(9,.one .d)]
def Qww:TCode :=
 (zsq [(.reg [zmv 27 3,zmv 2 27]),.ret])
def QGo:TCode :=
 (zsq [(.reg [zmv 2 (.k (.n ctOp))]),(.reg [zop 6 (.bsl 69 ctOp []),zmv 3 6]),(zsq [(.reg [zmv 7 0,zle 8 7,zmv 9 (zki 0)]),(.block 0 (.loop Qy1 Qz9))]),Qww])
def QEd:List (ARv × Md):=[(.t 2,.one .d)]
def QDn:Qb:=TQ 0 0 QEd K
def QHT:Qb:=Qseq (tawp Qp9 0 Qww (QDn K)) (QDn K)
def QI8:Qb:=Qblk 0 (QHT K)
def Qpd (l:List TOp') (x:Int) (ops:List TOp'):Prop:=Loop Qp9 0 Qy1 Qz9 (QI8 K) ⟨[(3,(.r ctOp 0 0 ops.length)),(7,(zcs ctOp l)),(8,(zci (l.length:Int))),(9,(zci x))],[(0,(.sl 69 ctOp true ops))],1⟩
theorem QrD (l:List TOp') (x:Int) (ops:List TOp') (h :
 (zif (decide (x<(l.length:Int))) (((0:Int)≤x∧Int.toNat x<l.length)∧(((Qu (α:=List Int) ((gtd dOp l (Int.toNat x)).2.2.2))∧((ops.length=ops.length∨ops.length+1≤ops.length)∧ops.length+1≤big))∧(Qpd K l (w64 (x+(1:Int))) (List.take (ops.length+1) ((List.take ops.length ops)++([((gtd dOp l (Int.toNat x)).1,(gtd dOp l (Int.toNat x)).2.1,(gtd dOp l (Int.toNat x)).2.2.1,(List.take ((id (α:=List Int) ((gtd dOp l (Int.toNat x)).2.2.2)).length) (List.drop 0 (id (α:=List Int) ((gtd dOp l (Int.toNat x)).2.2.2)))))])))))) (K (QcV (List.take ops.length (List.drop 0 ops)))))):Qpd K l x ops :=
 Loop.of (by kernel_rfl) h
theorem QK2 (l:List TOp') (h :
 (Qpd K l 0 ([]:List TOp'))):Hold (tawp Qp9 (0+0) QGo (TQ 0 0 QEd K) (Qh [(.c (.sl ctOp) l)])) :=
 Hold.of (by kernel_rfl) h
theorem QPX (l:List TOp') (hp:Qu (α:=List TOp') l):TCon Tryz.prog 151 [(.c (.sl ctOp) l)] (QcV (id (α:=List TOp') l)):=by
 refine Qo rfl fun hb=>tcg (n:=28) (sg:=QmT.sg) Ql (TOk.cons Qa7 TOk.nil) (by kernel_rfl) (by kernel_rfl) (QK2 _ l ?_)
 have hl_l:l.length≤9223372036854775807:=hb.1.1
 refine Jj (Q:=fun z=>QcV z=QcV (id (α:=List TOp') l)) hp (fun k x v hk hl hg hv hx ih=>?_) (fun hq=>?_) (R_eq rfl)
 ·refine QrD (fun r'=>r'=QcV (id (α:=List TOp') l)) l _ _ ⟨fun _=>?_,fun h=>by simp at h;omega⟩
  try simp only [ZQ,ZE,JP] at hx
  rw [Int.toNat_natCast,hg,sc1 (by omega),Za,Qel]
  exact ⟨⟨by omega,hk⟩,⟨(show Sz.sz (_:List Int)≤2147483648 by omega),room (by omega)⟩,ih⟩
 ·refine QrD (fun r'=>r'=QcV (id (α:=List TOp') l)) l _ _ ⟨fun h=>by simp at h,fun _=>?_⟩
  exact R_eq (by simp)
theorem QMW:Qi Tryz.prog QmT:=Qm fun x h=>QPX x.1 h
def Qdg (t:(List (List Int))):TRes:=zra (zcs [(.sl [TI])] t)
def QfZ:TRow:=Qj 86 [(.c (.sl [(.sl [TI])]))] fun x=>(some (Qu (α:=List (List Int)) x.1),Qdg (id (α:=List (List Int)) x.1))
def QoT:List TRow:=[Qaw]
def Qyc:TCode :=
 (zsq [(.reg [zbi 10 .lss 9 8]),(.cond 10 .skip (.exit 0)),(.block 1 (zsq [(.reg [zia 11 7 9 [(.sl [TI])],zLd 12 11 1,zop 5 (.new 129 [(.n [TI])]),zst 5 12 1]),(.reg [zmv 13 3,zfa 14 5 0,zld 15 14 1,zca 16 119 [15],zop 17 (.build [(.n [TI])] [(0,1,16)]),zop 18 (.bsl 129 [(.sl [TI])] [17]),zop 19 (.app 13 18 129 [(.sl [TI])]),zmv 3 19])])),(.reg [zbi 20 .add 9 (zki 1),zmv 9 20])])
def QCM:List (Nat × Md):=[(3,.one .f),(7,.one .d),(8,.one .d),(9,.one .d)]
def Qr3:TCode :=
 (zsq [(.reg [zmv 21 3,zmv 2 21]),.ret])
def QNd:TCode :=
 (zsq [(.reg [zmv 2 (.k (.n [(.sl [TI])]))]),(.reg [zop 6 (.bsl 129 [(.sl [TI])] []),zmv 3 6]),(zsq [(.reg [zmv 7 0,zle 8 7,zmv 9 (zki 0)]),(.block 0 (.loop QCM Qyc))]),Qr3])
def Qsk:List (ARv × Md):=[(.t 2,.one .d)]
def QyG:Qb:=TQ 0 0 Qsk K
def QWb:Qb:=Qseq (tawp QoT 0 Qr3 (QyG K)) (QyG K)
def QJv:Qb:=Qblk 0 (QWb K)
def Qm8 (l:List (List Int)) (x:Int) (rows:List (List Int)):Prop:=Loop QoT 0 QCM Qyc (QJv K) ⟨[(3,(.r [(.sl [TI])] 0 0 rows.length)),(7,(zcs [(.sl [TI])] l)),(8,(zci (l.length:Int))),(9,(zci x))],[(0,(.sl 129 [(.sl [TI])] true rows))],1⟩
theorem Qse (l:List (List Int)) (x:Int) (rows:List (List Int)) (h :
 (zif (decide (x<(l.length:Int))) (((0:Int)≤x∧Int.toNat x<l.length)∧(((Qu (α:=List Int) (gtd ([]:List Int) l (Int.toNat x)))∧((rows.length=rows.length∨rows.length+1≤rows.length)∧rows.length+1≤big))∧(Qm8 K l (w64 (x+(1:Int))) (List.take (rows.length+1) ((List.take rows.length rows)++([(List.take ((id (α:=List Int) (gtd ([]:List Int) l (Int.toNat x))).length) (List.drop 0 (id (α:=List Int) (gtd ([]:List Int) l (Int.toNat x)))))])))))) (K (Qdg (List.take rows.length (List.drop 0 rows)))))):Qm8 K l x rows :=
 Loop.of (by kernel_rfl) h
theorem QIE (l:List (List Int)) (h :
 (Qm8 K l 0 ([]:List (List Int)))):Hold (tawp QoT (0+0) QNd (TQ 0 0 Qsk K) (Qh [(.c (.sl [(.sl [TI])]) l)])) :=
 Hold.of (by kernel_rfl) h
theorem QTh (l:List (List Int)) (hp:Qu (α:=List (List Int)) l):TCon Tryz.prog 86 [(.c (.sl [(.sl [TI])]) l)] (Qdg (id (α:=List (List Int)) l)):=by
 refine Qo rfl fun hb=>tcg (n:=22) (sg:=QfZ.sg) Ql (TOk.cons Qa7 TOk.nil) (by kernel_rfl) (by kernel_rfl) (QIE _ l ?_)
 have hl_l:l.length≤9223372036854775807:=hb.1.1
 refine Jj (Q:=fun z=>Qdg z=Qdg (id (α:=List (List Int)) l)) hp (fun k x v hk hl hg hv hx ih=>?_) (fun hq=>?_) (R_eq rfl)
 ·refine Qse (fun r'=>r'=Qdg (id (α:=List (List Int)) l)) l _ _ ⟨fun _=>?_,fun h=>by simp at h;omega⟩
  try simp only [ZQ,ZE,JP] at hx
  rw [Int.toNat_natCast,hg,sc1 (by omega),Za,Qel]
  exact ⟨⟨by omega,hk⟩,⟨(show Sz.sz (_:List Int)≤2147483648 by omega),room (by omega)⟩,ih⟩
 ·refine Qse (fun r'=>r'=Qdg (id (α:=List (List Int)) l)) l _ _ ⟨fun h=>by simp at h,fun _=>?_⟩
  exact R_eq (by simp)
theorem QnL:Qi Tryz.prog QfZ:=Qm fun x h=>QTh x.1 h
def Qdm (t:(List Qr)):TRes:=zra (zcs QJ t)
def Qlf:TRow:=Qj 70 [(.c (.sl QJ))] fun x=>(some (Qu (α:=List Qr) x.1),Qdm (id (α:=List Qr) x.1))
def Qpq:List TRow:=[Qaw]
def QEg:TCode :=
 (zsq [(.reg [zbi 10 .lss 9 8]),(.cond 10 .skip (.exit 0)),(.block 1 (zsq [(.reg [zia 11 7 9 QJ,zLd 12 11 2,zop 5 (.new 108 (z0s QJ)),zst 5 12 2]),(.draw [zmv 13 3,zfa 14 5 0,zld 15 14 1,zca 16 119 [15],zfa 17 5 1,zld 18 17 1,zca 19 119 [18],zop 20 (.build (z0s QJ) [(0,1,16),(1,1,19)]),zop 21 (.bsl 108 QJ [20]),zop 22 (.app 13 21 108 QJ),zmv 3 22] [(3,4),(3,5)])])),(.reg [zbi 23 .add 9 (zki 1),zmv 9 23])])
def QDw:List (Nat × Md):=[(3,.one .f),(7,.one .d),(8,.one .d),(9,.one .d)]
def Qwo:TCode :=
 (zsq [(.reg [zmv 24 3,zmv 2 24]),.ret])
def QVe:TCode :=
 (zsq [(.reg [zmv 2 (.k (.n QJ))]),(.reg [zop 6 (.bsl 108 QJ []),zmv 3 6]),(zsq [(.reg [zmv 7 0,zle 8 7,zmv 9 (zki 0)]),(.block 0 (.loop QDw QEg))]),Qwo])
def QAM:List (ARv × Md):=[(.t 2,.one .d)]
def QD7:Qb:=TQ 0 0 QAM K
def QNy:Qb:=Qseq (tawp Qpq 0 Qwo (QD7 K)) (QD7 K)
def QJU:Qb:=Qblk 0 (QNy K)
def Qmk (b:List Qr) (x:Int) (YD:List Qr):Prop:=Loop Qpq 0 QDw QEg (QJU K) ⟨[(3,(.r QJ 0 0 YD.length)),(7,(zcs QJ b)),(8,(zci (b.length:Int))),(9,(zci x))],[(0,(.sl 108 QJ true YD))],1⟩
theorem QwN (b:List Qr) (x:Int) (YD:List Qr) (h :
 (zif (decide (x<(b.length:Int))) (((0:Int)≤x∧Int.toNat x<b.length)∧(((Qu (α:=List Int) ((gtd QY b (Int.toNat x)).1))∧((Qu (α:=List Int) ((gtd QY b (Int.toNat x)).2))∧((YD.length=YD.length∨YD.length+1≤YD.length)∧YD.length+1≤big)))∧(Qmk K b (w64 (x+(1:Int))) (List.take (YD.length+1) ((List.take YD.length YD)++([((List.take ((id (α:=List Int) ((gtd QY b (Int.toNat x)).1)).length) (List.drop 0 (id (α:=List Int) ((gtd QY b (Int.toNat x)).1)))),(List.take ((id (α:=List Int) ((gtd QY b (Int.toNat x)).2)).length) (List.drop 0 (id (α:=List Int) ((gtd QY b (Int.toNat x)).2)))))])))))) (K (Qdm (List.take YD.length (List.drop 0 YD)))))):Qmk K b x YD :=
 Loop.of (by kernel_rfl) h
theorem QUq (b:List Qr) (h :
 (Qmk K b 0 ([]:List Qr))):Hold (tawp Qpq (0+0) QVe (TQ 0 0 QAM K) (Qh [(.c (.sl QJ) b)])) :=
 Hold.of (by kernel_rfl) h
theorem QHK (b:List Qr) (hp:Qu (α:=List Qr) b):TCon Tryz.prog 70 [(.c (.sl QJ) b)] (Qdm (id (α:=List Qr) b)):=by
 refine Qo rfl fun hb=>tcg (n:=25) (sg:=Qlf.sg) Ql (TOk.cons Qa7 TOk.nil) (by kernel_rfl) (by kernel_rfl) (QUq _ b ?_)
 have hl_b:b.length≤9223372036854775807:=hb.1.1
 refine Jj (Q:=fun z=>Qdm z=Qdm (id (α:=List Qr) b)) hp (fun k x v hk hl hg hv hx ih=>?_) (fun hq=>?_) (R_eq rfl)
 ·refine QwN (fun r'=>r'=Qdm (id (α:=List Qr) b)) b _ _ ⟨fun _=>?_,fun h=>by simp at h;omega⟩
  try simp only [ZQ,ZE,JP] at hx
  rw [Int.toNat_natCast,hg,sc1 (by omega),Za,Qel,Qel]
  exact ⟨⟨by omega,hk⟩,⟨(show Sz.sz (_:List Int)≤2147483648 by omega),(show Sz.sz (_:List Int)≤2147483648 by omega),room (by omega)⟩,ih⟩
 ·refine QwN (fun r'=>r'=Qdm (id (α:=List Qr) b)) b _ _ ⟨fun h=>by simp at h,fun _=>?_⟩
  exact R_eq (by simp)
theorem QMJ:Qi Tryz.prog Qlf:=Qm fun x h=>QHK x.1 h
def Qqo (t:Q2):TRes:=zra (.a (Tup.cells Zk t))
def Qnx:TRow:=Qj 184 [(.a Zk)] fun x=>(some (Qu (α:=Q2) x.1),Qqo (id (α:=Q2) x.1))
def QKc:List TRow:=[QfZ]
def QL1:TCode :=
 (zsq [(.reg [zop 1 (.box 46 0 3),zop 2 (.new 46 (z0s Zk))]),(.draw [zfa 3 1 0,zld 4 3 1,zca 5 86 [4],zfa 6 1 1,zld 7 6 1,zfa 8 1 2,zld 9 8 1,zop 10 (.build (z0s Zk) [(0,1,5),(1,1,7),(2,1,9)]),zst 2 10 3] [(2,3),(2,4),(2,5),(2,6)]),.ret])
def QLu:List (ARv × Md):=[(.l 2 3 true,.b [.d,.d,.d])]
theorem QFM (g:Q2) (h :
 ((Qu (α:=List (List Int)) g.1)∧K (Qqo ((id (α:=List (List Int)) g.1),g.2.1,g.2.2)))):Hold (tawp QKc (0+0) QL1 (TQ 0 0 QLu K) (Qh [(.a (Tup.cells Zk g))])) :=
 Hold.of (by kernel_rfl) h
theorem QLW (g:Q2) (hp:Qu (α:=Q2) g):TCon Tryz.prog 184 [(.a (Tup.cells Zk g))] (Qqo (id (α:=Q2) g)):=by
 refine Qo rfl fun hb=>tcg (n:=11) (sg:=Qnx.sg) Ql (TOk.cons QnL TOk.nil) (by kernel_rfl) (by kernel_rfl) (QFM _ g ?_)
 have hl_g_0:(g.1).length≤9223372036854775807:=hb.1.1.1
 unfold Qu at hp
 simp only [ZQ,ZE,JP] at hp
 exact ⟨hp,R_eq rfl⟩
theorem QVA:Qi Tryz.prog Qnx:=Qm fun x h=>QLW x.1 h
def Qc4 (t:(List TOp')):TRes:=zra (zcs ctOp t)
def Qj7:TRow:=Qj 176 [(.c (.sl ctOp))] fun x=>(some (Qu (α:=List TOp') x.1),Qc4 (id (α:=List TOp') x.1))
def QnW:List TRow:=[]
def Qu1:TCode :=
 (zsq [(zsq [(.reg [zmv 7 4,zmv 8 0,zle 9 8,zbi 10 .lss 7 9]),(.cond 10 .skip (.exit 0))]),(.block 1 (zsq [(.reg [zmv 13 0,zmv 14 4,zia 15 13 14 ctOp,zLd 16 15 4,zop 5 (.new 69 (z0s ctOp)),zst 5 16 4]),(.reg [zop 17 (.bsl 3 [TI] []),zmv 18 0,zmv 19 4,zia 20 18 19 ctOp,zfa 21 20 3,zld 22 21 1,zop 23 (.app 17 22 3 [TI]),zfa 24 5 3,zst 24 23 1]),(.reg [zmv 25 3,zLd 26 5 4,zop 27 (.bsl 69 ctOp [26]),zop 28 (.app 25 27 69 ctOp),zmv 3 28])])),(.reg [zmv 11 4,zbi 12 .add 11 (zki 1),zmv 4 12])])
def QDY:List (Nat × Md):=[(0,.one .d),(3,.one .f),(4,.one .d)]
def Qwg:TCode :=
 (zsq [(.reg [zmv 29 3,zmv 2 29]),.ret])
def QK7:TCode :=
 (zsq [(.reg [zmv 2 (.k (.n ctOp))]),(.reg [zop 6 (.bsl 69 ctOp []),zmv 3 6]),(zsq [(.reg [zmv 4 (zki 0)]),(.block 0 (.loop QDY Qu1))]),Qwg])
def QCv:List (ARv × Md):=[(.t 2,.one .d)]
def Qt0:Qb:=TQ 0 0 QCv K
def QNu:Qb:=Qseq (tawp QnW 0 Qwg (Qt0 K)) (Qt0 K)
def QPI:Qb:=Qblk 0 (QNu K)
def QmS (l:List TOp') (i:Int) (out:List TOp'):Prop:=Loop QnW 0 QDY Qu1 (QPI K) ⟨[(0,(zcs ctOp l)),(3,(.r ctOp 0 0 out.length)),(4,(zci i))],[(0,(.sl 69 ctOp true out))],1⟩
theorem Qxr (l:List TOp') (i:Int) (out:List TOp') (h :
 (zif (decide (i<(l.length:Int))) (((0:Int)≤i∧Int.toNat i<l.length)∧((((0:Int)≤i∧Int.toNat i<l.length)∧((0=0∨0+((gtd dOp l (Int.toNat i)).2.2.2).length≤0)∧0+((gtd dOp l (Int.toNat i)).2.2.2).length≤big))∧(((out.length=out.length∨out.length+1≤out.length)∧out.length+1≤big)∧(QmS K l (w64 (i+(1:Int))) (List.take (out.length+1) ((List.take out.length out)++([((gtd dOp l (Int.toNat i)).1,(gtd dOp l (Int.toNat i)).2.1,(gtd dOp l (Int.toNat i)).2.2.1,(List.take (0+((gtd dOp l (Int.toNat i)).2.2.2).length) (List.drop 0 ((gtd dOp l (Int.toNat i)).2.2.2))))]))))))) (K (Qc4 (List.take out.length (List.drop 0 out)))))):QmS K l i out :=
 Loop.of (by kernel_rfl) h
theorem QW9 (l:List TOp') (h :
 (QmS K l 0 ([]:List TOp'))):Hold (tawp QnW (0+0) QK7 (TQ 0 0 QCv K) (Qh [(.c (.sl ctOp) l)])) :=
 Hold.of (by kernel_rfl) h
theorem QQ1 (l:List TOp') (hp:Qu (α:=List TOp') l):TCon Tryz.prog 176 [(.c (.sl ctOp) l)] (Qc4 (id (α:=List TOp') l)):=by
 refine Qo rfl fun hb=>tcg (n:=30) (sg:=Qj7.sg) Ql TOk.nil (by kernel_rfl) (by kernel_rfl) (QW9 _ l ?_)
 have hl_l:l.length≤9223372036854775807:=hb.1.1
 refine Jj (Q:=fun z=>Qc4 z=Qc4 (id (α:=List TOp') l)) hp (fun k x v hk hl hg hv hx ih=>?_) (fun hq=>?_) (R_eq rfl)
 ·refine Qxr (fun r'=>r'=Qc4 (id (α:=List TOp') l)) l _ _ ⟨fun _=>?_,fun h=>by simp at h;omega⟩
  try simp only [ZQ,ZE,JP] at hx
  rw [Int.toNat_natCast,hg,sc1 (by omega),Za,QbW]
  exact ⟨⟨by omega,hk⟩,⟨⟨by omega,hk⟩,.inl rfl,by have:=ZR x.2.2.2;rw [Q9];omega⟩,room (by omega),ih⟩
 ·refine Qxr (fun r'=>r'=Qc4 (id (α:=List TOp') l)) l _ _ ⟨fun h=>by simp at h,fun _=>?_⟩
  exact R_eq (by simp)
theorem QAh:Qi Tryz.prog Qj7:=Qm fun x h=>QQ1 x.1 h
def QcI (t:(List (List Int))):TRes:=zra (zcs [(.sl [TI])] t)
def Qor:TRow:=Qj 210 [(.c (.sl [(.sl [TI])]))] fun x=>(some (Qu (α:=List (List Int)) x.1),QcI (id (α:=List (List Int)) x.1))
def Qpf:List TRow:=[]
def Qxs:TCode :=
 (zsq [(zsq [(.reg [zmv 6 4,zmv 7 0,zle 8 7,zbi 9 .lss 6 8]),(.cond 9 .skip (.exit 0))]),(.block 1 (.reg [zmv 12 3,zop 13 (.bsl 3 [TI] []),zmv 14 0,zmv 15 4,zia 16 14 15 [(.sl [TI])],zfa 17 16 0,zld 18 17 1,zop 19 (.app 13 18 3 [TI]),zop 20 (.build [(.n [TI])] [(0,1,19)]),zop 21 (.bsl 129 [(.sl [TI])] [20]),zop 22 (.app 12 21 129 [(.sl [TI])]),zmv 3 22])),(.reg [zmv 10 4,zbi 11 .add 10 (zki 1),zmv 4 11])])
def QyL:List (Nat × Md):=[(0,.one .d),(3,.one .f),(4,.one .d)]
def QBk:TCode :=
 (zsq [(.reg [zmv 23 3,zmv 2 23]),.ret])
def QPs:TCode :=
 (zsq [(.reg [zmv 2 (.k (.n [(.sl [TI])]))]),(.reg [zop 5 (.bsl 129 [(.sl [TI])] []),zmv 3 5]),(zsq [(.reg [zmv 4 (zki 0)]),(.block 0 (.loop QyL Qxs))]),QBk])
def Qx7:List (ARv × Md):=[(.t 2,.one .d)]
def QxV:Qb:=TQ 0 0 Qx7 K
def QVy:Qb:=Qseq (tawp Qpf 0 QBk (QxV K)) (QxV K)
def QG5:Qb:=Qblk 0 (QVy K)
def QoX (l:List (List Int)) (i:Int) (out:List (List Int)):Prop:=Loop Qpf 0 QyL Qxs (QG5 K) ⟨[(0,(zcs [(.sl [TI])] l)),(3,(.r [(.sl [TI])] 0 0 out.length)),(4,(zci i))],[(0,(.sl 129 [(.sl [TI])] true out))],1⟩
theorem QrB (l:List (List Int)) (i:Int) (out:List (List Int)) (h :
 (zif (decide (i<(l.length:Int))) ((((0:Int)≤i∧Int.toNat i<l.length)∧(((0=0∨0+(gtd ([]:List Int) l (Int.toNat i)).length≤0)∧0+(gtd ([]:List Int) l (Int.toNat i)).length≤big)∧((out.length=out.length∨out.length+1≤out.length)∧out.length+1≤big)))∧(QoX K l (w64 (i+(1:Int))) (List.take (out.length+1) ((List.take out.length out)++([(List.take (0+(gtd ([]:List Int) l (Int.toNat i)).length) (List.drop 0 (gtd ([]:List Int) l (Int.toNat i))))]))))) (K (QcI (List.take out.length (List.drop 0 out)))))):QoX K l i out :=
 Loop.of (by kernel_rfl) h
theorem QPr (l:List (List Int)) (h :
 (QoX K l 0 ([]:List (List Int)))):Hold (tawp Qpf (0+0) QPs (TQ 0 0 Qx7 K) (Qh [(.c (.sl [(.sl [TI])]) l)])) :=
 Hold.of (by kernel_rfl) h
theorem QLH (l:List (List Int)) (hp:Qu (α:=List (List Int)) l):TCon Tryz.prog 210 [(.c (.sl [(.sl [TI])]) l)] (QcI (id (α:=List (List Int)) l)):=by
 refine Qo rfl fun hb=>tcg (n:=24) (sg:=Qor.sg) Ql TOk.nil (by kernel_rfl) (by kernel_rfl) (QPr _ l ?_)
 have hl_l:l.length≤9223372036854775807:=hb.1.1
 refine Jj (Q:=fun z=>QcI z=QcI (id (α:=List (List Int)) l)) hp (fun k x v hk hl hg hv hx ih=>?_) (fun hq=>?_) (R_eq rfl)
 ·refine QrB (fun r'=>r'=QcI (id (α:=List (List Int)) l)) l _ _ ⟨fun _=>?_,fun h=>by simp at h;omega⟩
  try simp only [ZQ,ZE,JP] at hx
  rw [Int.toNat_natCast,hg,sc1 (by omega),Za,QbW]
  exact ⟨⟨⟨by omega,hk⟩,⟨.inl rfl,by have:=ZR x;rw [Q9];omega⟩,room (by omega)⟩,ih⟩
 ·refine QrB (fun r'=>r'=QcI (id (α:=List (List Int)) l)) l _ _ ⟨fun h=>by simp at h,fun _=>?_⟩
  exact R_eq (by simp)
theorem QQw:Qi Tryz.prog Qor:=Qm fun x h=>QLH x.1 h
def QcK (t:Q2):TRes:=zra (.a (Tup.cells Zk t))
def QlP:TRow:=Qj 83 [(.a [(.sl ctOp)])] fun x=>(none,QcK (Yy x.1))
def Qod:List TRow:=[QaD]
def QtA:TCode :=
 (zsq [(zsq [(.reg [zmv 6 4,zfa 7 1 0,zld 8 7 1,zle 9 8,zbi 10 .lss 6 9,zmv 11 10,.grp 11 true [zLd 12 1 1,zca 13 74 [12]] 14 13]),(.cond 14 .skip (.exit 0))]),(.block 1 (.draw [zfa 17 3 0,zld 18 17 1,zfa 19 1 0,zld 20 19 1,zmv 21 4,zia 22 20 21 ctOp,zfa 23 22 3,zld 24 23 1,zle 25 24,zop 26 (.mk 3 [TI] [(zci 0)] 25),zop 27 (.build [(.n [TI])] [(0,1,26)]),zop 28 (.bsl 129 [(.sl [TI])] [27]),zop 29 (.app 18 28 129 [(.sl [TI])]),zfa 30 3 0,zst 30 29 1] [(0,9),(1,9),(0,11),(1,11)])),(.reg [zmv 15 4,zbi 16 .add 15 (zki 1),zmv 4 16])])
def QwP:List (Nat × Md):=[(1,.b [.d]),(2,.b [.d,.d,.d]),(3,.b [.o 129,.d,.d]),(4,.one .d)]
def Qrz:TCode :=
 (zsq [(.reg [zLd 31 3 3,zst 2 31 3]),.ret])
def QP1:TCode :=
 (zsq [(.reg [zop 1 (.box 26 0 1),zop 2 (.new 46 (z0s Zk))]),(.reg [zop 5 (.build (z0s Zk) []),zop 3 (.new 46 (z0s Zk)),zst 3 5 3]),(zsq [(.reg [zmv 4 (zki 0)]),(.block 0 (.loop QwP QtA))]),Qrz])
def Qyl:List (ARv × Md):=[(.l 2 3 true,.b [.d,.d,.d])]
def Qut:Qb:=TQ 0 0 Qyl K
def QP3:Qb:=Qseq (tawp Qod 0 Qrz (Qut K)) (Qut K)
def QSV:Qb:=Qblk 0 (QP3 K)
def QjW (m:List TOp') (i:Int) (g0:List (List Int)):Prop:=Loop Qod 0 QwP QtA (QSV K) ⟨[(1,(.p 0 0 0)),(2,(.p 1 0 0)),(3,(.p 3 0 0)),(4,(zci i))],[(0,(.box [(zcs ctOp m)])),(1,(.box (Tup.cells Zk ([],(0:Int),false)))),(2,(.sl 129 [(.sl [TI])] true g0)),(3,(.box [(.r [(.sl [TI])] 2 0 g0.length),(zci 0),(zcb false)]))],4⟩
theorem Qoy (m:List TOp') (i:Int) (g0:List (List Int)) (h :
 (zif ((decide (i<(m.length:Int)))&&(QU m)) ((((0:Int)≤i∧Int.toNat i<m.length)∧(((0:Int)≤(((gtd dOp m (Int.toNat i)).2.2.2).length:Int)∧(((gtd dOp m (Int.toNat i)).2.2.2).length:Int)≤big)∧((g0.length=g0.length∨g0.length+1≤g0.length)∧g0.length+1≤big)))∧(QjW K m (w64 (i+(1:Int))) (List.take (g0.length+1) ((List.take g0.length g0)++([(List.take (Int.toNat (((gtd dOp m (Int.toNat i)).2.2.2).length:Int)) (List.drop 0 (List.replicate (Int.toNat (((gtd dOp m (Int.toNat i)).2.2.2).length:Int)) (0:Int))))]))))) (K (QcK ((List.take g0.length (List.drop 0 g0)),(0:Int),false))))):QjW K m i g0 :=
 Loop.of (by kernel_rfl) h
theorem QKN (m:List TOp') (h :
 (QjW K m 0 ([]:List (List Int)))):Hold (tawp Qod (0+0) QP1 (TQ 0 0 Qyl K) (Qh [(.a [(.c (.sl ctOp) m)])])) :=
 Hold.of (by kernel_rfl) h
theorem QNz (m:List TOp'):TCon Tryz.prog 83 [(.a [(.c (.sl ctOp) m)])] (QcK (Yy m)):=by
 refine Qo rfl fun hb=>tcg (n:=32) (sg:=QlP.sg) Ql (TOk.cons QbU TOk.nil) (by kernel_rfl) (by kernel_rfl) (QKN _ m ?_)
 have hl_m_0:(m).length≤9223372036854775807:=hb.1.1.1
 by_cases hm:QU m=true
 rotate_left
 ·refine Qoy (fun r'=>r'=QcK (Yy m)) m _ _ ⟨fun h=>by simp [hm] at h,fun _=>R_eq (by unfold Yy;rw [if_neg hm];rfl)⟩
 have hl:=Yn hm
 have hv:(Yy m)=(m.map fun o=>List.replicate o.2.2.2.length (0:Int),0,false):=by unfold Yy;rw [if_pos hm]
 refine Zj m (fun r k=>∀ v:List (List Int),v.length=k→v++r.map (fun o=>List.replicate o.2.2.2.length (0:Int))=m.map (fun o=>List.replicate o.2.2.2.length (0:Int))→QjW (fun r'=>r'=QcK (Yy m)) m k v) ?_ ?_ [] rfl rfl
 ·intro v hk he
  refine Qoy (fun r'=>r'=QcK (Yy m)) m _ _ ⟨fun h=>by simp at h,fun _=>R_eq ?_⟩
  rw [hv,← he];simp
 ·intro k x r hk hlt hg ih v hvl he
  have ho:=Qng (Qm0 hm hlt)
  rw [hg] at ho
  refine Qoy (fun r'=>r'=QcK (Yy m)) m _ _ ⟨fun _=>?_,fun h=>by simp [hm] at h;omega⟩
  rw [Int.toNat_natCast,hg,sc1 (by omega),Int.toNat_natCast,Za,QHA]
  refine ⟨⟨⟨by omega,hlt⟩,⟨by omega,by rw [bigI];omega⟩,room (by omega)⟩,ih _ (YM hvl) ?_⟩
  rw [← he];simp
theorem QFU:Qi Tryz.prog QlP:=Qm fun x _=>QNz x.1
def Qcs (t:(List Int) × Bool):TRes:=zra (.tp [(zcs [TI] t.1),(zcb t.2)])
def QnI:TRow:=Qj 161 [(.c (.sl [TI])),(.c (.sl [TI]))] fun x=>(some (Z0 (α:=List Int) (β:=List Int) x.1 x.2.1),Qcs (JZ x.1 x.2.1))
def Qlx:List TRow:=[Qdi]
def QxL:TCode :=
 (zsq [(zsq [(.reg [zmv 12 8,zmv 13 0,zle 14 13,zbi 15 .lss 12 14,zmv 16 15,.grp 16 true [zmv 17 8,zmv 18 1,zle 19 18,zbi 20 .lss 17 19] 21 20]),(.cond 21 .skip (.exit 0))]),(.block 1 (zsq [(.draw [zmv 25 0,zmv 26 8,zia 27 25 26 [TI],zld 28 27 1,zmv 29 1,zmv 30 8,zia 31 29 30 [TI],zld 32 31 1,zca 33 162 [28,32],zmv 24 33,zex 34 24 0,zex 35 24 1,zmv 9 34,zmv 10 35] []),(.reg [zmv 36 6,zmv 37 9,zop 38 (.bsl 3 [TI] [37]),zop 39 (.app 36 38 3 [TI]),zmv 6 39]),(.reg [zmv 40 7,zmv 41 40,.grp 41 false [zmv 42 10] 43 42,zmv 7 43])])),(.reg [zmv 22 8,zbi 23 .add 22 (zki 1),zmv 8 23])])
def Qt1:List (Nat × Md):=[(0,.one .d),(1,.one .d),(6,.one .f),(7,.one .d),(8,.one .d)]
def QBy:TCode :=
 (zsq [(.reg [zmv 44 6,zmv 45 7,zmv 4 44,zmv 5 45]),.ret])
def QJX:TCode :=
 (zsq [(.reg [zmv 4 (.k (.n [TI])),zmv 5 (zkb false)]),(.reg [zop 11 (.bsl 3 [TI] []),zmv 6 11]),(.reg [zmv 7 (zkb false)]),(zsq [(.reg [zmv 8 (zki 0)]),(.block 0 (.loop Qt1 QxL))]),QBy])
def QyH:List (ARv × Md):=[(.t 4,.one .d),(.t 5,.one .d)]
def QEA:Qb:=TQ 0 0 QyH K
def QPD:Qb:=Qseq (tawp Qlx 0 QBy (QEA K)) (QEA K)
def QPo:Qb:=Qblk 0 (QPD K)
def QiX (a:List Int) (b:List Int) (sat:Bool) (i:Int) (out:List Int):Prop:=Loop Qlx 0 Qt1 QxL (QPo K) ⟨[(0,(zcs [TI] a)),(1,(zcs [TI] b)),(6,(.r [TI] 0 0 out.length)),(7,(zcb sat)),(8,(zci i))],[(0,(.sl 3 [TI] true out))],1⟩
theorem Qm1 (a:List Int) (b:List Int) (sat:Bool) (i:Int) (out:List Int) (h :
 (zif ((decide (i<(a.length:Int)))&&(decide (i<(b.length:Int)))) ((((0:Int)≤i∧Int.toNat i<a.length)∧((0:Int)≤i∧Int.toNat i<b.length))∧(((out.length=out.length∨out.length+1≤out.length)∧out.length+1≤big)∧(QiX K a b (sat||((Q4 (gtd (0:Int) a (Int.toNat i)) (gtd (0:Int) b (Int.toNat i))).2)) (w64 (i+(1:Int))) (List.take (out.length+1) ((List.take out.length out)++([(Q4 (gtd (0:Int) a (Int.toNat i)) (gtd (0:Int) b (Int.toNat i))).1])))))) (K (Qcs ((List.take out.length (List.drop 0 out)),sat))))):QiX K a b sat i out :=
 Loop.of (by kernel_rfl) h
theorem QPw (a:List Int) (b:List Int) (h :
 (QiX K a b false 0 ([]:List Int))):Hold (tawp Qlx (0+0) QJX (TQ 0 0 QyH K) (Qh [(.c (.sl [TI]) a),(.c (.sl [TI]) b)])) :=
 Hold.of (by kernel_rfl) h
theorem QSA (a:List Int) (b:List Int) (hp:Z0 (α:=List Int) (β:=List Int) a b):TCon Tryz.prog 161 [(.c (.sl [TI]) a),(.c (.sl [TI]) b)] (Qcs (JZ a b)):=by
 refine Qo rfl fun hb=>tcg (n:=46) (sg:=QnI.sg) Ql (TOk.cons Qfs TOk.nil) (by kernel_rfl) (by kernel_rfl) (QPw _ a b ?_)
 have hl_a:a.length≤9223372036854775807:=hb.1.1
 have hl_b:b.length≤9223372036854775807:=hb.2.1.1
 unfold Z0 at hp
 have ha:=ZR a
 have hb2:=ZR b
 refine Zj a (fun r k=>∀ (v:List Int) (s:Bool),v.length=k→(v++(vz Q4 r (b.drop k)).1,s||(vz Q4 r (b.drop k)).2)=(JZ a b)→QiX (fun r'=>r'=Qcs (JZ a b)) a b s k v) ?_ ?_ [] false rfl (by unfold JZ;simp)
 ·intro v s hv he
  refine Qm1 (fun r'=>r'=Qcs (JZ a b)) a b _ _ _ ⟨fun h=>by simp at h,fun _=>R_eq ?_⟩
  rw [← he];simp [vz]
 ·intro k x r hk hlt hg ih v s hv he
  by_cases hkb:k<b.length
  ·obtain ⟨y,q,hq⟩:=Jn (l:=b) (k:=k) hkb
   refine Qm1 (fun r'=>r'=Qcs (JZ a b)) a b _ _ _ ⟨fun _=>?_,fun h=>by simp at h;omega⟩
   rw [Int.toNat_natCast,hg,Yb hq,sc1 (by omega),Za]
   refine ⟨⟨⟨by omega,hlt⟩,by omega,hkb⟩,room (by omega),ih _ _ (YM hv) ?_⟩
   rw [← he,hq,vz,ZY hq]
   simp [Bool.or_assoc]
  ·refine Qm1 (fun r'=>r'=Qcs (JZ a b)) a b _ _ _ ⟨fun h=>by simp at h;omega,fun _=>R_eq ?_⟩
   rw [← he,Qkw (l:=b) (by omega)];simp [vz]
theorem QY6:Qi Tryz.prog QnI:=Qm fun x h=>QSA x.1 x.2.1 h
def QaB (t:Q2):TRes:=zra (.a (Tup.cells Zk t))
def Qpe:TRow:=Qj 89 [(.a Zk),(.a Zk)] fun x=>(some (Z0 (α:=Q2) (β:=Q2) x.1 x.2.1),QaB (Z6 x.1 x.2.1))
def Qc9:List TRow:=[Qd4]
def QEM:TCode :=
 (zsq [(zsq [(.reg [zmv 35 8,zfa 36 2 0,zld 37 36 1,zmv 38 6,zia 39 37 38 [(.sl [TI])],zfa 40 39 0,zld 41 40 1,zle 42 41,zbi 43 .lss 35 42,zmv 44 43,.grp 44 true [zmv 45 8,zfa 46 3 0,zld 47 46 1,zmv 48 6,zia 49 47 48 [(.sl [TI])],zfa 50 49 0,zld 51 50 1,zle 52 51,zbi 53 .lss 45 52] 54 53]),(.cond 54 .skip (.exit 2))]),(.block 3 (zsq [(.draw [zfa 58 2 0,zld 59 58 1,zmv 60 6,zia 61 59 60 [(.sl [TI])],zfa 62 61 0,zld 63 62 1,zmv 64 8,zia 65 63 64 [TI],zld 66 65 1,zfa 67 3 0,zld 68 67 1,zmv 69 6,zia 70 68 69 [(.sl [TI])],zfa 71 70 0,zld 72 71 1,zmv 73 8,zia 74 72 73 [TI],zld 75 74 1,zca 76 121 [66,75],zmv 57 76,zex 77 57 0,zex 78 57 1,zmv 9 77,zmv 10 78] []),(.reg [zfa 79 7 0,zld 80 79 1,zmv 81 9,zop 82 (.bsl 3 [TI] [81]),zop 83 (.app 80 82 3 [TI]),zfa 84 7 0,zst 84 83 1]),(.reg [zfa 85 5 2,zld 86 85 1,zmv 87 86,.grp 87 false [zmv 88 10] 89 88,zfa 90 5 2,zst 90 89 1])])),(.reg [zmv 55 8,zbi 56 .add 55 (zki 1),zmv 8 56])])
def Qym:List (Nat × Md):=[(2,.b [.d,.d,.d]),(3,.b [.d,.d,.d]),(4,.b [.d,.d,.d]),(5,.b [.f,.d,.d]),(6,.one .d),(7,.b [.o 3]),(8,.one .d)]
def QBJ:TCode :=
 (.reg [zfa 91 5 0,zld 92 91 1,zLd 93 7 1,zop 94 (.bsl 129 [(.sl [TI])] [93]),zop 95 (.app 92 94 129 [(.sl [TI])]),zfa 96 5 0,zst 96 95 1])
def QwY:TCode :=
 (.reg [zmv 32 6,zbi 33 .add 32 (zki 1),zmv 6 33])
def Qqq:TCode :=
 (zsq [(zsq [(.reg [zmv 20 6,zfa 21 2 0,zld 22 21 1,zle 23 22,zbi 24 .lss 20 23,zmv 25 24,.grp 25 true [zmv 26 6,zfa 27 3 0,zld 28 27 1,zle 29 28,zbi 30 .lss 26 29] 31 30]),(.cond 31 .skip (.exit 0))]),(.block 1 (zsq [(.reg [zop 34 (.build [(.n [TI])] []),zop 7 (.new 129 [(.n [TI])]),zst 7 34 1]),(zsq [(.reg [zmv 8 (zki 0)]),(.block 2 (.loop Qym QEM))]),QBJ])),QwY])
def Qiz:List (Nat × Md):=[(2,.b [.d,.d,.d]),(3,.b [.d,.d,.d]),(4,.b [.d,.d,.d]),(5,.b [.o 129,.d,.d]),(6,.one .d)]
def QtW:TCode :=
 (zsq [(.reg [zfa 98 2 1,zld 99 98 1,zfa 100 3 1,zld 101 100 1,zca 102 121 [99,101],zmv 97 102,zex 103 97 0,zex 104 97 1,zmv 11 103,zmv 12 104]),(.reg [zmv 105 11,zfa 106 5 1,zst 106 105 1]),(.reg [zfa 107 5 2,zld 108 107 1,zmv 109 108,.grp 109 false [zmv 110 12] 111 110,zfa 112 5 2,zst 112 111 1]),(.reg [zLd 113 5 3,zst 4 113 3]),.ret])
def QQR:TCode :=
 (zsq [(.reg [zop 2 (.box 46 0 3),zop 3 (.box 46 1 3),zop 4 (.new 46 (z0s Zk))]),(.reg [zfa 13 2 2,zld 14 13 1,zmv 15 14,.grp 15 false [zfa 16 3 2,zld 17 16 1] 18 17,zop 19 (.build (z0s Zk) [(2,1,18)]),zop 5 (.new 46 (z0s Zk)),zst 5 19 3]),(zsq [(.reg [zmv 6 (zki 0)]),(.block 0 (.loop Qiz Qqq))]),QtW])
def Qyd:List (ARv × Md):=[(.l 4 3 true,.b [.d,.d,.d])]
def Qw7:Qb:=TQ 0 0 Qyd K
def QQe:Qb:=Qseq (tawp Qc9 0 QtW (Qw7 K)) (Qw7 K)
def QpM:Qb:=Qblk 0 (QQe K)
def Qvw:Qb:=Qseq (fun s'=>Loop Qc9 0 Qiz Qqq (QpM K) (gc 0 Qiz s')) (QpM K)
def QIS:Qb:=Qseq (tawp Qc9 0 QwY (Qvw K)) (Qvw K)
def QxC:Qb:=Qblk 1 (QIS K)
def QJi:Qb:=Qseq (tawp Qc9 0 QBJ (QxC K)) (QxC K)
def QIv:Qb:=Qblk 2 (QJi K)
def QkF (a:Q2) (b:Q2) (k:Int) (g2:Bool) (row0:List Int) (i:Int) (g01:List (List Int)):Prop:=Loop Qc9 0 Qym QEM (QIv K) ⟨[(2,(.p 0 0 0)),(3,(.p 1 0 0)),(4,(.p 2 0 0)),(5,(.p 4 0 0)),(6,(zci i)),(7,(.p 6 0 0)),(8,(zci k))],[(0,(.box (Tup.cells Zk a))),(1,(.box (Tup.cells Zk b))),(2,(.box (Tup.cells Zk ([],(0:Int),false)))),(3,(.sl 129 [(.sl [TI])] true g01)),(4,(.box [(.r [(.sl [TI])] 3 0 g01.length),(zci 0),(zcb g2)])),(5,(.sl 3 [TI] true row0)),(6,(.box [(.r [TI] 5 0 row0.length)]))],7⟩
def QjA (a:Q2) (b:Q2) (i:Int) (g0:List (List Int)) (g21:Bool):Prop:=Loop Qc9 0 Qiz Qqq (QpM K) ⟨[(2,(.p 0 0 0)),(3,(.p 1 0 0)),(4,(.p 2 0 0)),(5,(.p 4 0 0)),(6,(zci i))],[(0,(.box (Tup.cells Zk a))),(1,(.box (Tup.cells Zk b))),(2,(.box (Tup.cells Zk ([],(0:Int),false)))),(3,(.sl 129 [(.sl [TI])] true g0)),(4,(.box [(.r [(.sl [TI])] 3 0 g0.length),(zci 0),(zcb g21)]))],5⟩
theorem QBA (a:Q2) (b:Q2) (k:Int) (g2:Bool) (row0:List Int) (i:Int) (g01:List (List Int)) (h :
 ((((0:Int)≤i∧Int.toNat i<(a.1).length)∧((decide (k<((gtd ([]:List Int) a.1 (Int.toNat i)).length:Int)))=true→((0:Int)≤i∧Int.toNat i<(b.1).length)))∧(zif ((decide (k<((gtd ([]:List Int) a.1 (Int.toNat i)).length:Int)))&&(decide (k<((gtd ([]:List Int) b.1 (Int.toNat i)).length:Int)))) ((((0:Int)≤i∧Int.toNat i<(a.1).length)∧(((0:Int)≤k∧Int.toNat k<(gtd ([]:List Int) a.1 (Int.toNat i)).length)∧(((0:Int)≤i∧Int.toNat i<(b.1).length)∧((0:Int)≤k∧Int.toNat k<(gtd ([]:List Int) b.1 (Int.toNat i)).length))))∧(((row0.length=row0.length∨row0.length+1≤row0.length)∧row0.length+1≤big)∧(QkF K a b (w64 (k+(1:Int))) (g2||((Q4 (gtd (0:Int) (gtd ([]:List Int) a.1 (Int.toNat i)) (Int.toNat k)) (gtd (0:Int) (gtd ([]:List Int) b.1 (Int.toNat i)) (Int.toNat k))).2)) (List.take (row0.length+1) ((List.take row0.length row0)++([(Q4 (gtd (0:Int) (gtd ([]:List Int) a.1 (Int.toNat i)) (Int.toNat k)) (gtd (0:Int) (gtd ([]:List Int) b.1 (Int.toNat i)) (Int.toNat k))).1]))) i (List.take g01.length g01)))) (((g01.length=g01.length∨g01.length+1≤g01.length)∧g01.length+1≤big)∧(QjA K a b (w64 (i+(1:Int))) (List.take (g01.length+1) ((List.take g01.length g01)++([(List.take row0.length (List.drop 0 row0))]))) g2))))):QkF K a b k g2 row0 i g01 :=
 Loop.of (by kernel_rfl) h
theorem QqO (a:Q2) (b:Q2) (i:Int) (g0:List (List Int)) (g21:Bool) (h :
 (zif ((decide (i<((a.1).length:Int)))&&(decide (i<((b.1).length:Int)))) (QkF K a b 0 g21 ([]:List Int) i (List.take g0.length g0)) (K (QaB ((List.take g0.length (List.drop 0 g0)),(Q4 a.2.1 b.2.1).1,(g21||((Q4 a.2.1 b.2.1).2))))))):QjA K a b i g0 g21 :=
 Loop.of (by kernel_rfl) h
theorem QLC (a:Q2) (b:Q2) (h :
 (QjA K a b 0 ([]:List (List Int)) (a.2.2||b.2.2))):Hold (tawp Qc9 (0+0) QQR (TQ 0 0 Qyd K) (Qh [(.a (Tup.cells Zk a)),(.a (Tup.cells Zk b))])) :=
 Hold.of (by kernel_rfl) h
theorem QVs (a:Q2) (b:Q2) (hp:Z0 (α:=Q2) (β:=Q2) a b):TCon Tryz.prog 89 [(.a (Tup.cells Zk a)),(.a (Tup.cells Zk b))] (QaB (Z6 a b)):=by
 refine Qo rfl fun hb=>tcg (n:=114) (sg:=Qpe.sg) Ql (TOk.cons QjY TOk.nil) (by kernel_rfl) (by kernel_rfl) (QLC _ a b ?_)
 have hl_a_0:(a.1).length≤9223372036854775807:=hb.1.1.1
 have hl_b_0:(b.1).length≤9223372036854775807:=hb.2.1.1.1
 unfold Z0 at hp
 simp only [ZQ,ZE,JP] at hp
 have ha:=YP a.1
 refine Zj a.1 (fun r k=>∀ (v:List (List Int)) (z:Bool),v.length=k→v++(ZB r (b.1.drop k)).1=(ZB a.1 b.1).1→(z||(ZB r (b.1.drop k)).2)=(a.2.2||b.2.2||(ZB a.1 b.1).2)→QjA (fun r'=>r'=QaB (Z6 a b)) a b k v z) ?_ ?_ [] _ rfl (by simp) (by simp)
 ·intro v z hv he hz
  refine QqO (fun r'=>r'=QaB (Z6 a b)) a b _ _ _ ⟨fun h=>by simp at h,fun _=>R_eq ?_⟩
  unfold Z6;rw [← he,← hz];simp [ZB]
 ·intro k x r hk hlt hg ih v z hv he hz
  by_cases hkb:k<b.1.length
  ·obtain ⟨y,q,hq⟩:=Jn (l:=b.1) (k:=k) hkb
   have hx:=Qfv hk
   have hxl:=ZR x
   refine QqO (fun r'=>r'=QaB (Z6 a b)) a b _ _ _ ⟨fun _=>?_,fun h=>by simp at h;omega⟩
   rw [List.take_length]
   refine Zj x (fun r2 j=>∀ (w:List Int) (z2:Bool),w.length=j→w++(vz Q4 r2 (y.drop j)).1=(vz Q4 x y).1→(z2||(vz Q4 r2 (y.drop j)).2)=(z||(vz Q4 x y).2)→QkF (fun r'=>r'=QaB (Z6 a b)) a b j z2 w k v) ?_ ?_ [] z rfl (by simp) (by simp)
   ·intro w z2 hw he2 hz2
    refine QBA (fun r'=>r'=QaB (Z6 a b)) a b _ _ _ _ _ ?_
    rw [Int.toNat_natCast,hg,Yb hq]
    refine ⟨⟨⟨by omega,hlt⟩,fun h=>by simp at h⟩,fun h=>by simp at h,fun _=>⟨room (by omega),?_⟩⟩
    rw [Qam,sc1 (by omega),Za]
    simp only [vz,List.append_nil,Bool.or_false] at he2 hz2
    refine ih _ _ (YM hv) ?_ ?_
    ·rw [← he,hq,ZB,ZY hq,he2];simp
    ·rw [← hz,hq,ZB,ZY hq,hz2];simp [Bool.or_assoc]
   ·intro j e r2 hj hlt2 hg2 ih2 w z2 hw he2 hz2
    refine QBA (fun r'=>r'=QaB (Z6 a b)) a b _ _ _ _ _ ?_
    rw [Int.toNat_natCast,Int.toNat_natCast,hg,Yb hq]
    by_cases hjy:j<y.length
    ·obtain ⟨f,q2,hq2⟩:=Jn (l:=y) (k:=j) hjy
     refine ⟨⟨⟨by omega,hlt⟩,fun _=>⟨by omega,hkb⟩⟩,fun _=>?_,fun h=>by simp at h;omega⟩
     rw [hg2,Yb hq2,sc1 (by omega),Za,List.take_length]
     refine ⟨⟨⟨by omega,hlt⟩,⟨by omega,hlt2⟩,⟨by omega,hkb⟩,by omega,hjy⟩,room (by omega),ih2 _ _ (YM hw) ?_ ?_⟩
     ·rw [← he2,hq2,vz,ZY hq2];simp
     ·rw [← hz2,hq2,vz,ZY hq2];simp [Bool.or_assoc]
    ·refine ⟨⟨⟨by omega,hlt⟩,fun _=>⟨by omega,hkb⟩⟩,fun h=>by simp at h;omega,fun _=>⟨room (by omega),?_⟩⟩
     rw [Qam,sc1 (by omega),Za]
     rw [Qkw (l:=y) (by omega)] at he2 hz2
     simp only [vz,List.append_nil,Bool.or_false] at he2 hz2
     refine ih _ _ (YM hv) ?_ ?_
     ·rw [← he,hq,ZB,ZY hq,he2];simp
     ·rw [← hz,hq,ZB,ZY hq,hz2];simp [Bool.or_assoc]
  ·refine QqO (fun r'=>r'=QaB (Z6 a b)) a b _ _ _ ⟨fun h=>by simp at h;omega,fun _=>R_eq ?_⟩
   unfold Z6;rw [← he,← hz,Qkw (l:=b.1) (by omega)];simp [ZB]
theorem QI4:Qi Tryz.prog Qpe:=Qm fun x h=>QVs x.1 x.2.1 h
def Qcv (t:Q2):TRes:=zra (.a (Tup.cells Zk t))
def QpL:TRow:=Qj 84 [(.a Zk),(.a Zk)] fun x=>(some (Z0 (α:=Q2) (β:=Q2) x.1 x.2.1),Qcv (Z6 x.1 x.2.1))
def QpZ:List TRow:=[QnI,Qdi]
def Qwf:TCode :=
 (zsq [(zsq [(.reg [zmv 18 6,zfa 19 2 0,zld 20 19 1,zle 21 20,zbi 22 .lss 18 21,zmv 23 22,.grp 23 true [zmv 24 6,zfa 25 3 0,zld 26 25 1,zle 27 26,zbi 28 .lss 24 27] 29 28]),(.cond 29 .skip (.exit 0))]),(.block 1 (zsq [(.draw [zfa 33 2 0,zld 34 33 1,zmv 35 6,zia 36 34 35 [(.sl [TI])],zfa 37 36 0,zld 38 37 1,zfa 39 3 0,zld 40 39 1,zmv 41 6,zia 42 40 41 [(.sl [TI])],zfa 43 42 0,zld 44 43 1,zca 45 161 [38,44],zmv 32 45,zex 46 32 0,zex 47 32 1,zmv 7 46,zmv 8 47] []),(.reg [zfa 48 5 0,zld 49 48 1,zmv 50 7,zop 51 (.build [(.n [TI])] [(0,1,50)]),zop 52 (.bsl 129 [(.sl [TI])] [51]),zop 53 (.app 49 52 129 [(.sl [TI])]),zfa 54 5 0,zst 54 53 1]),(.reg [zfa 55 5 2,zld 56 55 1,zmv 57 56,.grp 57 false [zmv 58 8] 59 58,zfa 60 5 2,zst 60 59 1])])),(.reg [zmv 30 6,zbi 31 .add 30 (zki 1),zmv 6 31])])
def QuK:List (Nat × Md):=[(2,.b [.d,.d,.d]),(3,.b [.d,.d,.d]),(4,.b [.d,.d,.d]),(5,.b [.o 129,.d,.d]),(6,.one .d)]
def QC8:TCode :=
 (zsq [(.reg [zfa 62 2 1,zld 63 62 1,zfa 64 3 1,zld 65 64 1,zca 66 162 [63,65],zmv 61 66,zex 67 61 0,zex 68 61 1,zmv 9 67,zmv 10 68]),(.reg [zmv 69 9,zfa 70 5 1,zst 70 69 1]),(.reg [zfa 71 5 2,zld 72 71 1,zmv 73 72,.grp 73 false [zmv 74 10] 75 74,zfa 76 5 2,zst 76 75 1]),(.reg [zLd 77 5 3,zst 4 77 3]),.ret])
def QKZ:TCode :=
 (zsq [(.reg [zop 2 (.box 46 0 3),zop 3 (.box 46 1 3),zop 4 (.new 46 (z0s Zk))]),(.reg [zfa 11 2 2,zld 12 11 1,zmv 13 12,.grp 13 false [zfa 14 3 2,zld 15 14 1] 16 15,zop 17 (.build (z0s Zk) [(2,1,16)]),zop 5 (.new 46 (z0s Zk)),zst 5 17 3]),(zsq [(.reg [zmv 6 (zki 0)]),(.block 0 (.loop QuK Qwf))]),QC8])
def QEf:List (ARv × Md):=[(.l 4 3 true,.b [.d,.d,.d])]
def Qsv:Qb:=TQ 0 0 QEf K
def QOA:Qb:=Qseq (tawp QpZ 0 QC8 (Qsv K)) (Qsv K)
def QFi:Qb:=Qblk 0 (QOA K)
def QjG (a:Q2) (b:Q2) (i:Int) (g0:List (List Int)) (g2:Bool):Prop:=Loop QpZ 0 QuK Qwf (QFi K) ⟨[(2,(.p 0 0 0)),(3,(.p 1 0 0)),(4,(.p 2 0 0)),(5,(.p 4 0 0)),(6,(zci i))],[(0,(.box (Tup.cells Zk a))),(1,(.box (Tup.cells Zk b))),(2,(.box (Tup.cells Zk ([],(0:Int),false)))),(3,(.sl 129 [(.sl [TI])] true g0)),(4,(.box [(.r [(.sl [TI])] 3 0 g0.length),(zci 0),(zcb g2)]))],5⟩
theorem Qoh (a:Q2) (b:Q2) (i:Int) (g0:List (List Int)) (g2:Bool) (h :
 (zif ((decide (i<((a.1).length:Int)))&&(decide (i<((b.1).length:Int)))) ((((0:Int)≤i∧Int.toNat i<(a.1).length)∧(((0:Int)≤i∧Int.toNat i<(b.1).length)∧(Z0 (α:=List Int) (β:=List Int) (gtd ([]:List Int) a.1 (Int.toNat i)) (gtd ([]:List Int) b.1 (Int.toNat i)))))∧(((g0.length=g0.length∨g0.length+1≤g0.length)∧g0.length+1≤big)∧(QjG K a b (w64 (i+(1:Int))) (List.take (g0.length+1) ((List.take g0.length g0)++([(JZ (gtd ([]:List Int) a.1 (Int.toNat i)) (gtd ([]:List Int) b.1 (Int.toNat i))).1]))) (g2||((JZ (gtd ([]:List Int) a.1 (Int.toNat i)) (gtd ([]:List Int) b.1 (Int.toNat i))).2))))) (K (Qcv ((List.take g0.length (List.drop 0 g0)),(Q4 a.2.1 b.2.1).1,(g2||((Q4 a.2.1 b.2.1).2))))))):QjG K a b i g0 g2 :=
 Loop.of (by kernel_rfl) h
theorem QWH (a:Q2) (b:Q2) (h :
 (QjG K a b 0 ([]:List (List Int)) (a.2.2||b.2.2))):Hold (tawp QpZ (0+0) QKZ (TQ 0 0 QEf K) (Qh [(.a (Tup.cells Zk a)),(.a (Tup.cells Zk b))])) :=
 Hold.of (by kernel_rfl) h
theorem QQB (a:Q2) (b:Q2) (hp:Z0 (α:=Q2) (β:=Q2) a b):TCon Tryz.prog 84 [(.a (Tup.cells Zk a)),(.a (Tup.cells Zk b))] (Qcv (Z6 a b)):=by
 refine Qo rfl fun hb=>tcg (n:=78) (sg:=QpL.sg) Ql (TOk.cons QY6 (TOk.cons Qfs TOk.nil)) (by kernel_rfl) (by kernel_rfl) (QWH _ a b ?_)
 have hl_a_0:(a.1).length≤9223372036854775807:=hb.1.1.1
 have hl_b_0:(b.1).length≤9223372036854775807:=hb.2.1.1.1
 unfold Z0 at hp
 simp only [ZQ,ZE,JP] at hp
 have ha:=YP a.1
 refine Zj a.1 (fun r k=>∀ (v:List (List Int)) (z:Bool),v.length=k→v++(ZB r (b.1.drop k)).1=(ZB a.1 b.1).1→(z||(ZB r (b.1.drop k)).2)=(a.2.2||b.2.2||(ZB a.1 b.1).2)→QjG (fun r'=>r'=Qcv (Z6 a b)) a b k v z) ?_ ?_ [] _ rfl (by simp) (by simp)
 ·intro v z hv he hz
  refine Qoh (fun r'=>r'=Qcv (Z6 a b)) a b _ _ _ ⟨fun h=>by simp at h,fun _=>R_eq ?_⟩
  unfold Z6;rw [← he,← hz];simp [ZB]
 ·intro k x r hk hlt hg ih v z hv he hz
  by_cases hkb:k<b.1.length
  ·obtain ⟨y,q,hq⟩:=Jn (l:=b.1) (k:=k) hkb
   have hx:=Qfv hk
   have hy:=Qfv hq
   refine Qoh (fun r'=>r'=Qcv (Z6 a b)) a b _ _ _ ⟨fun _=>?_,fun h=>by simp at h;omega⟩
   rw [Int.toNat_natCast,hg,Yb hq,sc1 (by omega),Za]
   refine ⟨⟨⟨by omega,hlt⟩,⟨by omega,hkb⟩,by unfold Z0;omega⟩,room (by omega),ih _ _ (YM hv) ?_ ?_⟩
   ·rw [← he,hq,ZB,ZY hq];simp [JZ]
   ·rw [← hz,hq,ZB,ZY hq];simp [JZ,Bool.or_assoc]
  ·refine Qoh (fun r'=>r'=Qcv (Z6 a b)) a b _ _ _ ⟨fun h=>by simp at h;omega,fun _=>R_eq ?_⟩
   unfold Z6;rw [← he,← hz,Qkw (l:=b.1) (by omega)];simp [ZB]
theorem QGn:Qi Tryz.prog QpL:=Qm fun x h=>QQB x.1 x.2.1 h
end
end Go.Proofs.YtjbdljkhbglnhaaGreat.Am

