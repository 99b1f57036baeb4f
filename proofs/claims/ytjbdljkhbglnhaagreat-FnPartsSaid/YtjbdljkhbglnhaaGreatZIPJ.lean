/- -/
import Derived.Test.YtjbdljkhbglnhaaGreatZIPF
import Derived.Test.YtjbdljkhbglnhaaGreatZIP4
namespace Go.Proofs.YtjbdljkhbglnhaaGreat.Am
open Go Go.RowKit Go.Proofs.YtjbdljkhbglnhaaGreat
set_option linter.all false
noncomputable section
variable (K:TRes→Prop)
def Qdj (t:(List TOp')):TRes:=zra (zcs ctOp t)
def Qk5:TRow:=Qk 151 [(.c (.sl ctOp))] fun x=>(some (Qx (α:=List TOp') x.1),Qdj (id (α:=List TOp') x.1))
def QkQ:List TRow:=[Qax]
def QqQ:TCode :=
 (zsq [(.reg [zbi 10 .lss 9 8]),(.cond 10 .skip (.exit 0)),(.block 1 (zsq [(.reg [zia 11 7 9 ctOp,zLd 12 11 4,zop 5 (.new 69 (z0s ctOp)),zst 5 12 4]),(.draw [zmv 13 3,zfa 14 5 0,zld 15 14 1,zfa 16 5 1,zld 17 16 1,zfa 18 5 2,zld 19 18 1,zfa 20 5 3,zld 21 20 1,zca 22 119 [21],zop 23 (.build (z0s ctOp) [(0,1,15),(1,1,17),(2,1,19),(3,1,22)]),zop 24 (.bsl 69 ctOp [23]),zop 25 (.app 13 24 69 ctOp),zmv 3 25] [(1,9),(2,9),(3,9),(4,9),(5,9),(6,9)])])),(.reg [zbi 26 .add 9 (zki 1),zmv 9 26])])
def Qr1:List (Nat × Md):=[(3,.one .f),(7,.one .d),(8,.one .d),(9,.one .d)]
def Qri:TCode :=
 (zsq [(.reg [zmv 27 3,zmv 2 27]),.ret])
def QNu:TCode :=
 (zsq [(.reg [zmv 2 (.k (.n ctOp))]),(.reg [zop 6 (.bsl 69 ctOp []),zmv 3 6]),(zsq [(.reg [zmv 7 0,zle 8 7,zmv 9 (zki 0)]),(.block 0 (.loop Qr1 QqQ))]),Qri])
def Qwv:List (ARv × Md):=[(.t 2,.one .d)]
def Qzy:Qb:=TQ 0 0 Qwv K
def QWl:Qb:=Qseq (tawp QkQ 0 Qri (Qzy K)) (Qzy K)
def QMV:Qb:=Qblk 0 (QWl K)
def Qlt (l:List TOp') (x:Int) (ops:List TOp'):Prop:=Loop QkQ 0 Qr1 QqQ (QMV K) ⟨[(3,(.r ctOp 0 0 ops.length)),(7,(zcs ctOp l)),(8,(zci (l.length:Int))),(9,(zci x))],[(0,(.sl 69 ctOp true ops))],1⟩
theorem QyJ (l:List TOp') (x:Int) (ops:List TOp') (h :
 (zif (decide (x<(l.length:Int))) (((0:Int)≤x∧Int.toNat x<l.length)∧(((Qx (α:=List Int) ((gtd dOp l (Int.toNat x)).2.2.2))∧((ops.length=ops.length∨ops.length+1≤ops.length)∧ops.length+1≤big))∧(Qlt K l (w64 (x+(1:Int))) (List.take (ops.length+1) ((List.take ops.length ops)++([((gtd dOp l (Int.toNat x)).1,(gtd dOp l (Int.toNat x)).2.1,(gtd dOp l (Int.toNat x)).2.2.1,(List.take ((id (α:=List Int) ((gtd dOp l (Int.toNat x)).2.2.2)).length) (List.drop 0 (id (α:=List Int) ((gtd dOp l (Int.toNat x)).2.2.2)))))])))))) (K (Qdj (List.take ops.length (List.drop 0 ops)))))):Qlt K l x ops :=
 Loop.of (by kernel_rfl) h
theorem QKS (l:List TOp') (h :
 (Qlt K l 0 ([]:List TOp'))):Hold (tawp QkQ (0+0) QNu (TQ 0 0 Qwv K) (Qi [(.c (.sl ctOp) l)])) :=
 Hold.of (by kernel_rfl) h
theorem QFw (l:List TOp') (hp:Qx (α:=List TOp') l):TCon Tryz.prog 151 [(.c (.sl ctOp) l)] (Qdj (id (α:=List TOp') l)):=by
 refine Qo rfl fun hb=>tcg (n:=28) (sg:=Qk5.sg) Qm (TOk.cons Qbg TOk.nil) (by kernel_rfl) (by kernel_rfl) (QKS _ l ?_)
 have hl_l:l.length≤9223372036854775807:=hb.1.1
 refine Jm (Q:=fun z=>Qdj z=Qdj (id (α:=List TOp') l)) hp (fun k x v hk hl hg hv hx ih=>?_) (fun hq=>?_) (R_eq rfl)
 ·refine QyJ (fun r'=>r'=Qdj (id (α:=List TOp') l)) l _ _ ⟨fun _=>?_,fun h=>by simp at h;omega⟩
  try simp only [ZO,ZF,J0] at hx
  rw [Int.toNat_natCast,hg,sc1 (by omega),Zc,QdR]
  exact ⟨⟨by omega,hk⟩,⟨(show Sz.sz (_:List Int)≤2147483648 by omega),room (by omega)⟩,ih⟩
 ·refine QyJ (fun r'=>r'=Qdj (id (α:=List TOp') l)) l _ _ ⟨fun h=>by simp at h,fun _=>?_⟩
  exact R_eq (by simp)
theorem QEU:Ql Tryz.prog Qk5:=Qn fun x h=>QFw x.1 h
def Qdw (t:(List (List Int))):TRes:=zra (zcs [(.sl [TI])] t)
def QfL:TRow:=Qk 86 [(.c (.sl [(.sl [TI])]))] fun x=>(some (Qx (α:=List (List Int)) x.1),Qdw (id (α:=List (List Int)) x.1))
def Qms:List TRow:=[Qax]
def Qzn:TCode :=
 (zsq [(.reg [zbi 10 .lss 9 8]),(.cond 10 .skip (.exit 0)),(.block 1 (zsq [(.reg [zia 11 7 9 [(.sl [TI])],zLd 12 11 1,zop 5 (.new 129 [(.n [TI])]),zst 5 12 1]),(.reg [zmv 13 3,zfa 14 5 0,zld 15 14 1,zca 16 119 [15],zop 17 (.build [(.n [TI])] [(0,1,16)]),zop 18 (.bsl 129 [(.sl [TI])] [17]),zop 19 (.app 13 18 129 [(.sl [TI])]),zmv 3 19])])),(.reg [zbi 20 .add 9 (zki 1),zmv 9 20])])
def Qxv:List (Nat × Md):=[(3,.one .f),(7,.one .d),(8,.one .d),(9,.one .d)]
def QBe:TCode :=
 (zsq [(.reg [zmv 21 3,zmv 2 21]),.ret])
def QHC:TCode :=
 (zsq [(.reg [zmv 2 (.k (.n [(.sl [TI])]))]),(.reg [zop 6 (.bsl 129 [(.sl [TI])] []),zmv 3 6]),(zsq [(.reg [zmv 7 0,zle 8 7,zmv 9 (zki 0)]),(.block 0 (.loop Qxv Qzn))]),QBe])
def Qzi:List (ARv × Md):=[(.t 2,.one .d)]
def Qxk:Qb:=TQ 0 0 Qzi K
def QLh:Qb:=Qseq (tawp Qms 0 QBe (Qxk K)) (Qxk K)
def QO6:Qb:=Qblk 0 (QLh K)
def QoS (l:List (List Int)) (x:Int) (rows:List (List Int)):Prop:=Loop Qms 0 Qxv Qzn (QO6 K) ⟨[(3,(.r [(.sl [TI])] 0 0 rows.length)),(7,(zcs [(.sl [TI])] l)),(8,(zci (l.length:Int))),(9,(zci x))],[(0,(.sl 129 [(.sl [TI])] true rows))],1⟩
theorem QqG (l:List (List Int)) (x:Int) (rows:List (List Int)) (h :
 (zif (decide (x<(l.length:Int))) (((0:Int)≤x∧Int.toNat x<l.length)∧(((Qx (α:=List Int) (gtd ([]:List Int) l (Int.toNat x)))∧((rows.length=rows.length∨rows.length+1≤rows.length)∧rows.length+1≤big))∧(QoS K l (w64 (x+(1:Int))) (List.take (rows.length+1) ((List.take rows.length rows)++([(List.take ((id (α:=List Int) (gtd ([]:List Int) l (Int.toNat x))).length) (List.drop 0 (id (α:=List Int) (gtd ([]:List Int) l (Int.toNat x)))))])))))) (K (Qdw (List.take rows.length (List.drop 0 rows)))))):QoS K l x rows :=
 Loop.of (by kernel_rfl) h
theorem QJi (l:List (List Int)) (h :
 (QoS K l 0 ([]:List (List Int)))):Hold (tawp Qms (0+0) QHC (TQ 0 0 Qzi K) (Qi [(.c (.sl [(.sl [TI])]) l)])) :=
 Hold.of (by kernel_rfl) h
theorem QQ9 (l:List (List Int)) (hp:Qx (α:=List (List Int)) l):TCon Tryz.prog 86 [(.c (.sl [(.sl [TI])]) l)] (Qdw (id (α:=List (List Int)) l)):=by
 refine Qo rfl fun hb=>tcg (n:=22) (sg:=QfL.sg) Qm (TOk.cons Qbg TOk.nil) (by kernel_rfl) (by kernel_rfl) (QJi _ l ?_)
 have hl_l:l.length≤9223372036854775807:=hb.1.1
 refine Jm (Q:=fun z=>Qdw z=Qdw (id (α:=List (List Int)) l)) hp (fun k x v hk hl hg hv hx ih=>?_) (fun hq=>?_) (R_eq rfl)
 ·refine QqG (fun r'=>r'=Qdw (id (α:=List (List Int)) l)) l _ _ ⟨fun _=>?_,fun h=>by simp at h;omega⟩
  try simp only [ZO,ZF,J0] at hx
  rw [Int.toNat_natCast,hg,sc1 (by omega),Zc,QdR]
  exact ⟨⟨by omega,hk⟩,⟨(show Sz.sz (_:List Int)≤2147483648 by omega),room (by omega)⟩,ih⟩
 ·refine QqG (fun r'=>r'=Qdw (id (α:=List (List Int)) l)) l _ _ ⟨fun h=>by simp at h,fun _=>?_⟩
  exact R_eq (by simp)
theorem Qo3:Ql Tryz.prog QfL:=Qn fun x h=>QQ9 x.1 h
def Qdk (t:(List Qy)):TRes:=zra (zcs QK t)
def QmG:TRow:=Qk 70 [(.c (.sl QK))] fun x=>(some (Qx (α:=List Qy) x.1),Qdk (id (α:=List Qy) x.1))
def Qmg:List TRow:=[Qax]
def Qua:TCode :=
 (zsq [(.reg [zbi 10 .lss 9 8]),(.cond 10 .skip (.exit 0)),(.block 1 (zsq [(.reg [zia 11 7 9 QK,zLd 12 11 2,zop 5 (.new 108 (z0s QK)),zst 5 12 2]),(.draw [zmv 13 3,zfa 14 5 0,zld 15 14 1,zca 16 119 [15],zfa 17 5 1,zld 18 17 1,zca 19 119 [18],zop 20 (.build (z0s QK) [(0,1,16),(1,1,19)]),zop 21 (.bsl 108 QK [20]),zop 22 (.app 13 21 108 QK),zmv 3 22] [(3,4),(3,5)])])),(.reg [zbi 23 .add 9 (zki 1),zmv 9 23])])
def QCJ:List (Nat × Md):=[(3,.one .f),(7,.one .d),(8,.one .d),(9,.one .d)]
def QsT:TCode :=
 (zsq [(.reg [zmv 24 3,zmv 2 24]),.ret])
def QRm:TCode :=
 (zsq [(.reg [zmv 2 (.k (.n QK))]),(.reg [zop 6 (.bsl 108 QK []),zmv 3 6]),(zsq [(.reg [zmv 7 0,zle 8 7,zmv 9 (zki 0)]),(.block 0 (.loop QCJ Qua))]),QsT])
def Qug:List (ARv × Md):=[(.t 2,.one .d)]
def QAc:Qb:=TQ 0 0 Qug K
def QOk:Qb:=Qseq (tawp Qmg 0 QsT (QAc K)) (QAc K)
def QKt:Qb:=Qblk 0 (QOk K)
def Qlm (b:List Qy) (x:Int) (YG:List Qy):Prop:=Loop Qmg 0 QCJ Qua (QKt K) ⟨[(3,(.r QK 0 0 YG.length)),(7,(zcs QK b)),(8,(zci (b.length:Int))),(9,(zci x))],[(0,(.sl 108 QK true YG))],1⟩
theorem Qq8 (b:List Qy) (x:Int) (YG:List Qy) (h :
 (zif (decide (x<(b.length:Int))) (((0:Int)≤x∧Int.toNat x<b.length)∧(((Qx (α:=List Int) ((gtd QX b (Int.toNat x)).1))∧((Qx (α:=List Int) ((gtd QX b (Int.toNat x)).2))∧((YG.length=YG.length∨YG.length+1≤YG.length)∧YG.length+1≤big)))∧(Qlm K b (w64 (x+(1:Int))) (List.take (YG.length+1) ((List.take YG.length YG)++([((List.take ((id (α:=List Int) ((gtd QX b (Int.toNat x)).1)).length) (List.drop 0 (id (α:=List Int) ((gtd QX b (Int.toNat x)).1)))),(List.take ((id (α:=List Int) ((gtd QX b (Int.toNat x)).2)).length) (List.drop 0 (id (α:=List Int) ((gtd QX b (Int.toNat x)).2)))))])))))) (K (Qdk (List.take YG.length (List.drop 0 YG)))))):Qlm K b x YG :=
 Loop.of (by kernel_rfl) h
theorem QPX (b:List Qy) (h :
 (Qlm K b 0 ([]:List Qy))):Hold (tawp Qmg (0+0) QRm (TQ 0 0 Qug K) (Qi [(.c (.sl QK) b)])) :=
 Hold.of (by kernel_rfl) h
theorem QLl (b:List Qy) (hp:Qx (α:=List Qy) b):TCon Tryz.prog 70 [(.c (.sl QK) b)] (Qdk (id (α:=List Qy) b)):=by
 refine Qo rfl fun hb=>tcg (n:=25) (sg:=QmG.sg) Qm (TOk.cons Qbg TOk.nil) (by kernel_rfl) (by kernel_rfl) (QPX _ b ?_)
 have hl_b:b.length≤9223372036854775807:=hb.1.1
 refine Jm (Q:=fun z=>Qdk z=Qdk (id (α:=List Qy) b)) hp (fun k x v hk hl hg hv hx ih=>?_) (fun hq=>?_) (R_eq rfl)
 ·refine Qq8 (fun r'=>r'=Qdk (id (α:=List Qy) b)) b _ _ ⟨fun _=>?_,fun h=>by simp at h;omega⟩
  try simp only [ZO,ZF,J0] at hx
  rw [Int.toNat_natCast,hg,sc1 (by omega),Zc,QdR,QdR]
  exact ⟨⟨by omega,hk⟩,⟨(show Sz.sz (_:List Int)≤2147483648 by omega),(show Sz.sz (_:List Int)≤2147483648 by omega),room (by omega)⟩,ih⟩
 ·refine Qq8 (fun r'=>r'=Qdk (id (α:=List Qy) b)) b _ _ ⟨fun h=>by simp at h,fun _=>?_⟩
  exact R_eq (by simp)
theorem QPk:Ql Tryz.prog QmG:=Qn fun x h=>QLl x.1 h
def QkO (t:Q1):TRes:=zra (.a (Tup.cells Zg t))
def QkP:TRow:=Qk 184 [(.a Zg)] fun x=>(some (Qx (α:=Q1) x.1),QkO (id (α:=Q1) x.1))
def QWY:List TRow:=[QfL]
def QR5:TCode :=
 (zsq [(.reg [zop 1 (.box 46 0 3),zop 2 (.new 46 (z0s Zg))]),(.draw [zfa 3 1 0,zld 4 3 1,zca 5 86 [4],zfa 6 1 1,zld 7 6 1,zfa 8 1 2,zld 9 8 1,zop 10 (.build (z0s Zg) [(0,1,5),(1,1,7),(2,1,9)]),zst 2 10 3] [(2,3),(2,4),(2,5),(2,6)]),.ret])
def QMM:List (ARv × Md):=[(.l 2 3 true,.b [.d,.d,.d])]
theorem QXk (g:Q1) (h :
 ((Qx (α:=List (List Int)) g.1)∧K (QkO ((id (α:=List (List Int)) g.1),g.2.1,g.2.2)))):Hold (tawp QWY (0+0) QR5 (TQ 0 0 QMM K) (Qi [(.a (Tup.cells Zg g))])) :=
 Hold.of (by kernel_rfl) h
theorem QQb (g:Q1) (hp:Qx (α:=Q1) g):TCon Tryz.prog 184 [(.a (Tup.cells Zg g))] (QkO (id (α:=Q1) g)):=by
 refine Qo rfl fun hb=>tcg (n:=11) (sg:=QkP.sg) Qm (TOk.cons Qo3 TOk.nil) (by kernel_rfl) (by kernel_rfl) (QXk _ g ?_)
 have hl_g_0:(g.1).length≤9223372036854775807:=hb.1.1.1
 unfold Qx at hp
 simp only [ZO,ZF,J0] at hp
 exact ⟨hp,R_eq rfl⟩
theorem QLY:Ql Tryz.prog QkP:=Qn fun x h=>QQb x.1 h
def Qc6 (t:(List TOp')):TRes:=zra (zcs ctOp t)
def QiY:TRow:=Qk 176 [(.c (.sl ctOp))] fun x=>(some (Qx (α:=List TOp') x.1),Qc6 (id (α:=List TOp') x.1))
def QpC:List TRow:=[]
def Qyh:TCode :=
 (zsq [(zsq [(.reg [zmv 7 4,zmv 8 0,zle 9 8,zbi 10 .lss 7 9]),(.cond 10 .skip (.exit 0))]),(.block 1 (zsq [(.reg [zmv 13 0,zmv 14 4,zia 15 13 14 ctOp,zLd 16 15 4,zop 5 (.new 69 (z0s ctOp)),zst 5 16 4]),(.reg [zop 17 (.bsl 3 [TI] []),zmv 18 0,zmv 19 4,zia 20 18 19 ctOp,zfa 21 20 3,zld 22 21 1,zop 23 (.app 17 22 3 [TI]),zfa 24 5 3,zst 24 23 1]),(.reg [zmv 25 3,zLd 26 5 4,zop 27 (.bsl 69 ctOp [26]),zop 28 (.app 25 27 69 ctOp),zmv 3 28])])),(.reg [zmv 11 4,zbi 12 .add 11 (zki 1),zmv 4 12])])
def QzX:List (Nat × Md):=[(0,.one .d),(3,.one .f),(4,.one .d)]
def QAi:TCode :=
 (zsq [(.reg [zmv 29 3,zmv 2 29]),.ret])
def QPb:TCode :=
 (zsq [(.reg [zmv 2 (.k (.n ctOp))]),(.reg [zop 6 (.bsl 69 ctOp []),zmv 3 6]),(zsq [(.reg [zmv 4 (zki 0)]),(.block 0 (.loop QzX Qyh))]),QAi])
def QvL:List (ARv × Md):=[(.t 2,.one .d)]
def QvF:Qb:=TQ 0 0 QvL K
def QNg:Qb:=Qseq (tawp QpC 0 QAi (QvF K)) (QvF K)
def QOG:Qb:=Qblk 0 (QNg K)
def QkN (l:List TOp') (i:Int) (out:List TOp'):Prop:=Loop QpC 0 QzX Qyh (QOG K) ⟨[(0,(zcs ctOp l)),(3,(.r ctOp 0 0 out.length)),(4,(zci i))],[(0,(.sl 69 ctOp true out))],1⟩
theorem QsI (l:List TOp') (i:Int) (out:List TOp') (h :
 (zif (decide (i<(l.length:Int))) (((0:Int)≤i∧Int.toNat i<l.length)∧((((0:Int)≤i∧Int.toNat i<l.length)∧((0=0∨0+((gtd dOp l (Int.toNat i)).2.2.2).length≤0)∧0+((gtd dOp l (Int.toNat i)).2.2.2).length≤big))∧(((out.length=out.length∨out.length+1≤out.length)∧out.length+1≤big)∧(QkN K l (w64 (i+(1:Int))) (List.take (out.length+1) ((List.take out.length out)++([((gtd dOp l (Int.toNat i)).1,(gtd dOp l (Int.toNat i)).2.1,(gtd dOp l (Int.toNat i)).2.2.1,(List.take (0+((gtd dOp l (Int.toNat i)).2.2.2).length) (List.drop 0 ((gtd dOp l (Int.toNat i)).2.2.2))))]))))))) (K (Qc6 (List.take out.length (List.drop 0 out)))))):QkN K l i out :=
 Loop.of (by kernel_rfl) h
theorem QW4 (l:List TOp') (h :
 (QkN K l 0 ([]:List TOp'))):Hold (tawp QpC (0+0) QPb (TQ 0 0 QvL K) (Qi [(.c (.sl ctOp) l)])) :=
 Hold.of (by kernel_rfl) h
theorem QUJ (l:List TOp') (hp:Qx (α:=List TOp') l):TCon Tryz.prog 176 [(.c (.sl ctOp) l)] (Qc6 (id (α:=List TOp') l)):=by
 refine Qo rfl fun hb=>tcg (n:=30) (sg:=QiY.sg) Qm TOk.nil (by kernel_rfl) (by kernel_rfl) (QW4 _ l ?_)
 have hl_l:l.length≤9223372036854775807:=hb.1.1
 refine Jm (Q:=fun z=>Qc6 z=Qc6 (id (α:=List TOp') l)) hp (fun k x v hk hl hg hv hx ih=>?_) (fun hq=>?_) (R_eq rfl)
 ·refine QsI (fun r'=>r'=Qc6 (id (α:=List TOp') l)) l _ _ ⟨fun _=>?_,fun h=>by simp at h;omega⟩
  try simp only [ZO,ZF,J0] at hx
  rw [Int.toNat_natCast,hg,sc1 (by omega),Zc,QbX]
  exact ⟨⟨by omega,hk⟩,⟨⟨by omega,hk⟩,.inl rfl,by have:=ZN x.2.2.2;rw [Q9];omega⟩,room (by omega),ih⟩
 ·refine QsI (fun r'=>r'=Qc6 (id (α:=List TOp') l)) l _ _ ⟨fun h=>by simp at h,fun _=>?_⟩
  exact R_eq (by simp)
theorem Qxy:Ql Tryz.prog QiY:=Qn fun x h=>QUJ x.1 h
def Qdy (t:(List (List Int))):TRes:=zra (zcs [(.sl [TI])] t)
def Qpi:TRow:=Qk 210 [(.c (.sl [(.sl [TI])]))] fun x=>(some (Qx (α:=List (List Int)) x.1),Qdy (id (α:=List (List Int)) x.1))
def QoH:List TRow:=[]
def Qvb:TCode :=
 (zsq [(zsq [(.reg [zmv 6 4,zmv 7 0,zle 8 7,zbi 9 .lss 6 8]),(.cond 9 .skip (.exit 0))]),(.block 1 (.reg [zmv 12 3,zop 13 (.bsl 3 [TI] []),zmv 14 0,zmv 15 4,zia 16 14 15 [(.sl [TI])],zfa 17 16 0,zld 18 17 1,zop 19 (.app 13 18 3 [TI]),zop 20 (.build [(.n [TI])] [(0,1,19)]),zop 21 (.bsl 129 [(.sl [TI])] [20]),zop 22 (.app 12 21 129 [(.sl [TI])]),zmv 3 22])),(.reg [zmv 10 4,zbi 11 .add 10 (zki 1),zmv 4 11])])
def Qya:List (Nat × Md):=[(0,.one .d),(3,.one .f),(4,.one .d)]
def Qrc:TCode :=
 (zsq [(.reg [zmv 23 3,zmv 2 23]),.ret])
def QFJ:TCode :=
 (zsq [(.reg [zmv 2 (.k (.n [(.sl [TI])]))]),(.reg [zop 5 (.bsl 129 [(.sl [TI])] []),zmv 3 5]),(zsq [(.reg [zmv 4 (zki 0)]),(.block 0 (.loop Qya Qvb))]),Qrc])
def QqC:List (ARv × Md):=[(.t 2,.one .d)]
def Qu8:Qb:=TQ 0 0 QqC K
def QN7:Qb:=Qseq (tawp QoH 0 Qrc (Qu8 K)) (Qu8 K)
def QMz:Qb:=Qblk 0 (QN7 K)
def QnC (l:List (List Int)) (i:Int) (out:List (List Int)):Prop:=Loop QoH 0 Qya Qvb (QMz K) ⟨[(0,(zcs [(.sl [TI])] l)),(3,(.r [(.sl [TI])] 0 0 out.length)),(4,(zci i))],[(0,(.sl 129 [(.sl [TI])] true out))],1⟩
theorem Qs5 (l:List (List Int)) (i:Int) (out:List (List Int)) (h :
 (zif (decide (i<(l.length:Int))) ((((0:Int)≤i∧Int.toNat i<l.length)∧(((0=0∨0+(gtd ([]:List Int) l (Int.toNat i)).length≤0)∧0+(gtd ([]:List Int) l (Int.toNat i)).length≤big)∧((out.length=out.length∨out.length+1≤out.length)∧out.length+1≤big)))∧(QnC K l (w64 (i+(1:Int))) (List.take (out.length+1) ((List.take out.length out)++([(List.take (0+(gtd ([]:List Int) l (Int.toNat i)).length) (List.drop 0 (gtd ([]:List Int) l (Int.toNat i))))]))))) (K (Qdy (List.take out.length (List.drop 0 out)))))):QnC K l i out :=
 Loop.of (by kernel_rfl) h
theorem QKa (l:List (List Int)) (h :
 (QnC K l 0 ([]:List (List Int)))):Hold (tawp QoH (0+0) QFJ (TQ 0 0 QqC K) (Qi [(.c (.sl [(.sl [TI])]) l)])) :=
 Hold.of (by kernel_rfl) h
theorem QPL (l:List (List Int)) (hp:Qx (α:=List (List Int)) l):TCon Tryz.prog 210 [(.c (.sl [(.sl [TI])]) l)] (Qdy (id (α:=List (List Int)) l)):=by
 refine Qo rfl fun hb=>tcg (n:=24) (sg:=Qpi.sg) Qm TOk.nil (by kernel_rfl) (by kernel_rfl) (QKa _ l ?_)
 have hl_l:l.length≤9223372036854775807:=hb.1.1
 refine Jm (Q:=fun z=>Qdy z=Qdy (id (α:=List (List Int)) l)) hp (fun k x v hk hl hg hv hx ih=>?_) (fun hq=>?_) (R_eq rfl)
 ·refine Qs5 (fun r'=>r'=Qdy (id (α:=List (List Int)) l)) l _ _ ⟨fun _=>?_,fun h=>by simp at h;omega⟩
  try simp only [ZO,ZF,J0] at hx
  rw [Int.toNat_natCast,hg,sc1 (by omega),Zc,QbX]
  exact ⟨⟨⟨by omega,hk⟩,⟨.inl rfl,by have:=ZN x;rw [Q9];omega⟩,room (by omega)⟩,ih⟩
 ·refine Qs5 (fun r'=>r'=Qdy (id (α:=List (List Int)) l)) l _ _ ⟨fun h=>by simp at h,fun _=>?_⟩
  exact R_eq (by simp)
theorem QLB:Ql Tryz.prog Qpi:=Qn fun x h=>QPL x.1 h
def Qct (t:Q1):TRes:=zra (.a (Tup.cells Zg t))
def QkL:TRow:=Qk 83 [(.a [(.sl ctOp)])] fun x=>(none,Qct (Yx x.1))
def Qmw:List TRow:=[QaF]
def QD3:TCode :=
 (zsq [(zsq [(.reg [zmv 6 4,zfa 7 1 0,zld 8 7 1,zle 9 8,zbi 10 .lss 6 9,zmv 11 10,.grp 11 true [zLd 12 1 1,zca 13 74 [12]] 14 13]),(.cond 14 .skip (.exit 0))]),(.block 1 (.draw [zfa 17 3 0,zld 18 17 1,zfa 19 1 0,zld 20 19 1,zmv 21 4,zia 22 20 21 ctOp,zfa 23 22 3,zld 24 23 1,zle 25 24,zop 26 (.mk 3 [TI] [(zci 0)] 25),zop 27 (.build [(.n [TI])] [(0,1,26)]),zop 28 (.bsl 129 [(.sl [TI])] [27]),zop 29 (.app 18 28 129 [(.sl [TI])]),zfa 30 3 0,zst 30 29 1] [(0,9),(1,9),(0,11),(1,11)])),(.reg [zmv 15 4,zbi 16 .add 15 (zki 1),zmv 4 16])])
def QwI:List (Nat × Md):=[(1,.b [.d]),(2,.b [.d,.d,.d]),(3,.b [.o 129,.d,.d]),(4,.one .d)]
def Qsd:TCode :=
 (zsq [(.reg [zLd 31 3 3,zst 2 31 3]),.ret])
def QLf:TCode :=
 (zsq [(.reg [zop 1 (.box 26 0 1),zop 2 (.new 46 (z0s Zg))]),(.reg [zop 5 (.build (z0s Zg) []),zop 3 (.new 46 (z0s Zg)),zst 3 5 3]),(zsq [(.reg [zmv 4 (zki 0)]),(.block 0 (.loop QwI QD3))]),Qsd])
def Qr7:List (ARv × Md):=[(.l 2 3 true,.b [.d,.d,.d])]
def Qtl:Qb:=TQ 0 0 Qr7 K
def QKb:Qb:=Qseq (tawp Qmw 0 Qsd (Qtl K)) (Qtl K)
def QKV:Qb:=Qblk 0 (QKb K)
def QjO (m:List TOp') (i:Int) (g0:List (List Int)):Prop:=Loop Qmw 0 QwI QD3 (QKV K) ⟨[(1,(.p 0 0 0)),(2,(.p 1 0 0)),(3,(.p 3 0 0)),(4,(zci i))],[(0,(.box [(zcs ctOp m)])),(1,(.box (Tup.cells Zg ([],(0:Int),false)))),(2,(.sl 129 [(.sl [TI])] true g0)),(3,(.box [(.r [(.sl [TI])] 2 0 g0.length),(zci 0),(zcb false)]))],4⟩
theorem Qlg (m:List TOp') (i:Int) (g0:List (List Int)) (h :
 (zif ((decide (i<(m.length:Int)))&&(QT m)) ((((0:Int)≤i∧Int.toNat i<m.length)∧(((0:Int)≤(((gtd dOp m (Int.toNat i)).2.2.2).length:Int)∧(((gtd dOp m (Int.toNat i)).2.2.2).length:Int)≤big)∧((g0.length=g0.length∨g0.length+1≤g0.length)∧g0.length+1≤big)))∧(QjO K m (w64 (i+(1:Int))) (List.take (g0.length+1) ((List.take g0.length g0)++([(List.take (Int.toNat (((gtd dOp m (Int.toNat i)).2.2.2).length:Int)) (List.drop 0 (List.replicate (Int.toNat (((gtd dOp m (Int.toNat i)).2.2.2).length:Int)) (0:Int))))]))))) (K (Qct ((List.take g0.length (List.drop 0 g0)),(0:Int),false))))):QjO K m i g0 :=
 Loop.of (by kernel_rfl) h
theorem QF3 (m:List TOp') (h :
 (QjO K m 0 ([]:List (List Int)))):Hold (tawp Qmw (0+0) QLf (TQ 0 0 Qr7 K) (Qi [(.a [(.c (.sl ctOp) m)])])) :=
 Hold.of (by kernel_rfl) h
theorem QHk (m:List TOp'):TCon Tryz.prog 83 [(.a [(.c (.sl ctOp) m)])] (Qct (Yx m)):=by
 refine Qo rfl fun hb=>tcg (n:=32) (sg:=QkL.sg) Qm (TOk.cons Qck TOk.nil) (by kernel_rfl) (by kernel_rfl) (QF3 _ m ?_)
 have hl_m_0:(m).length≤9223372036854775807:=hb.1.1.1
 by_cases hm:QT m=true
 rotate_left
 ·refine Qlg (fun r'=>r'=Qct (Yx m)) m _ _ ⟨fun h=>by simp [hm] at h,fun _=>R_eq (by unfold Yx;rw [if_neg hm];rfl)⟩
 have hl:=Ym hm
 have hv:(Yx m)=(m.map fun o=>List.replicate o.2.2.2.length (0:Int),0,false):=by unfold Yx;rw [if_pos hm]
 refine Zj m (fun r k=>∀ v:List (List Int),v.length=k→v++r.map (fun o=>List.replicate o.2.2.2.length (0:Int))=m.map (fun o=>List.replicate o.2.2.2.length (0:Int))→QjO (fun r'=>r'=Qct (Yx m)) m k v) ?_ ?_ [] rfl rfl
 ·intro v hk he
  refine Qlg (fun r'=>r'=Qct (Yx m)) m _ _ ⟨fun h=>by simp at h,fun _=>R_eq ?_⟩
  rw [hv,← he];simp
 ·intro k x r hk hlt hg ih v hvl he
  have ho:=QoX (Qgb hm hlt)
  rw [hg] at ho
  refine Qlg (fun r'=>r'=Qct (Yx m)) m _ _ ⟨fun _=>?_,fun h=>by simp [hm] at h;omega⟩
  rw [Int.toNat_natCast,hg,sc1 (by omega),Int.toNat_natCast,Zc,QP3]
  refine ⟨⟨⟨by omega,hlt⟩,⟨by omega,by rw [bigI];omega⟩,room (by omega)⟩,ih _ (YS hvl) ?_⟩
  rw [← he];simp
theorem QIm:Ql Tryz.prog QkL:=Qn fun x _=>QHk x.1
def Qdu (t:(List Int) × Bool):TRes:=zra (.tp [(zcs [TI] t.1),(zcb t.2)])
def Qky:TRow:=Qk 161 [(.c (.sl [TI])),(.c (.sl [TI]))] fun x=>(some (Z2 (α:=List Int) (β:=List Int) x.1 x.2.1),Qdu (Qad x.1 x.2.1))
def Qoq:List TRow:=[Qcs]
def QqY:TCode :=
 (zsq [(zsq [(.reg [zmv 12 8,zmv 13 0,zle 14 13,zbi 15 .lss 12 14,zmv 16 15,.grp 16 true [zmv 17 8,zmv 18 1,zle 19 18,zbi 20 .lss 17 19] 21 20]),(.cond 21 .skip (.exit 0))]),(.block 1 (zsq [(.draw [zmv 25 0,zmv 26 8,zia 27 25 26 [TI],zld 28 27 1,zmv 29 1,zmv 30 8,zia 31 29 30 [TI],zld 32 31 1,zca 33 162 [28,32],zmv 24 33,zex 34 24 0,zex 35 24 1,zmv 9 34,zmv 10 35] []),(.reg [zmv 36 6,zmv 37 9,zop 38 (.bsl 3 [TI] [37]),zop 39 (.app 36 38 3 [TI]),zmv 6 39]),(.reg [zmv 40 7,zmv 41 40,.grp 41 false [zmv 42 10] 43 42,zmv 7 43])])),(.reg [zmv 22 8,zbi 23 .add 22 (zki 1),zmv 8 23])])
def Qxs:List (Nat × Md):=[(0,.one .d),(1,.one .d),(6,.one .f),(7,.one .d),(8,.one .d)]
def QDl:TCode :=
 (zsq [(.reg [zmv 44 6,zmv 45 7,zmv 4 44,zmv 5 45]),.ret])
def QNb:TCode :=
 (zsq [(.reg [zmv 4 (.k (.n [TI])),zmv 5 (zkb false)]),(.reg [zop 11 (.bsl 3 [TI] []),zmv 6 11]),(.reg [zmv 7 (zkb false)]),(zsq [(.reg [zmv 8 (zki 0)]),(.block 0 (.loop Qxs QqY))]),QDl])
def QBY:List (ARv × Md):=[(.t 4,.one .d),(.t 5,.one .d)]
def QxR:Qb:=TQ 0 0 QBY K
def QPF:Qb:=Qseq (tawp Qoq 0 QDl (QxR K)) (QxR K)
def QU6:Qb:=Qblk 0 (QPF K)
def Qkm (a:List Int) (b:List Int) (sat:Bool) (i:Int) (out:List Int):Prop:=Loop Qoq 0 Qxs QqY (QU6 K) ⟨[(0,(zcs [TI] a)),(1,(zcs [TI] b)),(6,(.r [TI] 0 0 out.length)),(7,(zcb sat)),(8,(zci i))],[(0,(.sl 3 [TI] true out))],1⟩
theorem Qoh (a:List Int) (b:List Int) (sat:Bool) (i:Int) (out:List Int) (h :
 (zif ((decide (i<(a.length:Int)))&&(decide (i<(b.length:Int)))) ((((0:Int)≤i∧Int.toNat i<a.length)∧((0:Int)≤i∧Int.toNat i<b.length))∧(((out.length=out.length∨out.length+1≤out.length)∧out.length+1≤big)∧(Qkm K a b (sat||((Q7 (gtd (0:Int) a (Int.toNat i)) (gtd (0:Int) b (Int.toNat i))).2)) (w64 (i+(1:Int))) (List.take (out.length+1) ((List.take out.length out)++([(Q7 (gtd (0:Int) a (Int.toNat i)) (gtd (0:Int) b (Int.toNat i))).1])))))) (K (Qdu ((List.take out.length (List.drop 0 out)),sat))))):Qkm K a b sat i out :=
 Loop.of (by kernel_rfl) h
theorem QWy (a:List Int) (b:List Int) (h :
 (Qkm K a b false 0 ([]:List Int))):Hold (tawp Qoq (0+0) QNb (TQ 0 0 QBY K) (Qi [(.c (.sl [TI]) a),(.c (.sl [TI]) b)])) :=
 Hold.of (by kernel_rfl) h
theorem QFv (a:List Int) (b:List Int) (hp:Z2 (α:=List Int) (β:=List Int) a b):TCon Tryz.prog 161 [(.c (.sl [TI]) a),(.c (.sl [TI]) b)] (Qdu (Qad a b)):=by
 refine Qo rfl fun hb=>tcg (n:=46) (sg:=Qky.sg) Qm (TOk.cons Qe3 TOk.nil) (by kernel_rfl) (by kernel_rfl) (QWy _ a b ?_)
 have hl_a:a.length≤9223372036854775807:=hb.1.1
 have hl_b:b.length≤9223372036854775807:=hb.2.1.1
 unfold Z2 at hp
 have ha:=ZN a
 have hb2:=ZN b
 refine Zj a (fun r k=>∀ (v:List Int) (s:Bool),v.length=k→(v++(vz Q7 r (b.drop k)).1,s||(vz Q7 r (b.drop k)).2)=(Qad a b)→Qkm (fun r'=>r'=Qdu (Qad a b)) a b s k v) ?_ ?_ [] false rfl (by unfold Qad;simp)
 ·intro v s hv he
  refine Qoh (fun r'=>r'=Qdu (Qad a b)) a b _ _ _ ⟨fun h=>by simp at h,fun _=>R_eq ?_⟩
  rw [← he];simp [vz]
 ·intro k x r hk hlt hg ih v s hv he
  by_cases hkb:k<b.length
  ·obtain ⟨y,q,hq⟩:=Jn (l:=b) (k:=k) hkb
   refine Qoh (fun r'=>r'=Qdu (Qad a b)) a b _ _ _ ⟨fun _=>?_,fun h=>by simp at h;omega⟩
   rw [Int.toNat_natCast,hg,Yb hq,sc1 (by omega),Zc]
   refine ⟨⟨⟨by omega,hlt⟩,by omega,hkb⟩,room (by omega),ih _ _ (YS hv) ?_⟩
   rw [← he,hq,vz,ZX hq]
   simp [Bool.or_assoc]
  ·refine Qoh (fun r'=>r'=Qdu (Qad a b)) a b _ _ _ ⟨fun h=>by simp at h;omega,fun _=>R_eq ?_⟩
   rw [← he,Qkf (l:=b) (by omega)];simp [vz]
theorem QNB:Ql Tryz.prog Qky:=Qn fun x h=>QFv x.1 x.2.1 h
def QaB (t:Q1):TRes:=zra (.a (Tup.cells Zg t))
def Qng:TRow:=Qk 89 [(.a Zg),(.a Zg)] fun x=>(some (Z2 (α:=Q1) (β:=Q1) x.1 x.2.1),QaB (Z5 x.1 x.2.1))
def Qc7:List TRow:=[QdW]
def QA1:TCode :=
 (zsq [(zsq [(.reg [zmv 35 8,zfa 36 2 0,zld 37 36 1,zmv 38 6,zia 39 37 38 [(.sl [TI])],zfa 40 39 0,zld 41 40 1,zle 42 41,zbi 43 .lss 35 42,zmv 44 43,.grp 44 true [zmv 45 8,zfa 46 3 0,zld 47 46 1,zmv 48 6,zia 49 47 48 [(.sl [TI])],zfa 50 49 0,zld 51 50 1,zle 52 51,zbi 53 .lss 45 52] 54 53]),(.cond 54 .skip (.exit 2))]),(.block 3 (zsq [(.draw [zfa 58 2 0,zld 59 58 1,zmv 60 6,zia 61 59 60 [(.sl [TI])],zfa 62 61 0,zld 63 62 1,zmv 64 8,zia 65 63 64 [TI],zld 66 65 1,zfa 67 3 0,zld 68 67 1,zmv 69 6,zia 70 68 69 [(.sl [TI])],zfa 71 70 0,zld 72 71 1,zmv 73 8,zia 74 72 73 [TI],zld 75 74 1,zca 76 121 [66,75],zmv 57 76,zex 77 57 0,zex 78 57 1,zmv 9 77,zmv 10 78] []),(.reg [zfa 79 7 0,zld 80 79 1,zmv 81 9,zop 82 (.bsl 3 [TI] [81]),zop 83 (.app 80 82 3 [TI]),zfa 84 7 0,zst 84 83 1]),(.reg [zfa 85 5 2,zld 86 85 1,zmv 87 86,.grp 87 false [zmv 88 10] 89 88,zfa 90 5 2,zst 90 89 1])])),(.reg [zmv 55 8,zbi 56 .add 55 (zki 1),zmv 8 56])])
def Qw5:List (Nat × Md):=[(2,.b [.d,.d,.d]),(3,.b [.d,.d,.d]),(4,.b [.d,.d,.d]),(5,.b [.f,.d,.d]),(6,.one .d),(7,.b [.o 3]),(8,.one .d)]
def QBB:TCode :=
 (.reg [zfa 91 5 0,zld 92 91 1,zLd 93 7 1,zop 94 (.bsl 129 [(.sl [TI])] [93]),zop 95 (.app 92 94 129 [(.sl [TI])]),zfa 96 5 0,zst 96 95 1])
def QDd:TCode :=
 (.reg [zmv 32 6,zbi 33 .add 32 (zki 1),zmv 6 33])
def Qqs:TCode :=
 (zsq [(zsq [(.reg [zmv 20 6,zfa 21 2 0,zld 22 21 1,zle 23 22,zbi 24 .lss 20 23,zmv 25 24,.grp 25 true [zmv 26 6,zfa 27 3 0,zld 28 27 1,zle 29 28,zbi 30 .lss 26 29] 31 30]),(.cond 31 .skip (.exit 0))]),(.block 1 (zsq [(.reg [zop 34 (.build [(.n [TI])] []),zop 7 (.new 129 [(.n [TI])]),zst 7 34 1]),(zsq [(.reg [zmv 8 (zki 0)]),(.block 2 (.loop Qw5 QA1))]),QBB])),QDd])
def QjY:List (Nat × Md):=[(2,.b [.d,.d,.d]),(3,.b [.d,.d,.d]),(4,.b [.d,.d,.d]),(5,.b [.o 129,.d,.d]),(6,.one .d)]
def Qxb:TCode :=
 (zsq [(.reg [zfa 98 2 1,zld 99 98 1,zfa 100 3 1,zld 101 100 1,zca 102 121 [99,101],zmv 97 102,zex 103 97 0,zex 104 97 1,zmv 11 103,zmv 12 104]),(.reg [zmv 105 11,zfa 106 5 1,zst 106 105 1]),(.reg [zfa 107 5 2,zld 108 107 1,zmv 109 108,.grp 109 false [zmv 110 12] 111 110,zfa 112 5 2,zst 112 111 1]),(.reg [zLd 113 5 3,zst 4 113 3]),.ret])
def QTJ:TCode :=
 (zsq [(.reg [zop 2 (.box 46 0 3),zop 3 (.box 46 1 3),zop 4 (.new 46 (z0s Zg))]),(.reg [zfa 13 2 2,zld 14 13 1,zmv 15 14,.grp 15 false [zfa 16 3 2,zld 17 16 1] 18 17,zop 19 (.build (z0s Zg) [(2,1,18)]),zop 5 (.new 46 (z0s Zg)),zst 5 19 3]),(zsq [(.reg [zmv 6 (zki 0)]),(.block 0 (.loop QjY Qqs))]),Qxb])
def QCR:List (ARv × Md):=[(.l 4 3 true,.b [.d,.d,.d])]
def QuD:Qb:=TQ 0 0 QCR K
def QM6:Qb:=Qseq (tawp Qc7 0 Qxb (QuD K)) (QuD K)
def Qnq:Qb:=Qblk 0 (QM6 K)
def QDT:Qb:=Qseq (fun s'=>Loop Qc7 0 QjY Qqs (Qnq K) (gc 0 QjY s')) (Qnq K)
def QKP:Qb:=Qseq (tawp Qc7 0 QDd (QDT K)) (QDT K)
def QsV:Qb:=Qblk 1 (QKP K)
def QRE:Qb:=Qseq (tawp Qc7 0 QBB (QsV K)) (QsV K)
def QRU:Qb:=Qblk 2 (QRE K)
def Qjz (a:Q1) (b:Q1) (k:Int) (g2:Bool) (row0:List Int) (i:Int) (g01:List (List Int)):Prop:=Loop Qc7 0 Qw5 QA1 (QRU K) ⟨[(2,(.p 0 0 0)),(3,(.p 1 0 0)),(4,(.p 2 0 0)),(5,(.p 4 0 0)),(6,(zci i)),(7,(.p 6 0 0)),(8,(zci k))],[(0,(.box (Tup.cells Zg a))),(1,(.box (Tup.cells Zg b))),(2,(.box (Tup.cells Zg ([],(0:Int),false)))),(3,(.sl 129 [(.sl [TI])] true g01)),(4,(.box [(.r [(.sl [TI])] 3 0 g01.length),(zci 0),(zcb g2)])),(5,(.sl 3 [TI] true row0)),(6,(.box [(.r [TI] 5 0 row0.length)]))],7⟩
def QiJ (a:Q1) (b:Q1) (i:Int) (g0:List (List Int)) (g21:Bool):Prop:=Loop Qc7 0 QjY Qqs (Qnq K) ⟨[(2,(.p 0 0 0)),(3,(.p 1 0 0)),(4,(.p 2 0 0)),(5,(.p 4 0 0)),(6,(zci i))],[(0,(.box (Tup.cells Zg a))),(1,(.box (Tup.cells Zg b))),(2,(.box (Tup.cells Zg ([],(0:Int),false)))),(3,(.sl 129 [(.sl [TI])] true g0)),(4,(.box [(.r [(.sl [TI])] 3 0 g0.length),(zci 0),(zcb g21)]))],5⟩
theorem QzU (a:Q1) (b:Q1) (k:Int) (g2:Bool) (row0:List Int) (i:Int) (g01:List (List Int)) (h :
 ((((0:Int)≤i∧Int.toNat i<(a.1).length)∧((decide (k<((gtd ([]:List Int) a.1 (Int.toNat i)).length:Int)))=true→((0:Int)≤i∧Int.toNat i<(b.1).length)))∧(zif ((decide (k<((gtd ([]:List Int) a.1 (Int.toNat i)).length:Int)))&&(decide (k<((gtd ([]:List Int) b.1 (Int.toNat i)).length:Int)))) ((((0:Int)≤i∧Int.toNat i<(a.1).length)∧(((0:Int)≤k∧Int.toNat k<(gtd ([]:List Int) a.1 (Int.toNat i)).length)∧(((0:Int)≤i∧Int.toNat i<(b.1).length)∧((0:Int)≤k∧Int.toNat k<(gtd ([]:List Int) b.1 (Int.toNat i)).length))))∧(((row0.length=row0.length∨row0.length+1≤row0.length)∧row0.length+1≤big)∧(Qjz K a b (w64 (k+(1:Int))) (g2||((Q7 (gtd (0:Int) (gtd ([]:List Int) a.1 (Int.toNat i)) (Int.toNat k)) (gtd (0:Int) (gtd ([]:List Int) b.1 (Int.toNat i)) (Int.toNat k))).2)) (List.take (row0.length+1) ((List.take row0.length row0)++([(Q7 (gtd (0:Int) (gtd ([]:List Int) a.1 (Int.toNat i)) (Int.toNat k)) (gtd (0:Int) (gtd ([]:List Int) b.1 (Int.toNat i)) (Int.toNat k))).1]))) i (List.take g01.length g01)))) (((g01.length=g01.length∨g01.length+1≤g01.length)∧g01.length+1≤big)∧(QiJ K a b (w64 (i+(1:Int))) (List.take (g01.length+1) ((List.take g01.length g01)++([(List.take row0.length (List.drop 0 row0))]))) g2))))):Qjz K a b k g2 row0 i g01 :=
 Loop.of (by kernel_rfl) h
theorem QkA (a:Q1) (b:Q1) (i:Int) (g0:List (List Int)) (g21:Bool) (h :
 (zif ((decide (i<((a.1).length:Int)))&&(decide (i<((b.1).length:Int)))) (Qjz K a b 0 g21 ([]:List Int) i (List.take g0.length g0)) (K (QaB ((List.take g0.length (List.drop 0 g0)),(Q7 a.2.1 b.2.1).1,(g21||((Q7 a.2.1 b.2.1).2))))))):QiJ K a b i g0 g21 :=
 Loop.of (by kernel_rfl) h
theorem QXL (a:Q1) (b:Q1) (h :
 (QiJ K a b 0 ([]:List (List Int)) (a.2.2||b.2.2))):Hold (tawp Qc7 (0+0) QTJ (TQ 0 0 QCR K) (Qi [(.a (Tup.cells Zg a)),(.a (Tup.cells Zg b))])) :=
 Hold.of (by kernel_rfl) h
theorem QPY (a:Q1) (b:Q1) (hp:Z2 (α:=Q1) (β:=Q1) a b):TCon Tryz.prog 89 [(.a (Tup.cells Zg a)),(.a (Tup.cells Zg b))] (QaB (Z5 a b)):=by
 refine Qo rfl fun hb=>tcg (n:=114) (sg:=Qng.sg) Qm (TOk.cons Qhk TOk.nil) (by kernel_rfl) (by kernel_rfl) (QXL _ a b ?_)
 have hl_a_0:(a.1).length≤9223372036854775807:=hb.1.1.1
 have hl_b_0:(b.1).length≤9223372036854775807:=hb.2.1.1.1
 unfold Z2 at hp
 simp only [ZO,ZF,J0] at hp
 have ha:=YW a.1
 refine Zj a.1 (fun r k=>∀ (v:List (List Int)) (z:Bool),v.length=k→v++(ZC r (b.1.drop k)).1=(ZC a.1 b.1).1→(z||(ZC r (b.1.drop k)).2)=(a.2.2||b.2.2||(ZC a.1 b.1).2)→QiJ (fun r'=>r'=QaB (Z5 a b)) a b k v z) ?_ ?_ [] _ rfl (by simp) (by simp)
 ·intro v z hv he hz
  refine QkA (fun r'=>r'=QaB (Z5 a b)) a b _ _ _ ⟨fun h=>by simp at h,fun _=>R_eq ?_⟩
  unfold Z5;rw [← he,← hz];simp [ZC]
 ·intro k x r hk hlt hg ih v z hv he hz
  by_cases hkb:k<b.1.length
  ·obtain ⟨y,q,hq⟩:=Jn (l:=b.1) (k:=k) hkb
   have hx:=QeM hk
   have hxl:=ZN x
   refine QkA (fun r'=>r'=QaB (Z5 a b)) a b _ _ _ ⟨fun _=>?_,fun h=>by simp at h;omega⟩
   rw [List.take_length]
   refine Zj x (fun r2 j=>∀ (w:List Int) (z2:Bool),w.length=j→w++(vz Q7 r2 (y.drop j)).1=(vz Q7 x y).1→(z2||(vz Q7 r2 (y.drop j)).2)=(z||(vz Q7 x y).2)→Qjz (fun r'=>r'=QaB (Z5 a b)) a b j z2 w k v) ?_ ?_ [] z rfl (by simp) (by simp)
   ·intro w z2 hw he2 hz2
    refine QzU (fun r'=>r'=QaB (Z5 a b)) a b _ _ _ _ _ ?_
    rw [Int.toNat_natCast,hg,Yb hq]
    refine ⟨⟨⟨by omega,hlt⟩,fun h=>by simp at h⟩,fun h=>by simp at h,fun _=>⟨room (by omega),?_⟩⟩
    rw [QaA,sc1 (by omega),Zc]
    simp only [vz,List.append_nil,Bool.or_false] at he2 hz2
    refine ih _ _ (YS hv) ?_ ?_
    ·rw [← he,hq,ZC,ZX hq,he2];simp
    ·rw [← hz,hq,ZC,ZX hq,hz2];simp [Bool.or_assoc]
   ·intro j e r2 hj hlt2 hg2 ih2 w z2 hw he2 hz2
    refine QzU (fun r'=>r'=QaB (Z5 a b)) a b _ _ _ _ _ ?_
    rw [Int.toNat_natCast,Int.toNat_natCast,hg,Yb hq]
    by_cases hjy:j<y.length
    ·obtain ⟨f,q2,hq2⟩:=Jn (l:=y) (k:=j) hjy
     refine ⟨⟨⟨by omega,hlt⟩,fun _=>⟨by omega,hkb⟩⟩,fun _=>?_,fun h=>by simp at h;omega⟩
     rw [hg2,Yb hq2,sc1 (by omega),Zc,List.take_length]
     refine ⟨⟨⟨by omega,hlt⟩,⟨by omega,hlt2⟩,⟨by omega,hkb⟩,by omega,hjy⟩,room (by omega),ih2 _ _ (YS hw) ?_ ?_⟩
     ·rw [← he2,hq2,vz,ZX hq2];simp
     ·rw [← hz2,hq2,vz,ZX hq2];simp [Bool.or_assoc]
    ·refine ⟨⟨⟨by omega,hlt⟩,fun _=>⟨by omega,hkb⟩⟩,fun h=>by simp at h;omega,fun _=>⟨room (by omega),?_⟩⟩
     rw [QaA,sc1 (by omega),Zc]
     rw [Qkf (l:=y) (by omega)] at he2 hz2
     simp only [vz,List.append_nil,Bool.or_false] at he2 hz2
     refine ih _ _ (YS hv) ?_ ?_
     ·rw [← he,hq,ZC,ZX hq,he2];simp
     ·rw [← hz,hq,ZC,ZX hq,hz2];simp [Bool.or_assoc]
  ·refine QkA (fun r'=>r'=QaB (Z5 a b)) a b _ _ _ ⟨fun h=>by simp at h;omega,fun _=>R_eq ?_⟩
   unfold Z5;rw [← he,← hz,Qkf (l:=b.1) (by omega)];simp [ZC]
theorem QRl:Ql Tryz.prog Qng:=Qn fun x h=>QPY x.1 x.2.1 h
def Qc4 (t:Q1):TRes:=zra (.a (Tup.cells Zg t))
def QmM:TRow:=Qk 84 [(.a Zg),(.a Zg)] fun x=>(some (Z2 (α:=Q1) (β:=Q1) x.1 x.2.1),Qc4 (Z5 x.1 x.2.1))
def Qn1:List TRow:=[Qky,Qcs]
def Qx3:TCode :=
 (zsq [(zsq [(.reg [zmv 18 6,zfa 19 2 0,zld 20 19 1,zle 21 20,zbi 22 .lss 18 21,zmv 23 22,.grp 23 true [zmv 24 6,zfa 25 3 0,zld 26 25 1,zle 27 26,zbi 28 .lss 24 27] 29 28]),(.cond 29 .skip (.exit 0))]),(.block 1 (zsq [(.draw [zfa 33 2 0,zld 34 33 1,zmv 35 6,zia 36 34 35 [(.sl [TI])],zfa 37 36 0,zld 38 37 1,zfa 39 3 0,zld 40 39 1,zmv 41 6,zia 42 40 41 [(.sl [TI])],zfa 43 42 0,zld 44 43 1,zca 45 161 [38,44],zmv 32 45,zex 46 32 0,zex 47 32 1,zmv 7 46,zmv 8 47] []),(.reg [zfa 48 5 0,zld 49 48 1,zmv 50 7,zop 51 (.build [(.n [TI])] [(0,1,50)]),zop 52 (.bsl 129 [(.sl [TI])] [51]),zop 53 (.app 49 52 129 [(.sl [TI])]),zfa 54 5 0,zst 54 53 1]),(.reg [zfa 55 5 2,zld 56 55 1,zmv 57 56,.grp 57 false [zmv 58 8] 59 58,zfa 60 5 2,zst 60 59 1])])),(.reg [zmv 30 6,zbi 31 .add 30 (zki 1),zmv 6 31])])
def QyP:List (Nat × Md):=[(2,.b [.d,.d,.d]),(3,.b [.d,.d,.d]),(4,.b [.d,.d,.d]),(5,.b [.o 129,.d,.d]),(6,.one .d)]
def QsN:TCode :=
 (zsq [(.reg [zfa 62 2 1,zld 63 62 1,zfa 64 3 1,zld 65 64 1,zca 66 162 [63,65],zmv 61 66,zex 67 61 0,zex 68 61 1,zmv 9 67,zmv 10 68]),(.reg [zmv 69 9,zfa 70 5 1,zst 70 69 1]),(.reg [zfa 71 5 2,zld 72 71 1,zmv 73 72,.grp 73 false [zmv 74 10] 75 74,zfa 76 5 2,zst 76 75 1]),(.reg [zLd 77 5 3,zst 4 77 3]),.ret])
def QK5:TCode :=
 (zsq [(.reg [zop 2 (.box 46 0 3),zop 3 (.box 46 1 3),zop 4 (.new 46 (z0s Zg))]),(.reg [zfa 11 2 2,zld 12 11 1,zmv 13 12,.grp 13 false [zfa 14 3 2,zld 15 14 1] 16 15,zop 17 (.build (z0s Zg) [(2,1,16)]),zop 5 (.new 46 (z0s Zg)),zst 5 17 3]),(zsq [(.reg [zmv 6 (zki 0)]),(.block 0 (.loop QyP Qx3))]),QsN])
def QxE:List (ARv × Md):=[(.l 4 3 true,.b [.d,.d,.d])]
def Qvq:Qb:=TQ 0 0 QxE K
def QKA:Qb:=Qseq (tawp Qn1 0 QsN (Qvq K)) (Qvq K)
def QE9:Qb:=Qblk 0 (QKA K)
def Qg8 (a:Q1) (b:Q1) (i:Int) (g0:List (List Int)) (g2:Bool):Prop:=Loop Qn1 0 QyP Qx3 (QE9 K) ⟨[(2,(.p 0 0 0)),(3,(.p 1 0 0)),(4,(.p 2 0 0)),(5,(.p 4 0 0)),(6,(zci i))],[(0,(.box (Tup.cells Zg a))),(1,(.box (Tup.cells Zg b))),(2,(.box (Tup.cells Zg ([],(0:Int),false)))),(3,(.sl 129 [(.sl [TI])] true g0)),(4,(.box [(.r [(.sl [TI])] 3 0 g0.length),(zci 0),(zcb g2)]))],5⟩
theorem Qp2 (a:Q1) (b:Q1) (i:Int) (g0:List (List Int)) (g2:Bool) (h :
 (zif ((decide (i<((a.1).length:Int)))&&(decide (i<((b.1).length:Int)))) ((((0:Int)≤i∧Int.toNat i<(a.1).length)∧(((0:Int)≤i∧Int.toNat i<(b.1).length)∧(Z2 (α:=List Int) (β:=List Int) (gtd ([]:List Int) a.1 (Int.toNat i)) (gtd ([]:List Int) b.1 (Int.toNat i)))))∧(((g0.length=g0.length∨g0.length+1≤g0.length)∧g0.length+1≤big)∧(Qg8 K a b (w64 (i+(1:Int))) (List.take (g0.length+1) ((List.take g0.length g0)++([(Qad (gtd ([]:List Int) a.1 (Int.toNat i)) (gtd ([]:List Int) b.1 (Int.toNat i))).1]))) (g2||((Qad (gtd ([]:List Int) a.1 (Int.toNat i)) (gtd ([]:List Int) b.1 (Int.toNat i))).2))))) (K (Qc4 ((List.take g0.length (List.drop 0 g0)),(Q7 a.2.1 b.2.1).1,(g2||((Q7 a.2.1 b.2.1).2))))))):Qg8 K a b i g0 g2 :=
 Loop.of (by kernel_rfl) h
theorem QG0 (a:Q1) (b:Q1) (h :
 (Qg8 K a b 0 ([]:List (List Int)) (a.2.2||b.2.2))):Hold (tawp Qn1 (0+0) QK5 (TQ 0 0 QxE K) (Qi [(.a (Tup.cells Zg a)),(.a (Tup.cells Zg b))])) :=
 Hold.of (by kernel_rfl) h
theorem QOQ (a:Q1) (b:Q1) (hp:Z2 (α:=Q1) (β:=Q1) a b):TCon Tryz.prog 84 [(.a (Tup.cells Zg a)),(.a (Tup.cells Zg b))] (Qc4 (Z5 a b)):=by
 refine Qo rfl fun hb=>tcg (n:=78) (sg:=QmM.sg) Qm (TOk.cons QNB (TOk.cons Qe3 TOk.nil)) (by kernel_rfl) (by kernel_rfl) (QG0 _ a b ?_)
 have hl_a_0:(a.1).length≤9223372036854775807:=hb.1.1.1
 have hl_b_0:(b.1).length≤9223372036854775807:=hb.2.1.1.1
 unfold Z2 at hp
 simp only [ZO,ZF,J0] at hp
 have ha:=YW a.1
 refine Zj a.1 (fun r k=>∀ (v:List (List Int)) (z:Bool),v.length=k→v++(ZC r (b.1.drop k)).1=(ZC a.1 b.1).1→(z||(ZC r (b.1.drop k)).2)=(a.2.2||b.2.2||(ZC a.1 b.1).2)→Qg8 (fun r'=>r'=Qc4 (Z5 a b)) a b k v z) ?_ ?_ [] _ rfl (by simp) (by simp)
 ·intro v z hv he hz
  refine Qp2 (fun r'=>r'=Qc4 (Z5 a b)) a b _ _ _ ⟨fun h=>by simp at h,fun _=>R_eq ?_⟩
  unfold Z5;rw [← he,← hz];simp [ZC]
 ·intro k x r hk hlt hg ih v z hv he hz
  by_cases hkb:k<b.1.length
  ·obtain ⟨y,q,hq⟩:=Jn (l:=b.1) (k:=k) hkb
   have hx:=QeM hk
   have hy:=QeM hq
   refine Qp2 (fun r'=>r'=Qc4 (Z5 a b)) a b _ _ _ ⟨fun _=>?_,fun h=>by simp at h;omega⟩
   rw [Int.toNat_natCast,hg,Yb hq,sc1 (by omega),Zc]
   refine ⟨⟨⟨by omega,hlt⟩,⟨by omega,hkb⟩,by unfold Z2;omega⟩,room (by omega),ih _ _ (YS hv) ?_ ?_⟩
   ·rw [← he,hq,ZC,ZX hq];simp [Qad]
   ·rw [← hz,hq,ZC,ZX hq];simp [Qad,Bool.or_assoc]
  ·refine Qp2 (fun r'=>r'=Qc4 (Z5 a b)) a b _ _ _ ⟨fun h=>by simp at h;omega,fun _=>R_eq ?_⟩
   unfold Z5;rw [← he,← hz,Qkf (l:=b.1) (by omega)];simp [ZC]
theorem QWF:Ql Tryz.prog QmM:=Qn fun x h=>QOQ x.1 x.2.1 h
end
end Go.Proofs.YtjbdljkhbglnhaaGreat.Am

