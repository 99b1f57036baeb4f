/- -/
import Derived.Test.YtdplaepmjogjjaaGreatVAPF
import Derived.Test.YtdplaepmjogjjaaGreatVAP4
namespace Go.Proofs.YtdplaepmjogjjaaGreat.Am
open Go Go.RowKit Go.Proofs.YtdplaepmjogjjaaGreat
set_option linter.all false
noncomputable section
variable (K:TRes→Prop)
def Qan (t:(List TOp')):TRes:=⟨(.r ctOp 0 0 t.length),[(.sl 134 ctOp (.dp 0 true []) t)],[],false,[]⟩
def Qhp:TRow:=Qh 165 [(.c (.sl ctOp))] fun x=>(some (Qw (α:=List TOp') x.1),Qan (id (α:=List TOp') x.1))
def Qdq:TTab:=⟨[Qa8],true⟩
def Qti:TCode :=
 (zsq [(.reg [zbi 10 .lss 9 8]),(.cond 10 .skip (.exit 0)),(.block 1 (zsq [(.reg [zia 11 7 9 ctOp,zLd 12 11 4,zop 5 (.new 134 (z0s ctOp)),zst 5 12 4]),(.draw [zmv 13 3,zfa 14 5 0,zld 15 14 1,zfa 16 5 1,zld 17 16 1,zfa 18 5 2,zld 19 18 1,zfa 20 5 3,zld 21 20 1,zca 22 104 [21],zop 23 (.build (z0s ctOp) [(0,1,15),(1,1,17),(2,1,19),(3,1,22)]),zop 24 (.bsl 134 ctOp [23]),zop 25 (.app 13 24 134 ctOp),zmv 3 25] [(1,9),(2,9),(3,9),(4,9),(5,9),(6,9)])])),(.reg [zbi 26 .add 9 (zki 1),zmv 9 26])])
def QsX:List (Nat × Md):=[(3,.one .f),(7,.one .d),(8,.one .d),(9,.one .d)]
def Qqa:TCode :=
 (zsq [(.reg [zmv 27 3,zmv 2 27]),.ret])
def Qwe:TCode :=
 (zsq [(.reg [zmv 2 (.k (.n ctOp))]),(.reg [zop 6 (.bsl 134 ctOp []),zmv 3 6]),(zsq [(.reg [zmv 7 0,zle 8 7,zmv 9 (zki 0)]),(.block 0 (.loop QsX Qti))]),Qqa])
def Qpv:List (ARv × Md):=[(.t 2,.one (.p 134))]
def QpR:Qb:=TQ 0 0 Qpv K
def QGF:Qb:=Qseq (tawp Qdq 0 Qqa (QpR K)) (QpR K)
def QCb:Qb:=Qblk 0 (QGF K)
def QgN (l:List TOp') (x:Int) (ops:List TOp'):Prop:=Loop Qdq 0 QsX Qti (QCb K) ⟨[(3,(.r ctOp 0 0 ops.length)),(7,(zcs ctOp l)),(8,(zci (l.length:Int))),(9,(zci x))],[(0,(.sl 134 ctOp (.dp 0 true []) ops))],1⟩
theorem Qna (l:List TOp') (x:Int) (ops:List TOp') (h :
 (zif (decide (x<(l.length:Int))) (((0:Int)≤x∧Int.toNat x<l.length)∧(((Qw (α:=List Int) ((gtd dOp l (Int.toNat x)).2.2.2))∧((ops.length=ops.length∨ops.length+1≤ops.length)∧ops.length+1≤big))∧(QgN K l (w64 (x+(1:Int))) (List.take (ops.length+1) ((List.take ops.length ops)++([((gtd dOp l (Int.toNat x)).1,(gtd dOp l (Int.toNat x)).2.1,(gtd dOp l (Int.toNat x)).2.2.1,(List.take ((id (α:=List Int) ((gtd dOp l (Int.toNat x)).2.2.2)).length) (List.drop 0 (id (α:=List Int) ((gtd dOp l (Int.toNat x)).2.2.2)))))])))))) (K (Qan (List.take ops.length ops))))):QgN K l x ops :=
 Loop.of (by kernel_rfl) h
theorem QFV (l:List TOp') (h :
 (QgN K l 0 ([]:List TOp'))):Hold (tawp Qdq (0+0) Qwe (TQ 0 0 Qpv K) (Qf [(.c (.sl ctOp) l)])) :=
 Hold.of (by kernel_rfl) h
theorem QFv (l:List TOp') (hp:Qw (α:=List TOp') l):TCon Tryz.prog 165 [(.c (.sl ctOp) l)] (Qan (id (α:=List TOp') l)):=by
 refine Qj rfl fun hb=>tcg (Γ:=Qdq) (n:=28) (sg:=Qhp.sg) Qi (TOkL.cons Qdc TOkL.nil) (by kernel_rfl) (by kernel_rfl) (QFV _ l ?_)
 have hl_l:l.length≤9223372036854775807:=hb.1.1
 refine QaT (Q:=fun z=>Qan z=Qan (id (α:=List TOp') l)) hp (fun k x v hk hl hg hv hx ih=>?_) (fun hq=>?_) (R_eq rfl)
 ·refine Qna (fun r'=>r'=Qan (id (α:=List TOp') l)) l _ _ ⟨fun _=>?_,fun h=>by simp at h;omega⟩
  try simp only [QL,QI,QS] at hx
  rw [Int.toNat_natCast,hg,sc1 (by omega),ZI,Qfq]
  exact ⟨⟨by omega,hk⟩,⟨(show Sz.sz (_:List Int)≤2147483648 by omega),room (by omega)⟩,ih⟩
 ·refine Qna (fun r'=>r'=Qan (id (α:=List TOp') l)) l _ _ ⟨fun h=>by simp at h,fun _=>?_⟩
  exact R_eq (by simp)
theorem QDA:Qg Tryz.prog Qhp:=Qk fun x h=>QFv x.1 h
def Qaz (t:(List (List Int))):TRes:=⟨(.r [(.sl [TI])] 0 0 t.length),[(.sl 106 [(.sl [TI])] (.dp 0 true []) t)],[],false,[]⟩
def Qes:TRow:=Qh 103 [(.c (.sl [(.sl [TI])]))] fun x=>(some (Qw (α:=List (List Int)) x.1),Qaz (id (α:=List (List Int)) x.1))
def QdL:TTab:=⟨[Qa8],true⟩
def QsO:TCode :=
 (zsq [(.reg [zbi 10 .lss 9 8]),(.cond 10 .skip (.exit 0)),(.block 1 (zsq [(.reg [zia 11 7 9 [(.sl [TI])],zLd 12 11 1,zop 5 (.new 106 [(.n [TI])]),zst 5 12 1]),(.reg [zmv 13 3,zfa 14 5 0,zld 15 14 1,zca 16 104 [15],zop 17 (.build [(.n [TI])] [(0,1,16)]),zop 18 (.bsl 106 [(.sl [TI])] [17]),zop 19 (.app 13 18 106 [(.sl [TI])]),zmv 3 19])])),(.reg [zbi 20 .add 9 (zki 1),zmv 9 20])])
def QkQ:List (Nat × Md):=[(3,.one .f),(7,.one .d),(8,.one .d),(9,.one .d)]
def QqO:TCode :=
 (zsq [(.reg [zmv 21 3,zmv 2 21]),.ret])
def QAw:TCode :=
 (zsq [(.reg [zmv 2 (.k (.n [(.sl [TI])]))]),(.reg [zop 6 (.bsl 106 [(.sl [TI])] []),zmv 3 6]),(zsq [(.reg [zmv 7 0,zle 8 7,zmv 9 (zki 0)]),(.block 0 (.loop QkQ QsO))]),QqO])
def QsQ:List (ARv × Md):=[(.t 2,.one (.p 106))]
def QsE:Qb:=TQ 0 0 QsQ K
def QxA:Qb:=Qseq (tawp QdL 0 QqO (QsE K)) (QsE K)
def QCo:Qb:=Qblk 0 (QxA K)
def Qgb (l:List (List Int)) (x:Int) (rows:List (List Int)):Prop:=Loop QdL 0 QkQ QsO (QCo K) ⟨[(3,(.r [(.sl [TI])] 0 0 rows.length)),(7,(zcs [(.sl [TI])] l)),(8,(zci (l.length:Int))),(9,(zci x))],[(0,(.sl 106 [(.sl [TI])] (.dp 0 true []) rows))],1⟩
theorem Qs9 (l:List (List Int)) (x:Int) (rows:List (List Int)) (h :
 (zif (decide (x<(l.length:Int))) (((0:Int)≤x∧Int.toNat x<l.length)∧(((Qw (α:=List Int) (gtd ([]:List Int) l (Int.toNat x)))∧((rows.length=rows.length∨rows.length+1≤rows.length)∧rows.length+1≤big))∧(Qgb K l (w64 (x+(1:Int))) (List.take (rows.length+1) ((List.take rows.length rows)++([(List.take ((id (α:=List Int) (gtd ([]:List Int) l (Int.toNat x))).length) (List.drop 0 (id (α:=List Int) (gtd ([]:List Int) l (Int.toNat x)))))])))))) (K (Qaz (List.take rows.length rows))))):Qgb K l x rows :=
 Loop.of (by kernel_rfl) h
theorem Qvg (l:List (List Int)) (h :
 (Qgb K l 0 ([]:List (List Int)))):Hold (tawp QdL (0+0) QAw (TQ 0 0 QsQ K) (Qf [(.c (.sl [(.sl [TI])]) l)])) :=
 Hold.of (by kernel_rfl) h
theorem QzP (l:List (List Int)) (hp:Qw (α:=List (List Int)) l):TCon Tryz.prog 103 [(.c (.sl [(.sl [TI])]) l)] (Qaz (id (α:=List (List Int)) l)):=by
 refine Qj rfl fun hb=>tcg (Γ:=QdL) (n:=22) (sg:=Qes.sg) Qi (TOkL.cons Qdc TOkL.nil) (by kernel_rfl) (by kernel_rfl) (Qvg _ l ?_)
 have hl_l:l.length≤9223372036854775807:=hb.1.1
 refine QaT (Q:=fun z=>Qaz z=Qaz (id (α:=List (List Int)) l)) hp (fun k x v hk hl hg hv hx ih=>?_) (fun hq=>?_) (R_eq rfl)
 ·refine Qs9 (fun r'=>r'=Qaz (id (α:=List (List Int)) l)) l _ _ ⟨fun _=>?_,fun h=>by simp at h;omega⟩
  try simp only [QL,QI,QS] at hx
  rw [Int.toNat_natCast,hg,sc1 (by omega),ZI,Qfq]
  exact ⟨⟨by omega,hk⟩,⟨(show Sz.sz (_:List Int)≤2147483648 by omega),room (by omega)⟩,ih⟩
 ·refine Qs9 (fun r'=>r'=Qaz (id (α:=List (List Int)) l)) l _ _ ⟨fun h=>by simp at h,fun _=>?_⟩
  exact R_eq (by simp)
theorem Qlk:Qg Tryz.prog Qes:=Qk fun x h=>QzP x.1 h
def Qij (t:Qr):TRes:=⟨(.a [(.r [(.sl [TI])] 0 0 ((t.1).length)),(zci t.2.1),(zcb t.2.2)]),[(.sl 106 [(.sl [TI])] (.dp 0 true []) t.1)],[],false,[]⟩
def QfM:TRow:=Qh 166 [(.a Zi)] fun x=>(some (Qw (α:=Qr) x.1),Qij (id (α:=Qr) x.1))
def Qnq:TTab:=⟨[Qes],true⟩
def Qul:TCode :=
 (zsq [(.reg [zop 1 (.box 37 0 3),zop 2 (.new 37 (z0s Zi))]),(.draw [zfa 3 1 0,zld 4 3 1,zca 5 103 [4],zfa 6 1 1,zld 7 6 1,zfa 8 1 2,zld 9 8 1,zop 10 (.build (z0s Zi) [(0,1,5),(1,1,7),(2,1,9)]),zst 2 10 3] [(2,3),(2,4),(2,5),(2,6)]),.ret])
def QGj:List (ARv × Md):=[(.l 2 3 true,.b [.p 106,.d,.d])]
theorem QCd (g:Qr) (h :
 ((Qw (α:=List (List Int)) g.1)∧K (Qij ((List.take ((id (α:=List (List Int)) g.1).length) (id (α:=List (List Int)) g.1)),g.2.1,g.2.2)))):Hold (tawp Qnq (0+0) Qul (TQ 0 0 QGj K) (Qf [(.a (Tup.cells Zi g))])) :=
 Hold.of (by kernel_rfl) h
theorem QDB (g:Qr) (hp:Qw (α:=Qr) g):TCon Tryz.prog 166 [(.a (Tup.cells Zi g))] (Qij (id (α:=Qr) g)):=by
 refine Qj rfl fun hb=>tcg (Γ:=Qnq) (n:=11) (sg:=QfM.sg) Qi (TOkL.cons Qlk TOkL.nil) (by kernel_rfl) (by kernel_rfl) (QCd _ g ?_)
 have hl_g_0:(g.1).length≤9223372036854775807:=hb.1.1.1
 unfold Qw at hp
 simp only [QL,QI,QS] at hp
 exact ⟨hp,R_eq (by simp)⟩
theorem Qxa:Qg Tryz.prog QfM:=Qk fun x h=>QDB x.1 h
def JS (t:(List TOp')):TRes:=zra (zcs ctOp t)
def QjC:TRow:=Qh 155 [(.c (.sl ctOp))] fun x=>(some (Qw (α:=List TOp') x.1),JS (id (α:=List TOp') x.1))
def Qfb:TTab:=⟨[],false⟩
def Qm4:TCode :=
 (zsq [(zsq [(.reg [zmv 7 4,zmv 8 0,zle 9 8,zbi 10 .lss 7 9]),(.cond 10 .skip (.exit 0))]),(.block 1 (zsq [(.reg [zmv 13 0,zmv 14 4,zia 15 13 14 ctOp,zLd 16 15 4,zop 5 (.new 134 (z0s ctOp)),zst 5 16 4]),(.reg [zop 17 (.bsl 3 [TI] []),zmv 18 0,zmv 19 4,zia 20 18 19 ctOp,zfa 21 20 3,zld 22 21 1,zop 23 (.app 17 22 3 [TI]),zfa 24 5 3,zst 24 23 1]),(.reg [zmv 25 3,zLd 26 5 4,zop 27 (.bsl 134 ctOp [26]),zop 28 (.app 25 27 134 ctOp),zmv 3 28])])),(.reg [zmv 11 4,zbi 12 .add 11 (zki 1),zmv 4 12])])
def QjS:List (Nat × Md):=[(0,.one .d),(3,.one .f),(4,.one .d)]
def Qmu:TCode :=
 (zsq [(.reg [zmv 29 3,zmv 2 29]),.ret])
def QF2:TCode :=
 (zsq [(.reg [zmv 2 (.k (.n ctOp))]),(.reg [zop 6 (.bsl 134 ctOp []),zmv 3 6]),(zsq [(.reg [zmv 4 (zki 0)]),(.block 0 (.loop QjS Qm4))]),Qmu])
def Qm6:List (ARv × Md):=[(.t 2,.one .d)]
def Qnc:Qb:=TQ 0 0 Qm6 K
def Qvy:Qb:=Qseq (tawp Qfb 0 Qmu (Qnc K)) (Qnc K)
def QFw:Qb:=Qblk 0 (Qvy K)
def Qf5 (l:List TOp') (i:Int) (out:List TOp'):Prop:=Loop Qfb 0 QjS Qm4 (QFw K) ⟨[(0,(zcs ctOp l)),(3,(.r ctOp 0 0 out.length)),(4,(zci i))],[(0,(.sl 134 ctOp .ow out))],1⟩
theorem QrV (l:List TOp') (i:Int) (out:List TOp') (h :
 (zif (decide (i<(l.length:Int))) (((0:Int)≤i∧Int.toNat i<l.length)∧((((0:Int)≤i∧Int.toNat i<l.length)∧((0=0∨0+((gtd dOp l (Int.toNat i)).2.2.2).length≤0)∧0+((gtd dOp l (Int.toNat i)).2.2.2).length≤big))∧(((out.length=out.length∨out.length+1≤out.length)∧out.length+1≤big)∧(Qf5 K l (w64 (i+(1:Int))) (List.take (out.length+1) ((List.take out.length out)++([((gtd dOp l (Int.toNat i)).1,(gtd dOp l (Int.toNat i)).2.1,(gtd dOp l (Int.toNat i)).2.2.1,(List.take (0+((gtd dOp l (Int.toNat i)).2.2.2).length) (List.drop 0 ((gtd dOp l (Int.toNat i)).2.2.2))))]))))))) (K (JS (List.take out.length (List.drop 0 out)))))):Qf5 K l i out :=
 Loop.of (by kernel_rfl) h
theorem Qzx (l:List TOp') (h :
 (Qf5 K l 0 ([]:List TOp'))):Hold (tawp Qfb (0+0) QF2 (TQ 0 0 Qm6 K) (Qf [(.c (.sl ctOp) l)])) :=
 Hold.of (by kernel_rfl) h
theorem Qun (l:List TOp') (hp:Qw (α:=List TOp') l):TCon Tryz.prog 155 [(.c (.sl ctOp) l)] (JS (id (α:=List TOp') l)):=by
 refine Qj rfl fun hb=>tcg (Γ:=Qfb) (n:=30) (sg:=QjC.sg) Qi TOkL.nil (by kernel_rfl) (by kernel_rfl) (Qzx _ l ?_)
 have hl_l:l.length≤9223372036854775807:=hb.1.1
 refine QaT (Q:=fun z=>JS z=JS (id (α:=List TOp') l)) hp (fun k x v hk hl hg hv hx ih=>?_) (fun hq=>?_) (R_eq rfl)
 ·refine QrV (fun r'=>r'=JS (id (α:=List TOp') l)) l _ _ ⟨fun _=>?_,fun h=>by simp at h;omega⟩
  try simp only [QL,QI,QS] at hx
  rw [Int.toNat_natCast,hg,sc1 (by omega),ZI,Qjs]
  exact ⟨⟨by omega,hk⟩,⟨⟨by omega,hk⟩,.inl rfl,by have:=YA x.2.2.2;rw [Yt];omega⟩,room (by omega),ih⟩
 ·refine QrV (fun r'=>r'=JS (id (α:=List TOp') l)) l _ _ ⟨fun h=>by simp at h,fun _=>?_⟩
  exact R_eq (by simp)
theorem QvL:Qg Tryz.prog QjC:=Qk fun x h=>Qun x.1 h
def Qac (t:(List (List Int))):TRes:=zra (zcs [(.sl [TI])] t)
def Qf3:TRow:=Qh 156 [(.c (.sl [(.sl [TI])]))] fun x=>(some (Qw (α:=List (List Int)) x.1),Qac (id (α:=List (List Int)) x.1))
def Qey:TTab:=⟨[],false⟩
def Qtl:TCode :=
 (zsq [(zsq [(.reg [zmv 6 4,zmv 7 0,zle 8 7,zbi 9 .lss 6 8]),(.cond 9 .skip (.exit 0))]),(.block 1 (.reg [zmv 12 3,zop 13 (.bsl 3 [TI] []),zmv 14 0,zmv 15 4,zia 16 14 15 [(.sl [TI])],zfa 17 16 0,zld 18 17 1,zop 19 (.app 13 18 3 [TI]),zop 20 (.build [(.n [TI])] [(0,1,19)]),zop 21 (.bsl 106 [(.sl [TI])] [20]),zop 22 (.app 12 21 106 [(.sl [TI])]),zmv 3 22])),(.reg [zmv 10 4,zbi 11 .add 10 (zki 1),zmv 4 11])])
def Qso:List (Nat × Md):=[(0,.one .d),(3,.one .f),(4,.one .d)]
def Qlv:TCode :=
 (zsq [(.reg [zmv 23 3,zmv 2 23]),.ret])
def QuN:TCode :=
 (zsq [(.reg [zmv 2 (.k (.n [(.sl [TI])]))]),(.reg [zop 5 (.bsl 106 [(.sl [TI])] []),zmv 3 5]),(zsq [(.reg [zmv 4 (zki 0)]),(.block 0 (.loop Qso Qtl))]),Qlv])
def QqK:List (ARv × Md):=[(.t 2,.one .d)]
def Qlm:Qb:=TQ 0 0 QqK K
def QwM:Qb:=Qseq (tawp Qey 0 Qlv (Qlm K)) (Qlm K)
def QCW:Qb:=Qblk 0 (QwM K)
def Qf6 (l:List (List Int)) (i:Int) (out:List (List Int)):Prop:=Loop Qey 0 Qso Qtl (QCW K) ⟨[(0,(zcs [(.sl [TI])] l)),(3,(.r [(.sl [TI])] 0 0 out.length)),(4,(zci i))],[(0,(.sl 106 [(.sl [TI])] .ow out))],1⟩
theorem Qr0 (l:List (List Int)) (i:Int) (out:List (List Int)) (h :
 (zif (decide (i<(l.length:Int))) ((((0:Int)≤i∧Int.toNat i<l.length)∧(((0=0∨0+(gtd ([]:List Int) l (Int.toNat i)).length≤0)∧0+(gtd ([]:List Int) l (Int.toNat i)).length≤big)∧((out.length=out.length∨out.length+1≤out.length)∧out.length+1≤big)))∧(Qf6 K l (w64 (i+(1:Int))) (List.take (out.length+1) ((List.take out.length out)++([(List.take (0+(gtd ([]:List Int) l (Int.toNat i)).length) (List.drop 0 (gtd ([]:List Int) l (Int.toNat i))))]))))) (K (Qac (List.take out.length (List.drop 0 out)))))):Qf6 K l i out :=
 Loop.of (by kernel_rfl) h
theorem QAd (l:List (List Int)) (h :
 (Qf6 K l 0 ([]:List (List Int)))):Hold (tawp Qey (0+0) QuN (TQ 0 0 QqK K) (Qf [(.c (.sl [(.sl [TI])]) l)])) :=
 Hold.of (by kernel_rfl) h
theorem QDG (l:List (List Int)) (hp:Qw (α:=List (List Int)) l):TCon Tryz.prog 156 [(.c (.sl [(.sl [TI])]) l)] (Qac (id (α:=List (List Int)) l)):=by
 refine Qj rfl fun hb=>tcg (Γ:=Qey) (n:=24) (sg:=Qf3.sg) Qi TOkL.nil (by kernel_rfl) (by kernel_rfl) (QAd _ l ?_)
 have hl_l:l.length≤9223372036854775807:=hb.1.1
 refine QaT (Q:=fun z=>Qac z=Qac (id (α:=List (List Int)) l)) hp (fun k x v hk hl hg hv hx ih=>?_) (fun hq=>?_) (R_eq rfl)
 ·refine Qr0 (fun r'=>r'=Qac (id (α:=List (List Int)) l)) l _ _ ⟨fun _=>?_,fun h=>by simp at h;omega⟩
  try simp only [QL,QI,QS] at hx
  rw [Int.toNat_natCast,hg,sc1 (by omega),ZI,Qjs]
  exact ⟨⟨⟨by omega,hk⟩,⟨.inl rfl,by have:=YA x;rw [Yt];omega⟩,room (by omega)⟩,ih⟩
 ·refine Qr0 (fun r'=>r'=Qac (id (α:=List (List Int)) l)) l _ _ ⟨fun h=>by simp at h,fun _=>?_⟩
  exact R_eq (by simp)
theorem QGn:Qg Tryz.prog Qf3:=Qk fun x h=>QDG x.1 h
end
end Go.Proofs.YtdplaepmjogjjaaGreat.Am

