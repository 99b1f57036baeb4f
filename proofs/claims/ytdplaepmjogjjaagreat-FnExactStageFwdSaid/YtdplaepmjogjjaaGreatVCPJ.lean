/- -/
import Derived.Test.YtdplaepmjogjjaaGreatVCPF
import Derived.Test.YtdplaepmjogjjaaGreatVCP4
namespace Go.Proofs.YtdplaepmjogjjaaGreat.Am
open Go Go.RowKit Go.Proofs.YtdplaepmjogjjaaGreat
set_option linter.all false
noncomputable section
variable (K:TRes→Prop)
def QaF (t:(List TOp')):TRes:=⟨(.r ctOp 0 0 t.length),[(.sl 134 ctOp (.dp 0 true []) t)],[],false,[]⟩
def QjJ:TRow:=Qg 165 [(.c (.sl ctOp))] fun x=>(some (Qx (α:=List TOp') x.1),QaF (id (α:=List TOp') x.1))
def Qf2:TTab:=⟨[QaP],true⟩
def Qm4:TCode :=
 (zsq [(.reg [zbi 10 .lss 9 8]),(.cond 10 .skip (.exit 0)),(.block 1 (zsq [(.reg [zia 11 7 9 ctOp,zLd 12 11 4,zop 5 (.new 134 (z0s ctOp)),zst 5 12 4]),(.draw [zmv 13 3,zfa 14 5 0,zld 15 14 1,zfa 16 5 1,zld 17 16 1,zfa 18 5 2,zld 19 18 1,zfa 20 5 3,zld 21 20 1,zca 22 104 [21],zop 23 (.build (z0s ctOp) [(0,1,15),(1,1,17),(2,1,19),(3,1,22)]),zop 24 (.bsl 134 ctOp [23]),zop 25 (.app 13 24 134 ctOp),zmv 3 25] [(1,9),(2,9),(3,9),(4,9),(5,9),(6,9)])])),(.reg [zbi 26 .add 9 (zki 1),zmv 9 26])])
def Qoz:List (Nat × Md):=[(3,.one .f),(7,.one .d),(8,.one .d),(9,.one .d)]
def Qlh:TCode :=
 (zsq [(.reg [zmv 27 3,zmv 2 27]),.ret])
def QGq:TCode :=
 (zsq [(.reg [zmv 2 (.k (.n ctOp))]),(.reg [zop 6 (.bsl 134 ctOp []),zmv 3 6]),(zsq [(.reg [zmv 7 0,zle 8 7,zmv 9 (zki 0)]),(.block 0 (.loop Qoz Qm4))]),Qlh])
def QsQ:List (ARv × Md):=[(.t 2,.one (.p 134))]
def Qop:Qb:=TQ 0 0 QsQ K
def QGk:Qb:=Qseq (tawp Qf2 0 Qlh (Qop K)) (Qop K)
def Qy4:Qb:=Qblk 0 (QGk K)
def Qjk (l:List TOp') (x:Int) (ops:List TOp'):Prop:=Loop Qf2 0 Qoz Qm4 (Qy4 K) ⟨[(3,(.r ctOp 0 0 ops.length)),(7,(zcs ctOp l)),(8,(zci (l.length:Int))),(9,(zci x))],[(0,(.sl 134 ctOp (.dp 0 true []) ops))],1⟩
theorem Qoh (l:List TOp') (x:Int) (ops:List TOp') (h :
 (zif (decide (x<(l.length:Int))) (((0:Int)≤x∧Int.toNat x<l.length)∧(((Qx (α:=List Int) ((gtd dOp l (Int.toNat x)).2.2.2))∧((ops.length=ops.length∨ops.length+1≤ops.length)∧ops.length+1≤big))∧(Qjk K l (w64 (x+(1:Int))) (List.take (ops.length+1) ((List.take ops.length ops)++([((gtd dOp l (Int.toNat x)).1,(gtd dOp l (Int.toNat x)).2.1,(gtd dOp l (Int.toNat x)).2.2.1,(List.take ((id (α:=List Int) ((gtd dOp l (Int.toNat x)).2.2.2)).length) (List.drop 0 (id (α:=List Int) ((gtd dOp l (Int.toNat x)).2.2.2)))))])))))) (K (QaF (List.take ops.length ops))))):Qjk K l x ops :=
 Loop.of (by kernel_rfl) h
theorem QBe (l:List TOp') (h :
 (Qjk K l 0 ([]:List TOp'))):Hold (tawp Qf2 (0+0) QGq (TQ 0 0 QsQ K) (Qd [(.c (.sl ctOp) l)])) :=
 Hold.of (by kernel_rfl) h
theorem Qxc (l:List TOp') (hp:Qx (α:=List TOp') l):TCon Tryz.prog 165 [(.c (.sl ctOp) l)] (QaF (id (α:=List TOp') l)):=by
 refine Qi rfl fun hb=>tcg (Γ:=Qf2) (n:=28) (sg:=QjJ.sg) Qj (TOkL.cons QbV TOkL.nil) (by kernel_rfl) (by kernel_rfl) (QBe _ l ?_)
 have hl_l:l.length≤9223372036854775807:=hb.1.1
 refine Qa2 (Q:=fun z=>QaF z=QaF (id (α:=List TOp') l)) hp (fun k x v hk hl hg hv hx ih=>?_) (fun hq=>?_) (R_eq rfl)
 ·refine Qoh (fun r'=>r'=QaF (id (α:=List TOp') l)) l _ _ ⟨fun _=>?_,fun h=>by simp at h;omega⟩
  try simp only [QX,QV,Q5] at hx
  rw [Int.toNat_natCast,hg,sc1 (by omega),Zu,Qee]
  exact ⟨⟨by omega,hk⟩,⟨(show Sz.sz (_:List Int)≤2147483648 by omega),room (by omega)⟩,ih⟩
 ·refine Qoh (fun r'=>r'=QaF (id (α:=List TOp') l)) l _ _ ⟨fun h=>by simp at h,fun _=>?_⟩
  exact R_eq (by simp)
theorem QHE:Qe Tryz.prog QjJ:=Qk fun x h=>Qxc x.1 h
def Qag (t:(List (List Int))):TRes:=⟨(.r [(.sl [TI])] 0 0 t.length),[(.sl 106 [(.sl [TI])] (.dp 0 true []) t)],[],false,[]⟩
def Qb6:TRow:=Qg 103 [(.c (.sl [(.sl [TI])]))] fun x=>(some (Qx (α:=List (List Int)) x.1),Qag (id (α:=List (List Int)) x.1))
def QfM:TTab:=⟨[QaP],true⟩
def Qm3:TCode :=
 (zsq [(.reg [zbi 10 .lss 9 8]),(.cond 10 .skip (.exit 0)),(.block 1 (zsq [(.reg [zia 11 7 9 [(.sl [TI])],zLd 12 11 1,zop 5 (.new 106 [(.n [TI])]),zst 5 12 1]),(.reg [zmv 13 3,zfa 14 5 0,zld 15 14 1,zca 16 104 [15],zop 17 (.build [(.n [TI])] [(0,1,16)]),zop 18 (.bsl 106 [(.sl [TI])] [17]),zop 19 (.app 13 18 106 [(.sl [TI])]),zmv 3 19])])),(.reg [zbi 20 .add 9 (zki 1),zmv 9 20])])
def QoE:List (Nat × Md):=[(3,.one .f),(7,.one .d),(8,.one .d),(9,.one .d)]
def Qlx:TCode :=
 (zsq [(.reg [zmv 21 3,zmv 2 21]),.ret])
def Qu8:TCode :=
 (zsq [(.reg [zmv 2 (.k (.n [(.sl [TI])]))]),(.reg [zop 6 (.bsl 106 [(.sl [TI])] []),zmv 3 6]),(zsq [(.reg [zmv 7 0,zle 8 7,zmv 9 (zki 0)]),(.block 0 (.loop QoE Qm3))]),Qlx])
def QtX:List (ARv × Md):=[(.t 2,.one (.p 106))]
def Qt0:Qb:=TQ 0 0 QtX K
def QDQ:Qb:=Qseq (tawp QfM 0 Qlx (Qt0 K)) (Qt0 K)
def QG2:Qb:=Qblk 0 (QDQ K)
def QhF (l:List (List Int)) (x:Int) (rows:List (List Int)):Prop:=Loop QfM 0 QoE Qm3 (QG2 K) ⟨[(3,(.r [(.sl [TI])] 0 0 rows.length)),(7,(zcs [(.sl [TI])] l)),(8,(zci (l.length:Int))),(9,(zci x))],[(0,(.sl 106 [(.sl [TI])] (.dp 0 true []) rows))],1⟩
theorem QlI (l:List (List Int)) (x:Int) (rows:List (List Int)) (h :
 (zif (decide (x<(l.length:Int))) (((0:Int)≤x∧Int.toNat x<l.length)∧(((Qx (α:=List Int) (gtd ([]:List Int) l (Int.toNat x)))∧((rows.length=rows.length∨rows.length+1≤rows.length)∧rows.length+1≤big))∧(QhF K l (w64 (x+(1:Int))) (List.take (rows.length+1) ((List.take rows.length rows)++([(List.take ((id (α:=List Int) (gtd ([]:List Int) l (Int.toNat x))).length) (List.drop 0 (id (α:=List Int) (gtd ([]:List Int) l (Int.toNat x)))))])))))) (K (Qag (List.take rows.length rows))))):QhF K l x rows :=
 Loop.of (by kernel_rfl) h
theorem QHb (l:List (List Int)) (h :
 (QhF K l 0 ([]:List (List Int)))):Hold (tawp QfM (0+0) Qu8 (TQ 0 0 QtX K) (Qd [(.c (.sl [(.sl [TI])]) l)])) :=
 Hold.of (by kernel_rfl) h
theorem QHG (l:List (List Int)) (hp:Qx (α:=List (List Int)) l):TCon Tryz.prog 103 [(.c (.sl [(.sl [TI])]) l)] (Qag (id (α:=List (List Int)) l)):=by
 refine Qi rfl fun hb=>tcg (Γ:=QfM) (n:=22) (sg:=Qb6.sg) Qj (TOkL.cons QbV TOkL.nil) (by kernel_rfl) (by kernel_rfl) (QHb _ l ?_)
 have hl_l:l.length≤9223372036854775807:=hb.1.1
 refine Qa2 (Q:=fun z=>Qag z=Qag (id (α:=List (List Int)) l)) hp (fun k x v hk hl hg hv hx ih=>?_) (fun hq=>?_) (R_eq rfl)
 ·refine QlI (fun r'=>r'=Qag (id (α:=List (List Int)) l)) l _ _ ⟨fun _=>?_,fun h=>by simp at h;omega⟩
  try simp only [QX,QV,Q5] at hx
  rw [Int.toNat_natCast,hg,sc1 (by omega),Zu,Qee]
  exact ⟨⟨by omega,hk⟩,⟨(show Sz.sz (_:List Int)≤2147483648 by omega),room (by omega)⟩,ih⟩
 ·refine QlI (fun r'=>r'=Qag (id (α:=List (List Int)) l)) l _ _ ⟨fun h=>by simp at h,fun _=>?_⟩
  exact R_eq (by simp)
theorem Qgx:Qe Tryz.prog Qb6:=Qk fun x h=>QHG x.1 h
def QhL (t:Qy):TRes:=⟨(.a [(.r [(.sl [TI])] 0 0 ((t.1).length)),(zci t.2.1),(zcb t.2.2)]),[(.sl 106 [(.sl [TI])] (.dp 0 true []) t.1)],[],false,[]⟩
def Qic:TRow:=Qg 166 [(.a Zj)] fun x=>(some (Qx (α:=Qy) x.1),QhL (id (α:=Qy) x.1))
def Qnb:TTab:=⟨[Qb6],true⟩
def QwQ:TCode :=
 (zsq [(.reg [zop 1 (.box 37 0 3),zop 2 (.new 37 (z0s Zj))]),(.draw [zfa 3 1 0,zld 4 3 1,zca 5 103 [4],zfa 6 1 1,zld 7 6 1,zfa 8 1 2,zld 9 8 1,zop 10 (.build (z0s Zj) [(0,1,5),(1,1,7),(2,1,9)]),zst 2 10 3] [(2,3),(2,4),(2,5),(2,6)]),.ret])
def QHv:List (ARv × Md):=[(.l 2 3 true,.b [.p 106,.d,.d])]
theorem QDv (g:Qy) (h :
 ((Qx (α:=List (List Int)) g.1)∧K (QhL ((List.take ((id (α:=List (List Int)) g.1).length) (id (α:=List (List Int)) g.1)),g.2.1,g.2.2)))):Hold (tawp Qnb (0+0) QwQ (TQ 0 0 QHv K) (Qd [(.a (Tup.cells Zj g))])) :=
 Hold.of (by kernel_rfl) h
theorem QEU (g:Qy) (hp:Qx (α:=Qy) g):TCon Tryz.prog 166 [(.a (Tup.cells Zj g))] (QhL (id (α:=Qy) g)):=by
 refine Qi rfl fun hb=>tcg (Γ:=Qnb) (n:=11) (sg:=Qic.sg) Qj (TOkL.cons Qgx TOkL.nil) (by kernel_rfl) (by kernel_rfl) (QDv _ g ?_)
 have hl_g_0:(g.1).length≤9223372036854775807:=hb.1.1.1
 unfold Qx at hp
 simp only [QX,QV,Q5] at hp
 exact ⟨hp,R_eq (by simp)⟩
theorem QuV:Qe Tryz.prog Qic:=Qk fun x h=>QEU x.1 h
def Qad (t:(List TOp')):TRes:=zra (zcs ctOp t)
def QjE:TRow:=Qg 155 [(.c (.sl ctOp))] fun x=>(some (Qx (α:=List TOp') x.1),Qad (id (α:=List TOp') x.1))
def QeM:TTab:=⟨[],false⟩
def Qm5:TCode :=
 (zsq [(zsq [(.reg [zmv 7 4,zmv 8 0,zle 9 8,zbi 10 .lss 7 9]),(.cond 10 .skip (.exit 0))]),(.block 1 (zsq [(.reg [zmv 13 0,zmv 14 4,zia 15 13 14 ctOp,zLd 16 15 4,zop 5 (.new 134 (z0s ctOp)),zst 5 16 4]),(.reg [zop 17 (.bsl 3 [TI] []),zmv 18 0,zmv 19 4,zia 20 18 19 ctOp,zfa 21 20 3,zld 22 21 1,zop 23 (.app 17 22 3 [TI]),zfa 24 5 3,zst 24 23 1]),(.reg [zmv 25 3,zLd 26 5 4,zop 27 (.bsl 134 ctOp [26]),zop 28 (.app 25 27 134 ctOp),zmv 3 28])])),(.reg [zmv 11 4,zbi 12 .add 11 (zki 1),zmv 4 12])])
def QrE:List (Nat × Md):=[(0,.one .d),(3,.one .f),(4,.one .d)]
def Qme:TCode :=
 (zsq [(.reg [zmv 29 3,zmv 2 29]),.ret])
def QGc:TCode :=
 (zsq [(.reg [zmv 2 (.k (.n ctOp))]),(.reg [zop 6 (.bsl 134 ctOp []),zmv 3 6]),(zsq [(.reg [zmv 4 (zki 0)]),(.block 0 (.loop QrE Qm5))]),Qme])
def Qpl:List (ARv × Md):=[(.t 2,.one .d)]
def Qsj:Qb:=TQ 0 0 Qpl K
def Qwf:Qb:=Qseq (tawp QeM 0 Qme (Qsj K)) (Qsj K)
def QwJ:Qb:=Qblk 0 (Qwf K)
def Qgr (l:List TOp') (i:Int) (out:List TOp'):Prop:=Loop QeM 0 QrE Qm5 (QwJ K) ⟨[(0,(zcs ctOp l)),(3,(.r ctOp 0 0 out.length)),(4,(zci i))],[(0,(.sl 134 ctOp .ow out))],1⟩
theorem QtK (l:List TOp') (i:Int) (out:List TOp') (h :
 (zif (decide (i<(l.length:Int))) (((0:Int)≤i∧Int.toNat i<l.length)∧((((0:Int)≤i∧Int.toNat i<l.length)∧((0=0∨0+((gtd dOp l (Int.toNat i)).2.2.2).length≤0)∧0+((gtd dOp l (Int.toNat i)).2.2.2).length≤big))∧(((out.length=out.length∨out.length+1≤out.length)∧out.length+1≤big)∧(Qgr K l (w64 (i+(1:Int))) (List.take (out.length+1) ((List.take out.length out)++([((gtd dOp l (Int.toNat i)).1,(gtd dOp l (Int.toNat i)).2.1,(gtd dOp l (Int.toNat i)).2.2.1,(List.take (0+((gtd dOp l (Int.toNat i)).2.2.2).length) (List.drop 0 ((gtd dOp l (Int.toNat i)).2.2.2))))]))))))) (K (Qad (List.take out.length (List.drop 0 out)))))):Qgr K l i out :=
 Loop.of (by kernel_rfl) h
theorem QFU (l:List TOp') (h :
 (Qgr K l 0 ([]:List TOp'))):Hold (tawp QeM (0+0) QGc (TQ 0 0 Qpl K) (Qd [(.c (.sl ctOp) l)])) :=
 Hold.of (by kernel_rfl) h
theorem QHF (l:List TOp') (hp:Qx (α:=List TOp') l):TCon Tryz.prog 155 [(.c (.sl ctOp) l)] (Qad (id (α:=List TOp') l)):=by
 refine Qi rfl fun hb=>tcg (Γ:=QeM) (n:=30) (sg:=QjE.sg) Qj TOkL.nil (by kernel_rfl) (by kernel_rfl) (QFU _ l ?_)
 have hl_l:l.length≤9223372036854775807:=hb.1.1
 refine Qa2 (Q:=fun z=>Qad z=Qad (id (α:=List TOp') l)) hp (fun k x v hk hl hg hv hx ih=>?_) (fun hq=>?_) (R_eq rfl)
 ·refine QtK (fun r'=>r'=Qad (id (α:=List TOp') l)) l _ _ ⟨fun _=>?_,fun h=>by simp at h;omega⟩
  try simp only [QX,QV,Q5] at hx
  rw [Int.toNat_natCast,hg,sc1 (by omega),Zu,QjP]
  exact ⟨⟨by omega,hk⟩,⟨⟨by omega,hk⟩,.inl rfl,by have:=Z8 x.2.2.2;rw [ZT];omega⟩,room (by omega),ih⟩
 ·refine QtK (fun r'=>r'=Qad (id (α:=List TOp') l)) l _ _ ⟨fun h=>by simp at h,fun _=>?_⟩
  exact R_eq (by simp)
theorem Qwz:Qe Tryz.prog QjE:=Qk fun x h=>QHF x.1 h
def J6 (t:(List (List Int))):TRes:=zra (zcs [(.sl [TI])] t)
def QjD:TRow:=Qg 156 [(.c (.sl [(.sl [TI])]))] fun x=>(some (Qx (α:=List (List Int)) x.1),J6 (id (α:=List (List Int)) x.1))
def Qfx:TTab:=⟨[],false⟩
def Qrc:TCode :=
 (zsq [(zsq [(.reg [zmv 6 4,zmv 7 0,zle 8 7,zbi 9 .lss 6 8]),(.cond 9 .skip (.exit 0))]),(.block 1 (.reg [zmv 12 3,zop 13 (.bsl 3 [TI] []),zmv 14 0,zmv 15 4,zia 16 14 15 [(.sl [TI])],zfa 17 16 0,zld 18 17 1,zop 19 (.app 13 18 3 [TI]),zop 20 (.build [(.n [TI])] [(0,1,19)]),zop 21 (.bsl 106 [(.sl [TI])] [20]),zop 22 (.app 12 21 106 [(.sl [TI])]),zmv 3 22])),(.reg [zmv 10 4,zbi 11 .add 10 (zki 1),zmv 4 11])])
def QrJ:List (Nat × Md):=[(0,.one .d),(3,.one .f),(4,.one .d)]
def Qp5:TCode :=
 (zsq [(.reg [zmv 23 3,zmv 2 23]),.ret])
def QB8:TCode :=
 (zsq [(.reg [zmv 2 (.k (.n [(.sl [TI])]))]),(.reg [zop 5 (.bsl 106 [(.sl [TI])] []),zmv 3 5]),(zsq [(.reg [zmv 4 (zki 0)]),(.block 0 (.loop QrJ Qrc))]),Qp5])
def Qlr:List (ARv × Md):=[(.t 2,.one .d)]
def Qmy:Qb:=TQ 0 0 Qlr K
def QBW:Qb:=Qseq (tawp Qfx 0 Qp5 (Qmy K)) (Qmy K)
def QHJ:Qb:=Qblk 0 (QBW K)
def Qhc (l:List (List Int)) (i:Int) (out:List (List Int)):Prop:=Loop Qfx 0 QrJ Qrc (QHJ K) ⟨[(0,(zcs [(.sl [TI])] l)),(3,(.r [(.sl [TI])] 0 0 out.length)),(4,(zci i))],[(0,(.sl 106 [(.sl [TI])] .ow out))],1⟩
theorem QmJ (l:List (List Int)) (i:Int) (out:List (List Int)) (h :
 (zif (decide (i<(l.length:Int))) ((((0:Int)≤i∧Int.toNat i<l.length)∧(((0=0∨0+(gtd ([]:List Int) l (Int.toNat i)).length≤0)∧0+(gtd ([]:List Int) l (Int.toNat i)).length≤big)∧((out.length=out.length∨out.length+1≤out.length)∧out.length+1≤big)))∧(Qhc K l (w64 (i+(1:Int))) (List.take (out.length+1) ((List.take out.length out)++([(List.take (0+(gtd ([]:List Int) l (Int.toNat i)).length) (List.drop 0 (gtd ([]:List Int) l (Int.toNat i))))]))))) (K (J6 (List.take out.length (List.drop 0 out)))))):Qhc K l i out :=
 Loop.of (by kernel_rfl) h
theorem QAc (l:List (List Int)) (h :
 (Qhc K l 0 ([]:List (List Int)))):Hold (tawp Qfx (0+0) QB8 (TQ 0 0 Qlr K) (Qd [(.c (.sl [(.sl [TI])]) l)])) :=
 Hold.of (by kernel_rfl) h
theorem QyG (l:List (List Int)) (hp:Qx (α:=List (List Int)) l):TCon Tryz.prog 156 [(.c (.sl [(.sl [TI])]) l)] (J6 (id (α:=List (List Int)) l)):=by
 refine Qi rfl fun hb=>tcg (Γ:=Qfx) (n:=24) (sg:=QjD.sg) Qj TOkL.nil (by kernel_rfl) (by kernel_rfl) (QAc _ l ?_)
 have hl_l:l.length≤9223372036854775807:=hb.1.1
 refine Qa2 (Q:=fun z=>J6 z=J6 (id (α:=List (List Int)) l)) hp (fun k x v hk hl hg hv hx ih=>?_) (fun hq=>?_) (R_eq rfl)
 ·refine QmJ (fun r'=>r'=J6 (id (α:=List (List Int)) l)) l _ _ ⟨fun _=>?_,fun h=>by simp at h;omega⟩
  try simp only [QX,QV,Q5] at hx
  rw [Int.toNat_natCast,hg,sc1 (by omega),Zu,QjP]
  exact ⟨⟨⟨by omega,hk⟩,⟨.inl rfl,by have:=Z8 x;rw [ZT];omega⟩,room (by omega)⟩,ih⟩
 ·refine QmJ (fun r'=>r'=J6 (id (α:=List (List Int)) l)) l _ _ ⟨fun h=>by simp at h,fun _=>?_⟩
  exact R_eq (by simp)
theorem QvE:Qe Tryz.prog QjD:=Qk fun x h=>QyG x.1 h
end
end Go.Proofs.YtdplaepmjogjjaaGreat.Am

