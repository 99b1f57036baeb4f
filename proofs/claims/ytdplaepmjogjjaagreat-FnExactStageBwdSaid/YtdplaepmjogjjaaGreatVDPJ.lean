/- -/
import Derived.Test.YtdplaepmjogjjaaGreatVDPF
import Derived.Test.YtdplaepmjogjjaaGreatVDP4
namespace Go.Proofs.YtdplaepmjogjjaaGreat.Am
open Go Go.RowKit Go.Proofs.YtdplaepmjogjjaaGreat
set_option linter.all false
noncomputable section
variable (K:TRes→Prop)
def Qal (t:(List TOp')):TRes:=⟨(.r ctOp 0 0 t.length),[(.sl 134 ctOp (.dp 0 true []) t)],[],false,[]⟩
def QiV:TRow:=Qg 165 [(.c (.sl ctOp))] fun x=>(some (QH (α:=List TOp') x.1),Qal (id (α:=List TOp') x.1))
def Qfq:TTab:=⟨[QbW],true⟩
def Qsb:TCode :=
 (zsq [(.reg [zbi 10 .lss 9 8]),(.cond 10 .skip (.exit 0)),(.block 1 (zsq [(.reg [zia 11 7 9 ctOp,zLd 12 11 4,zop 5 (.new 134 (z0s ctOp)),zst 5 12 4]),(.draw [zmv 13 3,zfa 14 5 0,zld 15 14 1,zfa 16 5 1,zld 17 16 1,zfa 18 5 2,zld 19 18 1,zfa 20 5 3,zld 21 20 1,zca 22 104 [21],zop 23 (.build (z0s ctOp) [(0,1,15),(1,1,17),(2,1,19),(3,1,22)]),zop 24 (.bsl 134 ctOp [23]),zop 25 (.app 13 24 134 ctOp),zmv 3 25] [(1,9),(2,9),(3,9),(4,9),(5,9),(6,9)])])),(.reg [zbi 26 .add 9 (zki 1),zmv 9 26])])
def Qth:List (Nat × Md):=[(3,.one .f),(7,.one .d),(8,.one .d),(9,.one .d)]
def QsO:TCode :=
 (zsq [(.reg [zmv 27 3,zmv 2 27]),.ret])
def QG7:TCode :=
 (zsq [(.reg [zmv 2 (.k (.n ctOp))]),(.reg [zop 6 (.bsl 134 ctOp []),zmv 3 6]),(zsq [(.reg [zmv 7 0,zle 8 7,zmv 9 (zki 0)]),(.block 0 (.loop Qth Qsb))]),QsO])
def QoU:List (ARv × Md):=[(.t 2,.one (.p 134))]
def Qt9:Qb:=TQ 0 0 QoU K
def QFG:Qb:=Qseq (tawp Qfq 0 QsO (Qt9 K)) (Qt9 K)
def QzN:Qb:=Qblk 0 (QFG K)
def Qhx (l:List TOp') (x:Int) (ops:List TOp'):Prop:=Loop Qfq 0 Qth Qsb (QzN K) ⟨[(3,(.r ctOp 0 0 ops.length)),(7,(zcs ctOp l)),(8,(zci (l.length:Int))),(9,(zci x))],[(0,(.sl 134 ctOp (.dp 0 true []) ops))],1⟩
theorem Qnn (l:List TOp') (x:Int) (ops:List TOp') (h :
 (zif (decide (x<(l.length:Int))) (((0:Int)≤x∧Int.toNat x<l.length)∧(((QH (α:=List Int) ((gtd dOp l (Int.toNat x)).2.2.2))∧((ops.length=ops.length∨ops.length+1≤ops.length)∧ops.length+1≤big))∧(Qhx K l (w64 (x+(1:Int))) (List.take (ops.length+1) ((List.take ops.length ops)++([((gtd dOp l (Int.toNat x)).1,(gtd dOp l (Int.toNat x)).2.1,(gtd dOp l (Int.toNat x)).2.2.1,(List.take ((id (α:=List Int) ((gtd dOp l (Int.toNat x)).2.2.2)).length) (List.drop 0 (id (α:=List Int) ((gtd dOp l (Int.toNat x)).2.2.2)))))])))))) (K (Qal (List.take ops.length ops))))):Qhx K l x ops :=
 Loop.of (by kernel_rfl) h
theorem Qza (l:List TOp') (h :
 (Qhx K l 0 ([]:List TOp'))):Hold (tawp Qfq (0+0) QG7 (TQ 0 0 QoU K) (Qd [(.c (.sl ctOp) l)])) :=
 Hold.of (by kernel_rfl) h
theorem QIO (l:List TOp') (hp:QH (α:=List TOp') l):TCon Tryz.prog 165 [(.c (.sl ctOp) l)] (Qal (id (α:=List TOp') l)):=by
 refine Qh rfl fun hb=>tcg (Γ:=Qfq) (n:=28) (sg:=QiV.sg) Qi (TOkL.cons QeO TOkL.nil) (by kernel_rfl) (by kernel_rfl) (Qza _ l ?_)
 have hl_l:l.length≤9223372036854775807:=hb.1.1
 refine Qbm (Q:=fun z=>Qal z=Qal (id (α:=List TOp') l)) hp (fun k x v hk hl hg hv hx ih=>?_) (fun hq=>?_) (R_eq rfl)
 ·refine Qnn (fun r'=>r'=Qal (id (α:=List TOp') l)) l _ _ ⟨fun _=>?_,fun h=>by simp at h;omega⟩
  try simp only [QZ,QK,Q0] at hx
  rw [Int.toNat_natCast,hg,sc1 (by omega),Zm,Qif]
  exact ⟨⟨by omega,hk⟩,⟨(show Sz.sz (_:List Int)≤2147483648 by omega),room (by omega)⟩,ih⟩
 ·refine Qnn (fun r'=>r'=Qal (id (α:=List TOp') l)) l _ _ ⟨fun h=>by simp at h,fun _=>?_⟩
  exact R_eq (by simp)
theorem QC0:Qf Tryz.prog QiV:=Qj fun x h=>QIO x.1 h
def Qam (t:(List (List Int))):TRes:=⟨(.r [(.sl [TI])] 0 0 t.length),[(.sl 106 [(.sl [TI])] (.dp 0 true []) t)],[],false,[]⟩
def QfF:TRow:=Qg 103 [(.c (.sl [(.sl [TI])]))] fun x=>(some (QH (α:=List (List Int)) x.1),Qam (id (α:=List (List Int)) x.1))
def Qf5:TTab:=⟨[QbW],true⟩
def QqQ:TCode :=
 (zsq [(.reg [zbi 10 .lss 9 8]),(.cond 10 .skip (.exit 0)),(.block 1 (zsq [(.reg [zia 11 7 9 [(.sl [TI])],zLd 12 11 1,zop 5 (.new 106 [(.n [TI])]),zst 5 12 1]),(.reg [zmv 13 3,zfa 14 5 0,zld 15 14 1,zca 16 104 [15],zop 17 (.build [(.n [TI])] [(0,1,16)]),zop 18 (.bsl 106 [(.sl [TI])] [17]),zop 19 (.app 13 18 106 [(.sl [TI])]),zmv 3 19])])),(.reg [zbi 20 .add 9 (zki 1),zmv 9 20])])
def Ql6:List (Nat × Md):=[(3,.one .f),(7,.one .d),(8,.one .d),(9,.one .d)]
def Qtb:TCode :=
 (zsq [(.reg [zmv 21 3,zmv 2 21]),.ret])
def Qx0:TCode :=
 (zsq [(.reg [zmv 2 (.k (.n [(.sl [TI])]))]),(.reg [zop 6 (.bsl 106 [(.sl [TI])] []),zmv 3 6]),(zsq [(.reg [zmv 7 0,zle 8 7,zmv 9 (zki 0)]),(.block 0 (.loop Ql6 QqQ))]),Qtb])
def Ql5:List (ARv × Md):=[(.t 2,.one (.p 106))]
def Qpj:Qb:=TQ 0 0 Ql5 K
def QHC:Qb:=Qseq (tawp Qf5 0 Qtb (Qpj K)) (Qpj K)
def QGF:Qb:=Qblk 0 (QHC K)
def QkC (l:List (List Int)) (x:Int) (rows:List (List Int)):Prop:=Loop Qf5 0 Ql6 QqQ (QGF K) ⟨[(3,(.r [(.sl [TI])] 0 0 rows.length)),(7,(zcs [(.sl [TI])] l)),(8,(zci (l.length:Int))),(9,(zci x))],[(0,(.sl 106 [(.sl [TI])] (.dp 0 true []) rows))],1⟩
theorem Quf (l:List (List Int)) (x:Int) (rows:List (List Int)) (h :
 (zif (decide (x<(l.length:Int))) (((0:Int)≤x∧Int.toNat x<l.length)∧(((QH (α:=List Int) (gtd ([]:List Int) l (Int.toNat x)))∧((rows.length=rows.length∨rows.length+1≤rows.length)∧rows.length+1≤big))∧(QkC K l (w64 (x+(1:Int))) (List.take (rows.length+1) ((List.take rows.length rows)++([(List.take ((id (α:=List Int) (gtd ([]:List Int) l (Int.toNat x))).length) (List.drop 0 (id (α:=List Int) (gtd ([]:List Int) l (Int.toNat x)))))])))))) (K (Qam (List.take rows.length rows))))):QkC K l x rows :=
 Loop.of (by kernel_rfl) h
theorem Qwv (l:List (List Int)) (h :
 (QkC K l 0 ([]:List (List Int)))):Hold (tawp Qf5 (0+0) Qx0 (TQ 0 0 Ql5 K) (Qd [(.c (.sl [(.sl [TI])]) l)])) :=
 Hold.of (by kernel_rfl) h
theorem QEt (l:List (List Int)) (hp:QH (α:=List (List Int)) l):TCon Tryz.prog 103 [(.c (.sl [(.sl [TI])]) l)] (Qam (id (α:=List (List Int)) l)):=by
 refine Qh rfl fun hb=>tcg (Γ:=Qf5) (n:=22) (sg:=QfF.sg) Qi (TOkL.cons QeO TOkL.nil) (by kernel_rfl) (by kernel_rfl) (Qwv _ l ?_)
 have hl_l:l.length≤9223372036854775807:=hb.1.1
 refine Qbm (Q:=fun z=>Qam z=Qam (id (α:=List (List Int)) l)) hp (fun k x v hk hl hg hv hx ih=>?_) (fun hq=>?_) (R_eq rfl)
 ·refine Quf (fun r'=>r'=Qam (id (α:=List (List Int)) l)) l _ _ ⟨fun _=>?_,fun h=>by simp at h;omega⟩
  try simp only [QZ,QK,Q0] at hx
  rw [Int.toNat_natCast,hg,sc1 (by omega),Zm,Qif]
  exact ⟨⟨by omega,hk⟩,⟨(show Sz.sz (_:List Int)≤2147483648 by omega),room (by omega)⟩,ih⟩
 ·refine Quf (fun r'=>r'=Qam (id (α:=List (List Int)) l)) l _ _ ⟨fun h=>by simp at h,fun _=>?_⟩
  exact R_eq (by simp)
theorem Qrn:Qf Tryz.prog QfF:=Qj fun x h=>QEt x.1 h
def Qh3 (t:Qm):TRes:=⟨(.a [(.r [(.sl [TI])] 0 0 ((t.1).length)),(zci t.2.1),(zcb t.2.2)]),[(.sl 106 [(.sl [TI])] (.dp 0 true []) t.1)],[],false,[]⟩
def QkQ:TRow:=Qg 166 [(.a QE)] fun x=>(some (QH (α:=Qm) x.1),Qh3 (id (α:=Qm) x.1))
def QuJ:TTab:=⟨[QfF],true⟩
def QFV:TCode :=
 (zsq [(.reg [zop 1 (.box 37 0 3),zop 2 (.new 37 (z0s QE))]),(.draw [zfa 3 1 0,zld 4 3 1,zca 5 103 [4],zfa 6 1 1,zld 7 6 1,zfa 8 1 2,zld 9 8 1,zop 10 (.build (z0s QE) [(0,1,5),(1,1,7),(2,1,9)]),zst 2 10 3] [(2,3),(2,4),(2,5),(2,6)]),.ret])
def QIU:List (ARv × Md):=[(.l 2 3 true,.b [.p 106,.d,.d])]
theorem QFC (g:Qm) (h :
 ((QH (α:=List (List Int)) g.1)∧K (Qh3 ((List.take ((id (α:=List (List Int)) g.1).length) (id (α:=List (List Int)) g.1)),g.2.1,g.2.2)))):Hold (tawp QuJ (0+0) QFV (TQ 0 0 QIU K) (Qd [(.a (Tup.cells QE g))])) :=
 Hold.of (by kernel_rfl) h
theorem QDm (g:Qm) (hp:QH (α:=Qm) g):TCon Tryz.prog 166 [(.a (Tup.cells QE g))] (Qh3 (id (α:=Qm) g)):=by
 refine Qh rfl fun hb=>tcg (Γ:=QuJ) (n:=11) (sg:=QkQ.sg) Qi (TOkL.cons Qrn TOkL.nil) (by kernel_rfl) (by kernel_rfl) (QFC _ g ?_)
 have hl_g_0:(g.1).length≤9223372036854775807:=hb.1.1.1
 unfold QH at hp
 simp only [QZ,QK,Q0] at hp
 exact ⟨hp,R_eq (by simp)⟩
theorem QwP:Qf Tryz.prog QkQ:=Qj fun x h=>QDm x.1 h
def Qbe (t:(List TOp')):TRes:=zra (zcs ctOp t)
def Qg1:TRow:=Qg 155 [(.c (.sl ctOp))] fun x=>(some (QH (α:=List TOp') x.1),Qbe (id (α:=List TOp') x.1))
def Qgc:TTab:=⟨[],false⟩
def Qor:TCode :=
 (zsq [(zsq [(.reg [zmv 7 4,zmv 8 0,zle 9 8,zbi 10 .lss 7 9]),(.cond 10 .skip (.exit 0))]),(.block 1 (zsq [(.reg [zmv 13 0,zmv 14 4,zia 15 13 14 ctOp,zLd 16 15 4,zop 5 (.new 134 (z0s ctOp)),zst 5 16 4]),(.reg [zop 17 (.bsl 3 [TI] []),zmv 18 0,zmv 19 4,zia 20 18 19 ctOp,zfa 21 20 3,zld 22 21 1,zop 23 (.app 17 22 3 [TI]),zfa 24 5 3,zst 24 23 1]),(.reg [zmv 25 3,zLd 26 5 4,zop 27 (.bsl 134 ctOp [26]),zop 28 (.app 25 27 134 ctOp),zmv 3 28])])),(.reg [zmv 11 4,zbi 12 .add 11 (zki 1),zmv 4 12])])
def QrH:List (Nat × Md):=[(0,.one .d),(3,.one .f),(4,.one .d)]
def Qvh:TCode :=
 (zsq [(.reg [zmv 29 3,zmv 2 29]),.ret])
def QIn:TCode :=
 (zsq [(.reg [zmv 2 (.k (.n ctOp))]),(.reg [zop 6 (.bsl 134 ctOp []),zmv 3 6]),(zsq [(.reg [zmv 4 (zki 0)]),(.block 0 (.loop QrH Qor))]),Qvh])
def QqI:List (ARv × Md):=[(.t 2,.one .d)]
def Qt8:Qb:=TQ 0 0 QqI K
def Qy3:Qb:=Qseq (tawp Qgc 0 Qvh (Qt8 K)) (Qt8 K)
def QIc:Qb:=Qblk 0 (Qy3 K)
def Qkp (l:List TOp') (i:Int) (out:List TOp'):Prop:=Loop Qgc 0 QrH Qor (QIc K) ⟨[(0,(zcs ctOp l)),(3,(.r ctOp 0 0 out.length)),(4,(zci i))],[(0,(.sl 134 ctOp .ow out))],1⟩
theorem Qox (l:List TOp') (i:Int) (out:List TOp') (h :
 (zif (decide (i<(l.length:Int))) (((0:Int)≤i∧Int.toNat i<l.length)∧((((0:Int)≤i∧Int.toNat i<l.length)∧((0=0∨0+((gtd dOp l (Int.toNat i)).2.2.2).length≤0)∧0+((gtd dOp l (Int.toNat i)).2.2.2).length≤big))∧(((out.length=out.length∨out.length+1≤out.length)∧out.length+1≤big)∧(Qkp K l (w64 (i+(1:Int))) (List.take (out.length+1) ((List.take out.length out)++([((gtd dOp l (Int.toNat i)).1,(gtd dOp l (Int.toNat i)).2.1,(gtd dOp l (Int.toNat i)).2.2.1,(List.take (0+((gtd dOp l (Int.toNat i)).2.2.2).length) (List.drop 0 ((gtd dOp l (Int.toNat i)).2.2.2))))]))))))) (K (Qbe (List.take out.length (List.drop 0 out)))))):Qkp K l i out :=
 Loop.of (by kernel_rfl) h
theorem QCV (l:List TOp') (h :
 (Qkp K l 0 ([]:List TOp'))):Hold (tawp Qgc (0+0) QIn (TQ 0 0 QqI K) (Qd [(.c (.sl ctOp) l)])) :=
 Hold.of (by kernel_rfl) h
theorem QCI (l:List TOp') (hp:QH (α:=List TOp') l):TCon Tryz.prog 155 [(.c (.sl ctOp) l)] (Qbe (id (α:=List TOp') l)):=by
 refine Qh rfl fun hb=>tcg (Γ:=Qgc) (n:=30) (sg:=Qg1.sg) Qi TOkL.nil (by kernel_rfl) (by kernel_rfl) (QCV _ l ?_)
 have hl_l:l.length≤9223372036854775807:=hb.1.1
 refine Qbm (Q:=fun z=>Qbe z=Qbe (id (α:=List TOp') l)) hp (fun k x v hk hl hg hv hx ih=>?_) (fun hq=>?_) (R_eq rfl)
 ·refine Qox (fun r'=>r'=Qbe (id (α:=List TOp') l)) l _ _ ⟨fun _=>?_,fun h=>by simp at h;omega⟩
  try simp only [QZ,QK,Q0] at hx
  rw [Int.toNat_natCast,hg,sc1 (by omega),Zm,QpB]
  exact ⟨⟨by omega,hk⟩,⟨⟨by omega,hk⟩,.inl rfl,by have:=Z2 x.2.2.2;rw [Zz];omega⟩,room (by omega),ih⟩
 ·refine Qox (fun r'=>r'=Qbe (id (α:=List TOp') l)) l _ _ ⟨fun h=>by simp at h,fun _=>?_⟩
  exact R_eq (by simp)
theorem Qzt:Qf Tryz.prog Qg1:=Qj fun x h=>QCI x.1 h
def QaS (t:(List (List Int))):TRes:=zra (zcs [(.sl [TI])] t)
def QkL:TRow:=Qg 156 [(.c (.sl [(.sl [TI])]))] fun x=>(some (QH (α:=List (List Int)) x.1),QaS (id (α:=List (List Int)) x.1))
def Qe6:TTab:=⟨[],false⟩
def Quv:TCode :=
 (zsq [(zsq [(.reg [zmv 6 4,zmv 7 0,zle 8 7,zbi 9 .lss 6 8]),(.cond 9 .skip (.exit 0))]),(.block 1 (.reg [zmv 12 3,zop 13 (.bsl 3 [TI] []),zmv 14 0,zmv 15 4,zia 16 14 15 [(.sl [TI])],zfa 17 16 0,zld 18 17 1,zop 19 (.app 13 18 3 [TI]),zop 20 (.build [(.n [TI])] [(0,1,19)]),zop 21 (.bsl 106 [(.sl [TI])] [20]),zop 22 (.app 12 21 106 [(.sl [TI])]),zmv 3 22])),(.reg [zmv 10 4,zbi 11 .add 10 (zki 1),zmv 4 11])])
def QoE:List (Nat × Md):=[(0,.one .d),(3,.one .f),(4,.one .d)]
def Qut:TCode :=
 (zsq [(.reg [zmv 23 3,zmv 2 23]),.ret])
def QCD:TCode :=
 (zsq [(.reg [zmv 2 (.k (.n [(.sl [TI])]))]),(.reg [zop 5 (.bsl 106 [(.sl [TI])] []),zmv 3 5]),(zsq [(.reg [zmv 4 (zki 0)]),(.block 0 (.loop QoE Quv))]),Qut])
def QtD:List (ARv × Md):=[(.t 2,.one .d)]
def QpP:Qb:=TQ 0 0 QtD K
def QGt:Qb:=Qseq (tawp Qe6 0 Qut (QpP K)) (QpP K)
def QEE:Qb:=Qblk 0 (QGt K)
def Qko (l:List (List Int)) (i:Int) (out:List (List Int)):Prop:=Loop Qe6 0 QoE Quv (QEE K) ⟨[(0,(zcs [(.sl [TI])] l)),(3,(.r [(.sl [TI])] 0 0 out.length)),(4,(zci i))],[(0,(.sl 106 [(.sl [TI])] .ow out))],1⟩
theorem Qma (l:List (List Int)) (i:Int) (out:List (List Int)) (h :
 (zif (decide (i<(l.length:Int))) ((((0:Int)≤i∧Int.toNat i<l.length)∧(((0=0∨0+(gtd ([]:List Int) l (Int.toNat i)).length≤0)∧0+(gtd ([]:List Int) l (Int.toNat i)).length≤big)∧((out.length=out.length∨out.length+1≤out.length)∧out.length+1≤big)))∧(Qko K l (w64 (i+(1:Int))) (List.take (out.length+1) ((List.take out.length out)++([(List.take (0+(gtd ([]:List Int) l (Int.toNat i)).length) (List.drop 0 (gtd ([]:List Int) l (Int.toNat i))))]))))) (K (QaS (List.take out.length (List.drop 0 out)))))):Qko K l i out :=
 Loop.of (by kernel_rfl) h
theorem QwU (l:List (List Int)) (h :
 (Qko K l 0 ([]:List (List Int)))):Hold (tawp Qe6 (0+0) QCD (TQ 0 0 QtD K) (Qd [(.c (.sl [(.sl [TI])]) l)])) :=
 Hold.of (by kernel_rfl) h
theorem QCz (l:List (List Int)) (hp:QH (α:=List (List Int)) l):TCon Tryz.prog 156 [(.c (.sl [(.sl [TI])]) l)] (QaS (id (α:=List (List Int)) l)):=by
 refine Qh rfl fun hb=>tcg (Γ:=Qe6) (n:=24) (sg:=QkL.sg) Qi TOkL.nil (by kernel_rfl) (by kernel_rfl) (QwU _ l ?_)
 have hl_l:l.length≤9223372036854775807:=hb.1.1
 refine Qbm (Q:=fun z=>QaS z=QaS (id (α:=List (List Int)) l)) hp (fun k x v hk hl hg hv hx ih=>?_) (fun hq=>?_) (R_eq rfl)
 ·refine Qma (fun r'=>r'=QaS (id (α:=List (List Int)) l)) l _ _ ⟨fun _=>?_,fun h=>by simp at h;omega⟩
  try simp only [QZ,QK,Q0] at hx
  rw [Int.toNat_natCast,hg,sc1 (by omega),Zm,QpB]
  exact ⟨⟨⟨by omega,hk⟩,⟨.inl rfl,by have:=Z2 x;rw [Zz];omega⟩,room (by omega)⟩,ih⟩
 ·refine Qma (fun r'=>r'=QaS (id (α:=List (List Int)) l)) l _ _ ⟨fun h=>by simp at h,fun _=>?_⟩
  exact R_eq (by simp)
theorem Qxs:Qf Tryz.prog QkL:=Qj fun x h=>QCz x.1 h
def Qau (t:(List Int) × Bool):TRes:=zra (.tp [(zcs [TI] t.1),(zcb t.2)])
def Qic:TRow:=Qg 194 [(.c (.sl [TI])),(.c (.sl [TI]))] fun x=>(some (ZB (α:=List Int) (β:=List Int) x.1 x.2.1),Qau (YD x.1 x.2.1))
def Qe5:TTab:=⟨[Qbk],false⟩
def QrK:TCode :=
 (zsq [(zsq [(.reg [zmv 12 8,zmv 13 0,zle 14 13,zbi 15 .lss 12 14,zmv 16 15,.grp 16 true [zmv 17 8,zmv 18 1,zle 19 18,zbi 20 .lss 17 19] 21 20]),(.cond 21 .skip (.exit 0))]),(.block 1 (zsq [(.draw [zmv 25 0,zmv 26 8,zia 27 25 26 [TI],zld 28 27 1,zmv 29 1,zmv 30 8,zia 31 29 30 [TI],zld 32 31 1,zca 33 99 [28,32],zmv 24 33,zex 34 24 0,zex 35 24 1,zmv 9 34,zmv 10 35] []),(.reg [zmv 36 6,zmv 37 9,zop 38 (.bsl 3 [TI] [37]),zop 39 (.app 36 38 3 [TI]),zmv 6 39]),(.reg [zmv 40 7,zmv 41 40,.grp 41 false [zmv 42 10] 43 42,zmv 7 43])])),(.reg [zmv 22 8,zbi 23 .add 22 (zki 1),zmv 8 23])])
def Qq5:List (Nat × Md):=[(0,.one .d),(1,.one .d),(6,.one .f),(7,.one .d),(8,.one .d)]
def Qr6:TCode :=
 (zsq [(.reg [zmv 44 6,zmv 45 7,zmv 4 44,zmv 5 45]),.ret])
def QBy:TCode :=
 (zsq [(.reg [zmv 4 (.k (.n [TI])),zmv 5 (zkb false)]),(.reg [zop 11 (.bsl 3 [TI] []),zmv 6 11]),(.reg [zmv 7 (zkb false)]),(zsq [(.reg [zmv 8 (zki 0)]),(.block 0 (.loop Qq5 QrK))]),Qr6])
def QrR:List (ARv × Md):=[(.t 4,.one .d),(.t 5,.one .d)]
def Qo8:Qb:=TQ 0 0 QrR K
def Qz6:Qb:=Qseq (tawp Qe5 0 Qr6 (Qo8 K)) (Qo8 K)
def QFy:Qb:=Qblk 0 (Qz6 K)
def Qfa (a:List Int) (b:List Int) (sat:Bool) (i:Int) (out:List Int):Prop:=Loop Qe5 0 Qq5 QrK (QFy K) ⟨[(0,(zcs [TI] a)),(1,(zcs [TI] b)),(6,(.r [TI] 0 0 out.length)),(7,(zcb sat)),(8,(zci i))],[(0,(.sl 3 [TI] .ow out))],1⟩
theorem QkR (a:List Int) (b:List Int) (sat:Bool) (i:Int) (out:List Int) (h :
 (zif ((decide (i<(a.length:Int)))&&(decide (i<(b.length:Int)))) ((((0:Int)≤i∧Int.toNat i<a.length)∧((0:Int)≤i∧Int.toNat i<b.length))∧(((out.length=out.length∨out.length+1≤out.length)∧out.length+1≤big)∧(Qfa K a b (sat||((QV (gtd (0:Int) a (Int.toNat i)) (gtd (0:Int) b (Int.toNat i))).2)) (w64 (i+(1:Int))) (List.take (out.length+1) ((List.take out.length out)++([(QV (gtd (0:Int) a (Int.toNat i)) (gtd (0:Int) b (Int.toNat i))).1])))))) (K (Qau ((List.take out.length (List.drop 0 out)),sat))))):Qfa K a b sat i out :=
 Loop.of (by kernel_rfl) h
theorem QDS (a:List Int) (b:List Int) (h :
 (Qfa K a b false 0 ([]:List Int))):Hold (tawp Qe5 (0+0) QBy (TQ 0 0 QrR K) (Qd [(.c (.sl [TI]) a),(.c (.sl [TI]) b)])) :=
 Hold.of (by kernel_rfl) h
theorem QBV (a:List Int) (b:List Int) (hp:ZB (α:=List Int) (β:=List Int) a b):TCon Tryz.prog 194 [(.c (.sl [TI]) a),(.c (.sl [TI]) b)] (Qau (YD a b)):=by
 refine Qh rfl fun hb=>tcg (Γ:=Qe5) (n:=46) (sg:=Qic.sg) Qi (TOkL.cons Qgo TOkL.nil) (by kernel_rfl) (by kernel_rfl) (QDS _ a b ?_)
 have hl_a:a.length≤9223372036854775807:=hb.1.1
 have hl_b:b.length≤9223372036854775807:=hb.2.1.1
 unfold ZB at hp
 have ha:=Z2 a
 have hb2:=Z2 b
 refine Za a (fun r k=>∀ (v:List Int) (s:Bool),v.length=k→(v++(vz QV r (b.drop k)).1,s||(vz QV r (b.drop k)).2)=(YD a b)→Qfa (fun r'=>r'=Qau (YD a b)) a b s k v) ?_ ?_ [] false rfl (by unfold YD;simp)
 ·intro v s hv he
  refine QkR (fun r'=>r'=Qau (YD a b)) a b _ _ _ ⟨fun h=>by simp at h,fun _=>R_eq ?_⟩
  rw [← he];simp [vz]
 ·intro k x r hk hlt hg ih v s hv he
  by_cases hkb:k<b.length
  ·obtain ⟨y,q,hq⟩:=ZQ (l:=b) (k:=k) hkb
   refine QkR (fun r'=>r'=Qau (YD a b)) a b _ _ _ ⟨fun _=>?_,fun h=>by simp at h;omega⟩
   rw [Int.toNat_natCast,hg,Zr hq,sc1 (by omega),Zm]
   refine ⟨⟨⟨by omega,hlt⟩,by omega,hkb⟩,room (by omega),ih _ _ (ZZ hv) ?_⟩
   rw [← he,hq,vz,Zj hq]
   simp [Bool.or_assoc]
  ·refine QkR (fun r'=>r'=Qau (YD a b)) a b _ _ _ ⟨fun h=>by simp at h;omega,fun _=>R_eq ?_⟩
   rw [← he,drop_nil (l:=b) (by omega)];simp [vz]
theorem QEY:Qf Tryz.prog Qic:=Qj fun x h=>QBV x.1 x.2.1 h
def Y5 (t:Qm):TRes:=⟨(.a [(.r [(.sl [TI])] 0 0 ((t.1).length)),(zci t.2.1),(zcb t.2.2)]),[(.sl 106 [(.sl [TI])] (.dp 0 true []) t.1)],[],false,[]⟩
def QiW:TRow:=Qg 113 [(.a QE),(.a QE)] fun x=>(some (ZB (α:=Qm) (β:=Qm) x.1 x.2.1),Y5 (Ze x.1 x.2.1))
def JG:TTab:=⟨[Qco],true⟩
def Qvn:TCode :=
 (zsq [(zsq [(.reg [zmv 35 8,zfa 36 2 0,zld 37 36 1,zmv 38 6,zia 39 37 38 [(.sl [TI])],zfa 40 39 0,zld 41 40 1,zle 42 41,zbi 43 .lss 35 42,zmv 44 43,.grp 44 true [zmv 45 8,zfa 46 3 0,zld 47 46 1,zmv 48 6,zia 49 47 48 [(.sl [TI])],zfa 50 49 0,zld 51 50 1,zle 52 51,zbi 53 .lss 45 52] 54 53]),(.cond 54 .skip (.exit 2))]),(.block 3 (zsq [(.draw [zfa 58 2 0,zld 59 58 1,zmv 60 6,zia 61 59 60 [(.sl [TI])],zfa 62 61 0,zld 63 62 1,zmv 64 8,zia 65 63 64 [TI],zld 66 65 1,zfa 67 3 0,zld 68 67 1,zmv 69 6,zia 70 68 69 [(.sl [TI])],zfa 71 70 0,zld 72 71 1,zmv 73 8,zia 74 72 73 [TI],zld 75 74 1,zca 76 106 [66,75],zmv 57 76,zex 77 57 0,zex 78 57 1,zmv 9 77,zmv 10 78] []),(.reg [zfa 79 7 0,zld 80 79 1,zmv 81 9,zop 82 (.bsl 3 [TI] [81]),zop 83 (.app 80 82 3 [TI]),zfa 84 7 0,zst 84 83 1]),(.reg [zfa 85 5 2,zld 86 85 1,zmv 87 86,.grp 87 false [zmv 88 10] 89 88,zfa 90 5 2,zst 90 89 1])])),(.reg [zmv 55 8,zbi 56 .add 55 (zki 1),zmv 8 56])])
def Qq8:List (Nat × Md):=[(2,.b [.d,.d,.d]),(3,.b [.d,.d,.d]),(4,.b [.f,.d,.d]),(5,.b [.f,.d,.d]),(6,.one .d),(7,.b [.p 3]),(8,.one .d)]
def QnO:TCode :=
 (.reg [zfa 91 5 0,zld 92 91 1,zLd 93 7 1,zop 94 (.bsl 106 [(.sl [TI])] [93]),zop 95 (.app 92 94 106 [(.sl [TI])]),zfa 96 5 0,zst 96 95 1])
def QlI:TCode :=
 (.reg [zmv 32 6,zbi 33 .add 32 (zki 1),zmv 6 33])
def Qi2:TCode :=
 (zsq [(zsq [(.reg [zmv 20 6,zfa 21 2 0,zld 22 21 1,zle 23 22,zbi 24 .lss 20 23,zmv 25 24,.grp 25 true [zmv 26 6,zfa 27 3 0,zld 28 27 1,zle 29 28,zbi 30 .lss 26 29] 31 30]),(.cond 31 .skip (.exit 0))]),(.block 1 (zsq [(.reg [zop 34 (.build [(.n [TI])] []),zop 7 (.new 106 [(.n [TI])]),zst 7 34 1]),(zsq [(.reg [zmv 8 (zki 0)]),(.block 2 (.loop Qq8 Qvn))]),QnO])),QlI])
def Qfi:List (Nat × Md):=[(2,.b [.d,.d,.d]),(3,.b [.d,.d,.d]),(4,.b [.f,.d,.d]),(5,.b [.p 106,.d,.d]),(6,.one .d)]
def Qqh:TCode :=
 (zsq [(.reg [zfa 98 2 1,zld 99 98 1,zfa 100 3 1,zld 101 100 1,zca 102 106 [99,101],zmv 97 102,zex 103 97 0,zex 104 97 1,zmv 11 103,zmv 12 104]),(.reg [zmv 105 11,zfa 106 5 1,zst 106 105 1]),(.reg [zfa 107 5 2,zld 108 107 1,zmv 109 108,.grp 109 false [zmv 110 12] 111 110,zfa 112 5 2,zst 112 111 1]),(.reg [zLd 113 5 3,zst 4 113 3]),.ret])
def QDl:TCode :=
 (zsq [(.reg [zop 2 (.box 37 0 3),zop 3 (.box 37 1 3),zop 4 (.new 37 (z0s QE))]),(.reg [zfa 13 2 2,zld 14 13 1,zmv 15 14,.grp 15 false [zfa 16 3 2,zld 17 16 1] 18 17,zop 19 (.build (z0s QE) [(2,1,18)]),zop 5 (.new 37 (z0s QE)),zst 5 19 3]),(zsq [(.reg [zmv 6 (zki 0)]),(.block 0 (.loop Qfi Qi2))]),Qqh])
def Qlr:List (ARv × Md):=[(.l 4 3 true,.b [.p 106,.d,.d])]
def QsZ:Qb:=TQ 0 0 Qlr K
def QE3:Qb:=Qseq (tawp JG 0 Qqh (QsZ K)) (QsZ K)
def QhY:Qb:=Qblk 0 (QE3 K)
def Qrl:Qb:=Qseq (fun s'=>Loop JG 0 Qfi Qi2 (QhY K) (gc 0 Qfi s')) (QhY K)
def QFB:Qb:=Qseq (tawp JG 0 QlI (Qrl K)) (Qrl K)
def QuL:Qb:=Qblk 1 (QFB K)
def QFa:Qb:=Qseq (tawp JG 0 QnO (QuL K)) (QuL K)
def QFD:Qb:=Qblk 2 (QFa K)
def Qew (a:Qm) (b:Qm) (k:Int) (g2:Bool) (row0:List Int) (i:Int) (g01:List (List Int)):Prop:=Loop JG 0 Qq8 Qvn (QFD K) ⟨[(2,(.p 0 0 0)),(3,(.p 1 0 0)),(4,(.p 2 0 0)),(5,(.p 4 0 0)),(6,(zci i)),(7,(.p 6 0 0)),(8,(zci k))],[(0,(.box (Tup.cells QE a))),(1,(.box (Tup.cells QE b))),(2,(.box [(.n [(.sl [TI])]),(zci 0),(zcb false)])),(3,(.sl 106 [(.sl [TI])] (.dp 0 true []) g01)),(4,(.box [(.r [(.sl [TI])] 3 0 g01.length),(zci 0),(zcb g2)])),(5,(.sl 3 [TI] (.dp 0 true []) row0)),(6,(.box [(.r [TI] 5 0 row0.length)]))],7⟩
def Qf3 (a:Qm) (b:Qm) (i:Int) (g0:List (List Int)) (g21:Bool):Prop:=Loop JG 0 Qfi Qi2 (QhY K) ⟨[(2,(.p 0 0 0)),(3,(.p 1 0 0)),(4,(.p 2 0 0)),(5,(.p 4 0 0)),(6,(zci i))],[(0,(.box (Tup.cells QE a))),(1,(.box (Tup.cells QE b))),(2,(.box [(.n [(.sl [TI])]),(zci 0),(zcb false)])),(3,(.sl 106 [(.sl [TI])] (.dp 0 true []) g0)),(4,(.box [(.r [(.sl [TI])] 3 0 g0.length),(zci 0),(zcb g21)]))],5⟩
theorem Qrj (a:Qm) (b:Qm) (k:Int) (g2:Bool) (row0:List Int) (i:Int) (g01:List (List Int)) (h :
 ((((0:Int)≤i∧Int.toNat i<(a.1).length)∧((decide (k<((gtd ([]:List Int) a.1 (Int.toNat i)).length:Int)))=true→((0:Int)≤i∧Int.toNat i<(b.1).length)))∧(zif ((decide (k<((gtd ([]:List Int) a.1 (Int.toNat i)).length:Int)))&&(decide (k<((gtd ([]:List Int) b.1 (Int.toNat i)).length:Int)))) ((((0:Int)≤i∧Int.toNat i<(a.1).length)∧(((0:Int)≤k∧Int.toNat k<(gtd ([]:List Int) a.1 (Int.toNat i)).length)∧(((0:Int)≤i∧Int.toNat i<(b.1).length)∧((0:Int)≤k∧Int.toNat k<(gtd ([]:List Int) b.1 (Int.toNat i)).length))))∧(((row0.length=row0.length∨row0.length+1≤row0.length)∧row0.length+1≤big)∧(Qew K a b (w64 (k+(1:Int))) (g2||((QV (gtd (0:Int) (gtd ([]:List Int) a.1 (Int.toNat i)) (Int.toNat k)) (gtd (0:Int) (gtd ([]:List Int) b.1 (Int.toNat i)) (Int.toNat k))).2)) (List.take (row0.length+1) ((List.take row0.length row0)++([(QV (gtd (0:Int) (gtd ([]:List Int) a.1 (Int.toNat i)) (Int.toNat k)) (gtd (0:Int) (gtd ([]:List Int) b.1 (Int.toNat i)) (Int.toNat k))).1]))) i (List.take g01.length g01)))) (((g01.length=g01.length∨g01.length+1≤g01.length)∧g01.length+1≤big)∧(Qf3 K a b (w64 (i+(1:Int))) (List.take (g01.length+1) ((List.take g01.length g01)++([(List.take row0.length (List.drop 0 row0))]))) g2))))):Qew K a b k g2 row0 i g01 :=
 Loop.of (by kernel_rfl) h
theorem Qlb (a:Qm) (b:Qm) (i:Int) (g0:List (List Int)) (g21:Bool) (h :
 (zif ((decide (i<((a.1).length:Int)))&&(decide (i<((b.1).length:Int)))) (Qew K a b 0 g21 ([]:List Int) i (List.take g0.length g0)) (K (Y5 ((List.take g0.length g0),(QV a.2.1 b.2.1).1,(g21||((QV a.2.1 b.2.1).2))))))):Qf3 K a b i g0 g21 :=
 Loop.of (by kernel_rfl) h
theorem Qz5 (a:Qm) (b:Qm) (h :
 (Qf3 K a b 0 ([]:List (List Int)) (a.2.2||b.2.2))):Hold (tawp JG (0+0) QDl (TQ 0 0 Qlr K) (Qd [(.a (Tup.cells QE a)),(.a (Tup.cells QE b))])) :=
 Hold.of (by kernel_rfl) h
theorem QHm (a:Qm) (b:Qm) (hp:ZB (α:=Qm) (β:=Qm) a b):TCon Tryz.prog 113 [(.a (Tup.cells QE a)),(.a (Tup.cells QE b))] (Y5 (Ze a b)):=by
 refine Qh rfl fun hb=>tcg (Γ:=JG) (n:=114) (sg:=QiW.sg) Qi (TOkL.cons QjE TOkL.nil) (by kernel_rfl) (by kernel_rfl) (Qz5 _ a b ?_)
 have hl_a_0:(a.1).length≤9223372036854775807:=hb.1.1.1
 have hl_b_0:(b.1).length≤9223372036854775807:=hb.2.1.1.1
 unfold ZB at hp
 simp only [QZ,QK,Q0] at hp
 have ha:=Jc a.1
 refine Za a.1 (fun r k=>∀ (v:List (List Int)) (z:Bool),v.length=k→v++(Zk r (b.1.drop k)).1=(Zk a.1 b.1).1→(z||(Zk r (b.1.drop k)).2)=(a.2.2||b.2.2||(Zk a.1 b.1).2)→Qf3 (fun r'=>r'=Y5 (Ze a b)) a b k v z) ?_ ?_ [] _ rfl (by simp) (by simp)
 ·intro v z hv he hz
  refine Qlb (fun r'=>r'=Y5 (Ze a b)) a b _ _ _ ⟨fun h=>by simp at h,fun _=>R_eq ?_⟩
  unfold Ze;rw [← he,← hz];simp [Zk]
 ·intro k x r hk hlt hg ih v z hv he hz
  by_cases hkb:k<b.1.length
  ·obtain ⟨y,q,hq⟩:=ZQ (l:=b.1) (k:=k) hkb
   have hx:=Qc6 hk
   have hxl:=Z2 x
   refine Qlb (fun r'=>r'=Y5 (Ze a b)) a b _ _ _ ⟨fun _=>?_,fun h=>by simp at h;omega⟩
   rw [List.take_length]
   refine Za x (fun r2 j=>∀ (w:List Int) (z2:Bool),w.length=j→w++(vz QV r2 (y.drop j)).1=(vz QV x y).1→(z2||(vz QV r2 (y.drop j)).2)=(z||(vz QV x y).2)→Qew (fun r'=>r'=Y5 (Ze a b)) a b j z2 w k v) ?_ ?_ [] z rfl (by simp) (by simp)
   ·intro w z2 hw he2 hz2
    refine Qrj (fun r'=>r'=Y5 (Ze a b)) a b _ _ _ _ _ ?_
    rw [Int.toNat_natCast,hg,Zr hq]
    refine ⟨⟨⟨by omega,hlt⟩,fun h=>by simp at h⟩,fun h=>by simp at h,fun _=>⟨room (by omega),?_⟩⟩
    rw [QmQ,sc1 (by omega),Zm]
    simp only [vz,List.append_nil,Bool.or_false] at he2 hz2
    refine ih _ _ (ZZ hv) ?_ ?_
    ·rw [← he,hq,Zk,Zj hq,he2];simp
    ·rw [← hz,hq,Zk,Zj hq,hz2];simp [Bool.or_assoc]
   ·intro j e r2 hj hlt2 hg2 ih2 w z2 hw he2 hz2
    refine Qrj (fun r'=>r'=Y5 (Ze a b)) a b _ _ _ _ _ ?_
    rw [Int.toNat_natCast,Int.toNat_natCast,hg,Zr hq]
    by_cases hjy:j<y.length
    ·obtain ⟨f,q2,hq2⟩:=ZQ (l:=y) (k:=j) hjy
     refine ⟨⟨⟨by omega,hlt⟩,fun _=>⟨by omega,hkb⟩⟩,fun _=>?_,fun h=>by simp at h;omega⟩
     rw [hg2,Zr hq2,sc1 (by omega),Zm,List.take_length]
     refine ⟨⟨⟨by omega,hlt⟩,⟨by omega,hlt2⟩,⟨by omega,hkb⟩,by omega,hjy⟩,room (by omega),ih2 _ _ (ZZ hw) ?_ ?_⟩
     ·rw [← he2,hq2,vz,Zj hq2];simp
     ·rw [← hz2,hq2,vz,Zj hq2];simp [Bool.or_assoc]
    ·refine ⟨⟨⟨by omega,hlt⟩,fun _=>⟨by omega,hkb⟩⟩,fun h=>by simp at h;omega,fun _=>⟨room (by omega),?_⟩⟩
     rw [QmQ,sc1 (by omega),Zm]
     rw [drop_nil (l:=y) (by omega)] at he2 hz2
     simp only [vz,List.append_nil,Bool.or_false] at he2 hz2
     refine ih _ _ (ZZ hv) ?_ ?_
     ·rw [← he,hq,Zk,Zj hq,he2];simp
     ·rw [← hz,hq,Zk,Zj hq,hz2];simp [Bool.or_assoc]
  ·refine Qlb (fun r'=>r'=Y5 (Ze a b)) a b _ _ _ ⟨fun h=>by simp at h;omega,fun _=>R_eq ?_⟩
   unfold Ze;rw [← he,← hz,drop_nil (l:=b.1) (by omega)];simp [Zk]
theorem QxQ:Qf Tryz.prog QiW:=Qj fun x h=>QHm x.1 x.2.1 h
def QaD (t:Qm):TRes:=zra (.a (Tup.cells QE t))
def Qkt:TRow:=Qg 109 [(.a QE),(.a QE)] fun x=>(some (ZB (α:=Qm) (β:=Qm) x.1 x.2.1),QaD (Ze x.1 x.2.1))
def Qfo:TTab:=⟨[Qic,Qbk],false⟩
def Qso:TCode :=
 (zsq [(zsq [(.reg [zmv 18 6,zfa 19 2 0,zld 20 19 1,zle 21 20,zbi 22 .lss 18 21,zmv 23 22,.grp 23 true [zmv 24 6,zfa 25 3 0,zld 26 25 1,zle 27 26,zbi 28 .lss 24 27] 29 28]),(.cond 29 .skip (.exit 0))]),(.block 1 (zsq [(.draw [zfa 33 2 0,zld 34 33 1,zmv 35 6,zia 36 34 35 [(.sl [TI])],zfa 37 36 0,zld 38 37 1,zfa 39 3 0,zld 40 39 1,zmv 41 6,zia 42 40 41 [(.sl [TI])],zfa 43 42 0,zld 44 43 1,zca 45 194 [38,44],zmv 32 45,zex 46 32 0,zex 47 32 1,zmv 7 46,zmv 8 47] []),(.reg [zfa 48 5 0,zld 49 48 1,zmv 50 7,zop 51 (.build [(.n [TI])] [(0,1,50)]),zop 52 (.bsl 106 [(.sl [TI])] [51]),zop 53 (.app 49 52 106 [(.sl [TI])]),zfa 54 5 0,zst 54 53 1]),(.reg [zfa 55 5 2,zld 56 55 1,zmv 57 56,.grp 57 false [zmv 58 8] 59 58,zfa 60 5 2,zst 60 59 1])])),(.reg [zmv 30 6,zbi 31 .add 30 (zki 1),zmv 6 31])])
def QmM:List (Nat × Md):=[(2,.b [.d,.d,.d]),(3,.b [.d,.d,.d]),(4,.b [.d,.d,.d]),(5,.b [.o 106,.d,.d]),(6,.one .d)]
def Qr1:TCode :=
 (zsq [(.reg [zfa 62 2 1,zld 63 62 1,zfa 64 3 1,zld 65 64 1,zca 66 99 [63,65],zmv 61 66,zex 67 61 0,zex 68 61 1,zmv 9 67,zmv 10 68]),(.reg [zmv 69 9,zfa 70 5 1,zst 70 69 1]),(.reg [zfa 71 5 2,zld 72 71 1,zmv 73 72,.grp 73 false [zmv 74 10] 75 74,zfa 76 5 2,zst 76 75 1]),(.reg [zLd 77 5 3,zst 4 77 3]),.ret])
def QJa:TCode :=
 (zsq [(.reg [zop 2 (.box 37 0 3),zop 3 (.box 37 1 3),zop 4 (.new 37 (z0s QE))]),(.reg [zfa 11 2 2,zld 12 11 1,zmv 13 12,.grp 13 false [zfa 14 3 2,zld 15 14 1] 16 15,zop 17 (.build (z0s QE) [(2,1,16)]),zop 5 (.new 37 (z0s QE)),zst 5 17 3]),(zsq [(.reg [zmv 6 (zki 0)]),(.block 0 (.loop QmM Qso))]),Qr1])
def Qms:List (ARv × Md):=[(.l 4 3 true,.b [.d,.d,.d])]
def QvI:Qb:=TQ 0 0 Qms K
def QDq:Qb:=Qseq (tawp Qfo 0 Qr1 (QvI K)) (QvI K)
def QJy:Qb:=Qblk 0 (QDq K)
def QdL (a:Qm) (b:Qm) (i:Int) (g0:List (List Int)) (g2:Bool):Prop:=Loop Qfo 0 QmM Qso (QJy K) ⟨[(2,(.p 0 0 0)),(3,(.p 1 0 0)),(4,(.p 2 0 0)),(5,(.p 4 0 0)),(6,(zci i))],[(0,(.box (Tup.cells QE a))),(1,(.box (Tup.cells QE b))),(2,(.box (Tup.cells QE ([],(0:Int),false)))),(3,(.sl 106 [(.sl [TI])] .ow g0)),(4,(.box [(.r [(.sl [TI])] 3 0 g0.length),(zci 0),(zcb g2)]))],5⟩
theorem Qia (a:Qm) (b:Qm) (i:Int) (g0:List (List Int)) (g2:Bool) (h :
 (zif ((decide (i<((a.1).length:Int)))&&(decide (i<((b.1).length:Int)))) ((((0:Int)≤i∧Int.toNat i<(a.1).length)∧(((0:Int)≤i∧Int.toNat i<(b.1).length)∧(ZB (α:=List Int) (β:=List Int) (gtd ([]:List Int) a.1 (Int.toNat i)) (gtd ([]:List Int) b.1 (Int.toNat i)))))∧(((g0.length=g0.length∨g0.length+1≤g0.length)∧g0.length+1≤big)∧(QdL K a b (w64 (i+(1:Int))) (List.take (g0.length+1) ((List.take g0.length g0)++([(YD (gtd ([]:List Int) a.1 (Int.toNat i)) (gtd ([]:List Int) b.1 (Int.toNat i))).1]))) (g2||((YD (gtd ([]:List Int) a.1 (Int.toNat i)) (gtd ([]:List Int) b.1 (Int.toNat i))).2))))) (K (QaD ((List.take g0.length (List.drop 0 g0)),(QV a.2.1 b.2.1).1,(g2||((QV a.2.1 b.2.1).2))))))):QdL K a b i g0 g2 :=
 Loop.of (by kernel_rfl) h
theorem QA4 (a:Qm) (b:Qm) (h :
 (QdL K a b 0 ([]:List (List Int)) (a.2.2||b.2.2))):Hold (tawp Qfo (0+0) QJa (TQ 0 0 Qms K) (Qd [(.a (Tup.cells QE a)),(.a (Tup.cells QE b))])) :=
 Hold.of (by kernel_rfl) h
theorem QIJ (a:Qm) (b:Qm) (hp:ZB (α:=Qm) (β:=Qm) a b):TCon Tryz.prog 109 [(.a (Tup.cells QE a)),(.a (Tup.cells QE b))] (QaD (Ze a b)):=by
 refine Qh rfl fun hb=>tcg (Γ:=Qfo) (n:=78) (sg:=Qkt.sg) Qi (TOkL.cons QEY (TOkL.cons Qgo TOkL.nil)) (by kernel_rfl) (by kernel_rfl) (QA4 _ a b ?_)
 have hl_a_0:(a.1).length≤9223372036854775807:=hb.1.1.1
 have hl_b_0:(b.1).length≤9223372036854775807:=hb.2.1.1.1
 unfold ZB at hp
 simp only [QZ,QK,Q0] at hp
 have ha:=Jc a.1
 refine Za a.1 (fun r k=>∀ (v:List (List Int)) (z:Bool),v.length=k→v++(Zk r (b.1.drop k)).1=(Zk a.1 b.1).1→(z||(Zk r (b.1.drop k)).2)=(a.2.2||b.2.2||(Zk a.1 b.1).2)→QdL (fun r'=>r'=QaD (Ze a b)) a b k v z) ?_ ?_ [] _ rfl (by simp) (by simp)
 ·intro v z hv he hz
  refine Qia (fun r'=>r'=QaD (Ze a b)) a b _ _ _ ⟨fun h=>by simp at h,fun _=>R_eq ?_⟩
  unfold Ze;rw [← he,← hz];simp [Zk]
 ·intro k x r hk hlt hg ih v z hv he hz
  by_cases hkb:k<b.1.length
  ·obtain ⟨y,q,hq⟩:=ZQ (l:=b.1) (k:=k) hkb
   have hx:=Qc6 hk
   have hy:=Qc6 hq
   refine Qia (fun r'=>r'=QaD (Ze a b)) a b _ _ _ ⟨fun _=>?_,fun h=>by simp at h;omega⟩
   rw [Int.toNat_natCast,hg,Zr hq,sc1 (by omega),Zm]
   refine ⟨⟨⟨by omega,hlt⟩,⟨by omega,hkb⟩,by unfold ZB;omega⟩,room (by omega),ih _ _ (ZZ hv) ?_ ?_⟩
   ·rw [← he,hq,Zk,Zj hq];simp [YD]
   ·rw [← hz,hq,Zk,Zj hq];simp [YD,Bool.or_assoc]
  ·refine Qia (fun r'=>r'=QaD (Ze a b)) a b _ _ _ ⟨fun h=>by simp at h;omega,fun _=>R_eq ?_⟩
   unfold Ze;rw [← he,← hz,drop_nil (l:=b.1) (by omega)];simp [Zk]
theorem Qw2:Qf Tryz.prog Qkt:=Qj fun x h=>QIJ x.1 x.2.1 h
end
end Go.Proofs.YtdplaepmjogjjaaGreat.Am

