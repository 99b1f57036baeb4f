/- -/
import Derived.Test.YtjbdljkhbglnhaaGreatZGPJ
import Derived.Test.YtjbdljkhbglnhaaGreatZGP4
import Derived.Test.YtjbdljkhbglnhaaGreatZGPF
import Derived.Test.YtjbdljkhbglnhaaGreatZGP8
import Derived.Test.YtjbdljkhbglnhaaGreatZGP1
import Derived.Test.YtjbdljkhbglnhaaGreatZGP3
import Derived.Test.YtjbdljkhbglnhaaGreatZGPK
import Derived.Test.YtjbdljkhbglnhaaGreatZGPI
import Derived.Test.YtjbdljkhbglnhaaGreatZGPG
import Derived.Test.YtjbdljkhbglnhaaGreatZGGD
namespace Go.Proofs.YtjbdljkhbglnhaaGreat.Am
open Go Go.RowKit Go.Proofs.YtjbdljkhbglnhaaGreat
set_option linter.all false
set_option maxHeartbeats 2000000
noncomputable section
variable (K:TRes→Prop)
def Qip (t:Qc):TRes:=zra (.a (Tup.cells Qu t))
def Qkg:TRow:=Qi 73 [(.c (.sl ctOp)),(.c (.sl QO)),(.c .bool),(.c .bool)] fun x=>(some (QmG x.1 x.2.1 x.2.2.1 x.2.2.2.1),Qip (QaG x.1 x.2.1 x.2.2.1 x.2.2.2.1))
def QJU:List TRow:=[QfB,JX,Qke]
def Qz2:TCode :=
 (zsq [(.reg [zop 8 (.new 63 (z0s Qu))]),(.reg [zmv 10 0,zca 11 151 [10],zop 12 (.build [(.n ctOp)] [(0,1,11)]),zop 9 (.new 26 [(.n ctOp)]),zst 9 12 1]),(zsq [(.reg [zLd 13 9 1,zca 14 131 [13],zno 15 14]),(.cond 15 (zsq [(.reg [zop 16 (.build (z0s Qu) []),zst 8 16 14]),.ret]) .skip)]),(.draw [zop 17 (.bsl 111 QO []),zmv 18 1,zop 19 (.app 17 18 111 QO),zfa 20 9 0,zld 21 20 1,zmv 22 2,zmv 23 3,zLd 24 9 1,zca 25 88 [24],zop 26 (.build (z0s Qu) [(1,1,19),(2,1,21),(3,1,22),(4,1,23),(11,3,25)]),zst 8 26 14] [(0,3),(2,3),(0,4),(2,4),(0,7),(2,7),(3,8),(4,8)]),.ret])
def QAa:List (ARv × Md):=[(.l 8 14 true,.b (zds 14))]
theorem QDY (ops:List TOp') (plan:List TIns) (last:Bool) (redo:Bool) (h :
 ((QJ (α:=List TOp') ops)∧(zif (!(QE (id (α:=List TOp') ops))) (K (Qip ((0:Int),[],[],false,false,[],[],[],[],[],[],[],(0:Int),false))) (((0=0∨0+plan.length≤0)∧0+plan.length≤big)∧K (Qip ((0:Int),(List.take (0+plan.length) (List.drop 0 (plan:List TIns))),(id (α:=List TOp') ops),last,redo,[],[],[],[],[],[],(ZU (id (α:=List TOp') ops)).1,(ZU (id (α:=List TOp') ops)).2.1,(ZU (id (α:=List TOp') ops)).2.2)))))):Hold (tawp QJU (0+0) Qz2 (TQ 0 0 QAa K) (Qf [(.c (.sl ctOp) ops),(.c (.sl QO) plan),(.c .bool last),(.c .bool redo)])) :=
 Hold.of (by kernel_rfl) h
theorem Qzw (ops:List TOp') (plan:List TIns) (last:Bool) (redo:Bool) (hp:QmG ops plan last redo):TCon Tryz.prog 73 [(.c (.sl ctOp) ops),(.c (.sl QO) plan),(.c .bool last),(.c .bool redo)] (Qip (QaG ops plan last redo)):=by
 refine Qr rfl fun hb=>tcg (n:=27) (sg:=Qkg.sg) Qk (TOk.cons Qo9 (TOk.cons Qar (TOk.cons QDP TOk.nil))) (by kernel_rfl) (by kernel_rfl) (QDY _ ops plan last redo ?_)
 have hl_ops:ops.length≤9223372036854775807:=hb.1.1
 have hl_plan:plan.length≤9223372036854775807:=hb.2.1.1
 obtain ⟨h1,h2⟩:=hp
 simp only [id,List.drop_zero,List.take_length,true_or,true_and,Nat.zero_add]
 refine ⟨h1,fun h=>R_eq ?_,fun h=>⟨by rw [Zw];omega,R_eq ?_⟩⟩
 ·unfold QaG;rw [if_neg (by simpa using h)]
 ·unfold QaG;rw [if_pos (by simpa using h),QG4]
theorem QJ1:Qj Tryz.prog Qkg:=Ql fun x h=>Qzw x.1 x.2.1 x.2.2.1 x.2.2.2.1 h
def QbG (t:Qc):TRes:=⟨(.a [(zci t.1),(zcs QO t.2.1),(zcs ctOp t.2.2.1),(zcb t.2.2.2.1),(zcb t.2.2.2.2.1),(.r ZA 0 0 ((t.2.2.2.2.2.1).length)),(zcs [(.sl [TI])] t.2.2.2.2.2.2.1),(zcs [TI] t.2.2.2.2.2.2.2.1),(zcs [TI] t.2.2.2.2.2.2.2.2.1),(zcs [TI] t.2.2.2.2.2.2.2.2.2.1),(zcs [TI] t.2.2.2.2.2.2.2.2.2.2.1),(zcs [(.sl [TI])] t.2.2.2.2.2.2.2.2.2.2.2.1),(zci t.2.2.2.2.2.2.2.2.2.2.2.2.1),(zcb t.2.2.2.2.2.2.2.2.2.2.2.2.2)]),[(.sl 76 ZA true t.2.2.2.2.2.1)],[],true,[]⟩
def Qdf:TRow:=Qi 111 [(.a Qu)] fun x=>(some (QJ (α:=Qc) x.1),QbG (id (α:=Qc) x.1))
def Qkl:List TRow:=[QfB,Qc6,Qab,QnJ]
def Quf:TCode :=
 (zsq [(.reg [zbi 24 .lss 23 22]),(.cond 24 .skip (.exit 0)),(.block 1 (zsq [(.reg [zia 25 21 23 ZA,zLd 26 25 2,zop 5 (.new 76 (z0s ZA)),zst 5 26 2]),(.draw [zfa 27 3 5,zld 28 27 1,zfa 29 5 0,zld 30 29 1,zfa 31 5 1,zld 32 31 1,zca 33 86 [32],zop 34 (.build (z0s ZA) [(0,1,30),(1,1,33)]),zop 35 (.bsl 76 ZA [34]),zop 36 (.app 28 35 76 ZA),zfa 37 3 5,zst 37 36 1] [(0,6),(1,6),(2,6),(3,6),(0,8),(1,8)])])),(.reg [zbi 38 .add 23 (zki 1),zmv 23 38])])
def Qtc:List (Nat × Md):=[(1,.b (zds 14)),(2,.b (zds 14)),(3,.b [.d,.d,.d,.d,.d,.o 76,.d,.d,.d,.d,.d,.d,.d,.d]),(21,.one .d),(22,.one .d),(23,.one .d)]
def QwK:TCode :=
 (zsq [(.reg [zfa 39 1 6,zld 40 39 1,zca 41 86 [40],zfa 42 3 6,zst 42 41 1]),(.draw [zfa 43 1 7,zld 44 43 1,zca 45 119 [44],zfa 46 1 8,zld 47 46 1,zca 48 119 [47],zfa 49 1 9,zld 50 49 1,zca 51 119 [50],zfa 52 1 10,zld 53 52 1,zca 54 119 [53],zfa 55 3 7,zst 55 45 1,zfa 56 3 8,zst 56 48 1,zfa 57 3 9,zst 57 51 1,zfa 58 3 10,zst 58 54 1] [(2,3),(2,4),(2,6),(5,6),(2,7),(5,7),(2,9),(5,9),(8,9),(2,10),(5,10),(8,10),(5,12),(8,12),(11,12)]),(.reg [zfa 59 1 11,zLd 60 59 3,zca 61 184 [60],zfa 62 3 11,zst 62 61 3]),(.reg [zLd 63 3 14,zst 2 63 14]),.ret])
def QH2:TCode :=
 (zsq [(.reg [zop 1 (.box 63 0 14),zop 2 (.new 63 (z0s Qu))]),(.draw [zfa 6 1 0,zld 7 6 1,zop 8 (.bsl 111 QO []),zfa 9 1 1,zld 10 9 1,zop 11 (.app 8 10 111 QO),zfa 12 1 2,zld 13 12 1,zca 14 151 [13],zfa 15 1 3,zld 16 15 1,zfa 17 1 4,zld 18 17 1,zop 19 (.build (z0s Qu) [(0,1,7),(1,1,11),(2,1,14),(3,1,16),(4,1,18)]),zop 3 (.new 63 (z0s Qu)),zst 3 19 14] [(0,2),(1,2),(2,3),(2,4),(0,5),(1,5),(2,6),(5,6),(2,7),(5,7),(0,8),(1,8),(2,9),(5,9),(8,9),(2,10),(5,10),(8,10),(2,11),(5,11),(8,11),(2,12),(5,12),(8,12),(0,14),(1,14),(2,14),(3,14),(4,14),(5,14),(6,14),(7,14),(8,14),(9,14),(10,14),(11,14),(12,14)]),(zsq [(.reg [zfa 20 1 5,zld 21 20 1,zle 22 21,zmv 23 (zki 0)]),(.block 0 (.loop Qtc Quf))]),QwK])
def Qqe:List (ARv × Md):=[(.l 2 14 true,.b [.d,.d,.d,.d,.d,.o 76,.d,.d,.d,.d,.d,.d,.d,.d])]
def QrE:Qb:=TQ 0 0 Qqe K
def QDa:Qb:=Qseq (tawp Qkl 0 QwK (QrE K)) (QrE K)
def QHl:Qb:=Qblk 0 (QDa K)
def Qih (s:Qc) (x:Int) (t5:List Yj):Prop:=Loop Qkl 0 Qtc Quf (QHl K) ⟨[(1,(.p 0 0 0)),(2,(.p 1 0 0)),(3,(.p 3 0 0)),(21,(zcs ZA s.2.2.2.2.2.1)),(22,(zci ((s.2.2.2.2.2.1).length:Int))),(23,(zci x))],[(0,(.box (Tup.cells Qu s))),(1,(.box (Tup.cells Qu ((0:Int),[],[],false,false,[],[],[],[],[],[],[],(0:Int),false)))),(2,(.sl 76 ZA true t5)),(3,(.box [(zci s.1),(zcs QO (List.take (0+(s.2.1).length) (List.drop 0 (s.2.1:List TIns)))),(zcs ctOp (id (α:=List TOp') s.2.2.1)),(zcb s.2.2.2.1),(zcb s.2.2.2.2.1),(.r ZA 2 0 t5.length),(zcs [(.sl [TI])] ([])),(zcs [TI] ([])),(zcs [TI] ([])),(zcs [TI] ([])),(zcs [TI] ([])),(zcs [(.sl [TI])] ([])),(zci 0),(zcb false)]))],4⟩
theorem Qpv (s:Qc) (x:Int) (t5:List Yj) (h :
 (zif (decide (x<((s.2.2.2.2.2.1).length:Int))) (((0:Int)≤x∧Int.toNat x<(s.2.2.2.2.2.1).length)∧(((QJ (α:=List (List Int)) ((gtd ZR s.2.2.2.2.2.1 (Int.toNat x)).2))∧((t5.length=t5.length∨t5.length+1≤t5.length)∧t5.length+1≤big))∧(Qih K s (w64 (x+(1:Int))) (List.take (t5.length+1) ((List.take t5.length t5)++([((gtd ZR s.2.2.2.2.2.1 (Int.toNat x)).1,(id (α:=List (List Int)) ((gtd ZR s.2.2.2.2.2.1 (Int.toNat x)).2)))])))))) ((QJ (α:=List (List Int)) s.2.2.2.2.2.2.1)∧(((QJ (α:=List Int) s.2.2.2.2.2.2.2.1)∧((QJ (α:=List Int) s.2.2.2.2.2.2.2.2.1)∧((QJ (α:=List Int) s.2.2.2.2.2.2.2.2.2.1)∧(QJ (α:=List Int) s.2.2.2.2.2.2.2.2.2.2.1))))∧((QJ (α:=Za) s.2.2.2.2.2.2.2.2.2.2.2)∧K (QbG (s.1,(List.take (0+(s.2.1).length) (List.drop 0 (s.2.1:List TIns))),(id (α:=List TOp') s.2.2.1),s.2.2.2.1,s.2.2.2.2.1,(List.take t5.length t5),(id (α:=List (List Int)) s.2.2.2.2.2.2.1),(List.take ((id (α:=List Int) s.2.2.2.2.2.2.2.1).length) (List.drop 0 (id (α:=List Int) s.2.2.2.2.2.2.2.1))),(List.take ((id (α:=List Int) s.2.2.2.2.2.2.2.2.1).length) (List.drop 0 (id (α:=List Int) s.2.2.2.2.2.2.2.2.1))),(List.take ((id (α:=List Int) s.2.2.2.2.2.2.2.2.2.1).length) (List.drop 0 (id (α:=List Int) s.2.2.2.2.2.2.2.2.2.1))),(List.take ((id (α:=List Int) s.2.2.2.2.2.2.2.2.2.2.1).length) (List.drop 0 (id (α:=List Int) s.2.2.2.2.2.2.2.2.2.2.1))),(id (α:=Za) s.2.2.2.2.2.2.2.2.2.2.2).1,(id (α:=Za) s.2.2.2.2.2.2.2.2.2.2.2).2.1,(id (α:=Za) s.2.2.2.2.2.2.2.2.2.2.2).2.2))))))):Qih K s x t5 :=
 Loop.of (by kernel_rfl) h
theorem QP6 (s:Qc) (h :
 ((((0=0∨0+(s.2.1).length≤0)∧0+(s.2.1).length≤big)∧(QJ (α:=List TOp') s.2.2.1))∧(Qih K s 0 ([]:List Yj)))):Hold (tawp Qkl (0+0) QH2 (TQ 0 0 Qqe K) (Qf [(.a (Tup.cells Qu s))])) :=
 Hold.of (by kernel_rfl) h
theorem QHL (s:Qc) (hp:QJ (α:=Qc) s):TCon Tryz.prog 111 [(.a (Tup.cells Qu s))] (QbG (id (α:=Qc) s)):=by
 refine Qr rfl fun hb=>tcg (n:=64) (sg:=Qdf.sg) Qk (TOk.cons Qo9 (TOk.cons QfL (TOk.cons QaX (TOk.cons QOx TOk.nil)))) (by kernel_rfl) (by kernel_rfl) (QP6 _ s ?_)
 have hl_s_1:(s.2.1).length≤9223372036854775807:=hb.1.2.1.1
 have hl_s_2:(s.2.2.1).length≤9223372036854775807:=hb.1.2.2.1.1
 have hl_s_5:(s.2.2.2.2.2.1).length≤9223372036854775807:=hb.1.2.2.2.2.2.1.1
 have hl_s_6:(s.2.2.2.2.2.2.1).length≤9223372036854775807:=hb.1.2.2.2.2.2.2.1.1
 have hl_s_7:(s.2.2.2.2.2.2.2.1).length≤9223372036854775807:=hb.1.2.2.2.2.2.2.2.1.1
 have hl_s_8:(s.2.2.2.2.2.2.2.2.1).length≤9223372036854775807:=hb.1.2.2.2.2.2.2.2.2.1.1
 have hl_s_9:(s.2.2.2.2.2.2.2.2.2.1).length≤9223372036854775807:=hb.1.2.2.2.2.2.2.2.2.2.1.1
 have hl_s_10:(s.2.2.2.2.2.2.2.2.2.2.1).length≤9223372036854775807:=hb.1.2.2.2.2.2.2.2.2.2.2.1.1
 have hl_s_11:(s.2.2.2.2.2.2.2.2.2.2.2.1).length≤9223372036854775807:=hb.1.2.2.2.2.2.2.2.2.2.2.2.1.1
 have hp':Sz.sz s≤2147483648:=hp
 have hs:=Yi s
 have l1:=Qad (QH s)
 simp only [id,List.drop_zero,List.take_length,true_or,true_and,Nat.zero_add]
 refine ⟨⟨by rw [Zw];((try simp only [sPc,QH,sOps,Qv,QF,Qg,QK,sX,sY,sG,sD,QD,QC,sSat,QQ,QG,Qy,QA] at *);omega),by unfold QJ;((try simp only [sPc,QH,sOps,Qv,QF,Qg,QK,sX,sY,sG,sD,QD,QC,sSat,QQ,QG,Qy,QA] at *);omega)⟩,?_⟩
 refine Qbs (l:=s.2.2.2.2.2.1) (A:=fun i v=>Qih (fun r'=>r'=QbG (id (α:=Qc) s)) s i v) (Q:=fun z=>QbG (s.1,s.2.1,s.2.2.1,s.2.2.2.1,s.2.2.2.2.1,z,s.2.2.2.2.2.2)=QbG (id (α:=Qc) s)) (by ((try simp only [sPc,QH,sOps,Qv,QF,Qg,QK,sX,sY,sG,sD,QD,QC,sSat,QQ,QG,Qy,QA] at *);omega)) (fun k x v hk hl hg hv hx ih=>?_) (fun hq=>?_) (R_eq rfl)
 ·refine Qpv (fun r'=>r'=QbG (id (α:=Qc) s)) s _ _ ⟨fun _=>?_,fun h=>by simp at h;omega⟩
  simp only [YA,Yd] at hx
  rw [Int.toNat_natCast,hg,sc1 (by omega),Zx]
  exact ⟨⟨by omega,hk⟩,⟨by unfold QJ;omega,room (by omega)⟩,ih⟩
 ·refine Qpv (fun r'=>r'=QbG (id (α:=Qc) s)) s _ _ ⟨fun h=>by simp at h,fun _=>?_⟩
  simp only [id,List.drop_zero,List.take_length,true_or,true_and,Nat.zero_add]
  exact ⟨by unfold QJ;((try simp only [sPc,QH,sOps,Qv,QF,Qg,QK,sX,sY,sG,sD,QD,QC,sSat,QQ,QG,Qy,QA] at *);omega),⟨by unfold QJ;((try simp only [sPc,QH,sOps,Qv,QF,Qg,QK,sX,sY,sG,sD,QD,QC,sSat,QQ,QG,Qy,QA] at *);omega),by unfold QJ;((try simp only [sPc,QH,sOps,Qv,QF,Qg,QK,sX,sY,sG,sD,QD,QC,sSat,QQ,QG,Qy,QA] at *);omega),by unfold QJ;((try simp only [sPc,QH,sOps,Qv,QF,Qg,QK,sX,sY,sG,sD,QD,QC,sSat,QQ,QG,Qy,QA] at *);omega),by unfold QJ;((try simp only [sPc,QH,sOps,Qv,QF,Qg,QK,sX,sY,sG,sD,QD,QC,sSat,QQ,QG,Qy,QA] at *);omega)⟩,by unfold QJ;simp only [YA,Yd,Qbi];((try simp only [sPc,QH,sOps,Qv,QF,Qg,QK,sX,sY,sG,sD,QD,QC,sSat,QQ,QG,Qy,QA] at *);omega),by first | exact hq | trivial⟩
theorem Qhh:Qj Tryz.prog Qdf:=Ql fun x h=>QHL x.1 h
def QbU (t:Qc):TRes:=zra (.a (Tup.cells Qu t))
def Qnf:TRow:=Qi 44 [(.a Qu),(.c TI),(.c (.sl [TI])),(.c (.sl [TI]))] fun x=>(some (Qh7 x.1 x.2.1 x.2.2.1 x.2.2.2.1),QbU (YU x.1 x.2.1 x.2.2.1 x.2.2.2.1))
def Qu6:List TRow:=[Qdf,QdF,QdU,Qc7,JJ,Qfq,Qde,QhQ,Qc6,Qab,Qmc,QdS]
def Qtl:TCode :=
 (zsq [(.draw [zfa 69 9 5,zld 70 69 1,zmv 71 1,zmv 72 14,zca 73 86 [72],zop 74 (.build (z0s ZA) [(0,1,71),(1,1,73)]),zop 75 (.bsl 76 ZA [74]),zop 76 (.app 70 75 76 ZA),zfa 77 9 5,zst 77 76 1] [(0,4),(1,4),(0,6),(1,6)]),(.reg [zfa 78 9 7,zst 78 (.k (.n [TI])) 1]),(.reg [zfa 79 9 11,zfa 80 79 2,zld 81 80 1,zmv 82 81,.grp 82 false [zmv 83 12] 84 83,zfa 85 9 11,zfa 86 85 2,zst 86 84 1]),(zsq [(.reg [zfa 87 4 3,zld 88 87 1,zno 89 88]),(.cond 89 (zsq [(.reg [zmv 90 13,zca 91 119 [90],zfa 92 9 8,zst 92 91 1]),(.reg [zLd 93 9 14,zst 8 93 14]),.ret]) .skip)]),(.reg [zmv 95 13,zmv 96 3,zca 97 120 [95,96],zmv 94 97,zex 98 94 0,zex 99 94 1,zmv 15 98,zmv 16 99]),(.reg [zfa 101 9 11,zfa 102 101 1,zld 103 102 1,zmv 104 15,zca 105 121 [103,104],zmv 100 105,zex 106 100 0,zex 107 100 1,zmv 17 106,zmv 18 107]),(.reg [zmv 108 17,zfa 109 9 11,zfa 110 109 1,zst 110 108 1]),(.reg [zfa 111 9 11,zfa 112 111 2,zld 113 112 1,zmv 114 113,.grp 114 false [zmv 115 16] 116 115,zmv 117 116,.grp 117 false [zmv 118 18] 119 118,zfa 120 9 11,zfa 121 120 2,zst 121 119 1]),(.reg [zLd 122 9 14,zst 8 122 14]),.ret])
def QPF:List (Nat × Md):=[(1,.one .d),(3,.one .d),(4,.b (zds 14)),(8,.b (zds 14)),(9,.b [.d,.d,.d,.d,.d,.f,.d,.d,.d,.d,.d,.d,.d,.d]),(12,.one .d),(13,.one .d),(14,.one .d)]
def QNO:TCode:=.wk QPF Qtl
def QP9:TCode :=
 (zsq [(.reg [zop 4 (.box 63 0 14),zop 8 (.new 63 (z0s Qu))]),(.reg [zLd 19 4 14,zca 20 111 [19],zop 9 (.new 63 (z0s Qu)),zst 9 20 14]),(.reg [zLd 21 4 14,zca 22 112 [21],zop 10 (.new 26 [(.n ctOp)]),zst 10 22 1]),(zsq [(.reg [zLd 23 4 14,zca 24 113 [23],zno 25 24,zmv 26 25,.grp 26 false [zmv 27 2,zLd 28 10 1,zca 29 115 [28],zca 30 114 [27,29],zno 31 30] 32 31,zmv 33 32,.grp 33 false [zfa 34 4 5,zld 35 34 1,zmv 36 1,zca 37 116 [35,36],zbi 38 .geq 37 (zki 0)] 39 38]),(.cond 39 (zsq [(.reg [zLd 40 9 14,zst 8 40 14]),.ret]) .skip)]),(zsq [(.reg [zfa 41 4 3,zld 42 41 1,zmv 43 42,.grp 43 true [zmv 44 3,zLd 45 10 1,zca 46 117 [45],zca 47 114 [44,46],zno 48 47] 49 48]),(.cond 49 (zsq [(.reg [zLd 50 9 14,zst 8 50 14]),.ret]) .skip)]),(.reg [zLd 52 10 1,zmv 53 2,zca 54 118 [52,53],zmv 51 54,zex 55 51 0,zex 56 51 1,zmv 11 55,zmv 12 56]),(.reg [zmv 57 11,zfa 58 4 2,zld 59 58 1,zle 60 59,zia 61 57 60 [(.sl [TI])],zfa 62 61 0,zld 63 62 1,zmv 13 63]),(.reg [zmv 64 11,zmv 14 64]),(zsq [(.reg [zfa 65 4 4,zld 66 65 1]),(.cond 66 (.reg [zmv 67 11,zop 68 (.slc 67 none (some (zki 1)) [(.sl [TI])]),zmv 14 68]) .skip)]),QNO])
def QrV:List (ARv × Md):=[(.l 8 14 true,.b (zds 14))]
def QDs:Qb:=TQ 0 0 QrV K
@[irreducible] def QhT (s:Qc) (m:Int) (x:List Int) (t:List Int) (kept:List (List Int)):Prop:=let z1:=id (α:=Qc) s
 let z2:=List.take ((z1.2.2.2.2.2.1).length) (z1.2.2.2.2.2.1)
 tawp Qu6 0 Qtl (QDs K) ⟨[(1,(zci m)),(3,(zcs [TI] t)),(4,(.p 0 0 0)),(8,(.p 1 0 0)),(9,(.p 3 0 0)),(12,(zcb ((Jn (ZZ s) x).2))),(13,(zcs [TI] (gtd ([]:List Int) ((Jn (ZZ s) x).1) (Int.toNat ((s.2.2.1).length:Int))))),(14,(zcs [(.sl [TI])] kept))],[(0,(.box (Tup.cells Qu s))),(1,(.box (Tup.cells Qu ((0:Int),[],[],false,false,[],[],[],[],[],[],[],(0:Int),false)))),(2,(.sl 76 ZA true z2)),(3,(.box [(zci (z1.1)),(zcs QO (z1.2.1)),(zcs ctOp (z1.2.2.1)),(zcb (z1.2.2.2.1)),(zcb (z1.2.2.2.2.1)),(.r ZA 2 0 (z2.length)),(zcs [(.sl [TI])] (z1.2.2.2.2.2.2.1)),(zcs [TI] (z1.2.2.2.2.2.2.2.1)),(zcs [TI] (z1.2.2.2.2.2.2.2.2.1)),(zcs [TI] (z1.2.2.2.2.2.2.2.2.2.1)),(zcs [TI] (z1.2.2.2.2.2.2.2.2.2.2.1)),(zcs [(.sl [TI])] (z1.2.2.2.2.2.2.2.2.2.2.2.1)),(zci (z1.2.2.2.2.2.2.2.2.2.2.2.2.1)),(zcb (z1.2.2.2.2.2.2.2.2.2.2.2.2.2))]))],4⟩
theorem QzG (s:Qc) (m:Int) (x:List Int) (t:List Int) (kept:List (List Int)) (h :
 let z2:=id (α:=Qc) s
 let z1:=List.take ((z2.2.2.2.2.2.1).length) (z2.2.2.2.2.2.1)
 let z5:=Jn (ZZ s) x
 let z3:=gtd ([]:List Int) (z5.1) (Int.toNat ((s.2.2.1).length:Int))
 let z4:=Zn (z2.2.2.2.2.2.2.2.2.2.2.2.2.1) ((Yh z3 t).1)
 (((QJ (α:=List (List Int)) kept)∧((z1.length=z1.length∨z1.length+1≤z1.length)∧z1.length+1≤big))∧(zif (!s.2.2.2.1) ((QJ (α:=List Int) z3)∧K (QbU (z2.1,z2.2.1,z2.2.2.1,z2.2.2.2.1,z2.2.2.2.2.1,(List.take (z1.length+1) (List.drop 0 ((List.take (z1.length) z1)++([(m,(id (α:=List (List Int)) kept))])))),z2.2.2.2.2.2.2.1,[],(List.take ((id (α:=List Int) z3).length) (List.drop 0 (id (α:=List Int) z3))),z2.2.2.2.2.2.2.2.2.2.1,z2.2.2.2.2.2.2.2.2.2.2.1,z2.2.2.2.2.2.2.2.2.2.2.2.1,z2.2.2.2.2.2.2.2.2.2.2.2.2.1,((z2.2.2.2.2.2.2.2.2.2.2.2.2.2)||(z5.2))))) (K (QbU (z2.1,z2.2.1,z2.2.2.1,z2.2.2.2.1,z2.2.2.2.2.1,(List.take (z1.length+1) (List.drop 0 ((List.take (z1.length) z1)++([(m,(id (α:=List (List Int)) kept))])))),z2.2.2.2.2.2.2.1,[],z2.2.2.2.2.2.2.2.2.1,z2.2.2.2.2.2.2.2.2.2.1,z2.2.2.2.2.2.2.2.2.2.2.1,z2.2.2.2.2.2.2.2.2.2.2.2.1,z4.1,((((z2.2.2.2.2.2.2.2.2.2.2.2.2.2)||(z5.2))||((Yh z3 t).2))||(z4.2)))))))):Hold (QhT K s m x t kept) :=
 Hold.of (by kernel_rfl) h
theorem QBA (s:Qc) (m:Int) (x:List Int) (t:List Int) (h :
 let z1:=id (α:=Qc) s
 let z2:=Jn (ZZ s) x
 let z3:=List.take ((z1.2.2.2.2.2.1).length) (List.drop 0 (z1.2.2.2.2.2.1))
 ((QJ (α:=Qc) s)∧(zif (((!(QS s))||(!(Qq x (QX (ZZ s)))))||(decide ((QT s.2.2.2.2.2.1 m)≥(0:Int)))) (K (QbU (z1.1,z1.2.1,z1.2.2.1,z1.2.2.2.1,z1.2.2.2.2.1,z3,z1.2.2.2.2.2.2.1,z1.2.2.2.2.2.2.2.1,z1.2.2.2.2.2.2.2.2.1,z1.2.2.2.2.2.2.2.2.2.1,z1.2.2.2.2.2.2.2.2.2.2.1,z1.2.2.2.2.2.2.2.2.2.2.2.1,z1.2.2.2.2.2.2.2.2.2.2.2.2.1,z1.2.2.2.2.2.2.2.2.2.2.2.2.2))) (zif (s.2.2.2.1&&(!(Qq t (Q1 (ZZ s))))) (K (QbU (z1.1,z1.2.1,z1.2.2.1,z1.2.2.2.1,z1.2.2.2.2.1,z3,z1.2.2.2.2.2.2.1,z1.2.2.2.2.2.2.2.1,z1.2.2.2.2.2.2.2.2.1,z1.2.2.2.2.2.2.2.2.2.1,z1.2.2.2.2.2.2.2.2.2.2.1,z1.2.2.2.2.2.2.2.2.2.2.2.1,z1.2.2.2.2.2.2.2.2.2.2.2.2.1,z1.2.2.2.2.2.2.2.2.2.2.2.2.2))) (((0:Int)≤((s.2.2.1).length:Int)∧Int.toNat ((s.2.2.1).length:Int)<(z2.1).length)∧(zif s.2.2.2.2.1 (((0:Int)≤(0:Int)∧(0:Int)≤(1:Int)∧(1:Int)≤((z2.1).length:Int))∧(QhT K s m x t (List.take (Int.toNat (1:Int)-Int.toNat (0:Int)) (List.drop (Int.toNat (0:Int)) (z2.1))))) (QhT K s m x t (z2.1)))))))):Hold (tawp Qu6 (0+0) QP9 (TQ 0 0 QrV K) (Qf [(.a (Tup.cells Qu s)),(.c TI m),(.c (.sl [TI]) x),(.c (.sl [TI]) t)])) :=
 Hold.of (by kernel_rfl) h
theorem QM3 (s:Qc) (m:Int) (x:List Int) (t:List Int) (hp:Qh7 s m x t):TCon Tryz.prog 44 [(.a (Tup.cells Qu s)),(.c TI m),(.c (.sl [TI]) x),(.c (.sl [TI]) t)] (QbU (YU s m x t)):=by
 refine Qr rfl fun hb=>tcg (n:=123) (sg:=Qnf.sg) Qk (TOk.cons Qhh (TOk.cons Qh2 (TOk.cons Qii (TOk.cons QgF (TOk.cons Qaa (TOk.cons Qmo (TOk.cons QiR (TOk.cons QvI (TOk.cons QfL (TOk.cons QaX (TOk.cons QHO (TOk.cons Qib TOk.nil)))))))))))) (by kernel_rfl) (by kernel_rfl) (QBA _ s m x t ?_)
 have hl_s_1:(s.2.1).length≤9223372036854775807:=hb.1.2.1.1
 have hl_s_2:(s.2.2.1).length≤9223372036854775807:=hb.1.2.2.1.1
 have hl_s_5:(s.2.2.2.2.2.1).length≤9223372036854775807:=hb.1.2.2.2.2.2.1.1
 have hl_s_6:(s.2.2.2.2.2.2.1).length≤9223372036854775807:=hb.1.2.2.2.2.2.2.1.1
 have hl_s_7:(s.2.2.2.2.2.2.2.1).length≤9223372036854775807:=hb.1.2.2.2.2.2.2.2.1.1
 have hl_s_8:(s.2.2.2.2.2.2.2.2.1).length≤9223372036854775807:=hb.1.2.2.2.2.2.2.2.2.1.1
 have hl_s_9:(s.2.2.2.2.2.2.2.2.2.1).length≤9223372036854775807:=hb.1.2.2.2.2.2.2.2.2.2.1.1
 have hl_s_10:(s.2.2.2.2.2.2.2.2.2.2.1).length≤9223372036854775807:=hb.1.2.2.2.2.2.2.2.2.2.2.1.1
 have hl_s_11:(s.2.2.2.2.2.2.2.2.2.2.2.1).length≤9223372036854775807:=hb.1.2.2.2.2.2.2.2.2.2.2.2.1.1
 have hl_x:x.length≤9223372036854775807:=hb.2.2.1.1
 have hl_t:t.length≤9223372036854775807:=hb.2.2.2.1.1
 conv=>zeta
 have hp':Sz.sz s≤2147483648:=hp
 have hs:=Yi s
 have l1:=Qad (Qg s)
 have e:=QJs s m x t
 simp only [id,List.drop_zero,List.take_length,true_or,true_and,Nat.zero_add,Int.toNat_natCast]
 refine ⟨hp,fun h=>R_eq ?_,fun h=>⟨fun h2=>R_eq ?_,fun h2=>?_⟩⟩
 ·rw [h] at e;rw [Qtf (by rw [e];simp)]
 ·rw [h2] at e;rw [Qtf (by rw [e];simp)]
 rw [h,h2] at e
 have e:QaL s m x t=true:=by simpa using e
 have e2:=e
 simp only [QaL,Bool.and_eq_true] at e2
 have hm:=Qc0 e2.1.1.1
 have hml:=YM hm
 have ei:Jn (ZZ s) x=Qw (sOps s) x:=QkO hm e2.1.1.2
 have hil:=Qdv (sOps s) x
 have hx6:=Qbd e2.1.1.2
 have hsz:=Qia (sOps s) x
 have hout:=QHj e
 have hgs:=QeI [] (Qw (sOps s) x).1 (sOps s).length
 have e0:Sz.sz ([]:List Int)=0:=rfl
 have key:∀ kept,kept=(if QF s then (Qw (sOps s) x).1.take 1 else (Qw (sOps s) x).1)→QhT (fun r'=>r'=QbU (YU s m x t)) s m x t kept:=by
  intro kept hk
  have hks:Sz.sz kept≤Sz.sz (Qw (sOps s) x).1:=by
   rw [hk];split
   ·exact QnN _ _
   ·exact Nat.le_refl _
  refine (QzG (fun r'=>r'=QbU (YU s m x t)) s m x t kept ?_).h
  conv=>zeta
  rw [ei]
  simp only [id,List.drop_zero,List.take_length,true_or,true_and,Nat.zero_add,Int.toNat_natCast,Zx]
  refine ⟨⟨by unfold QJ;((try simp only [sPc,QH,sOps,Qv,QF,Qg,QK,sX,sY,sG,sD,QD,QC,sSat,QQ,QG,Qy,QA] at *);omega),by rw [Zw];((try simp only [sPc,QH,sOps,Qv,QF,Qg,QK,sX,sY,sG,sD,QD,QC,sSat,QQ,QG,Qy,QA] at *);omega)⟩,fun hl=>⟨by unfold QJ;((try simp only [sPc,QH,sOps,Qv,QF,Qg,QK,sX,sY,sG,sD,QD,QC,sSat,QQ,QG,Qy,QA] at *);omega),R_eq ?_⟩,fun hl=>R_eq ?_⟩
  ·have hl:s.2.2.2.1=false:=by simpa using hl
   rw [hout,← hk]
   simp only [Qv,hl]
   simp [List.take_of_length_le]
  ·have hl:s.2.2.2.1=true:=by simpa using hl
   rw [hout,← hk]
   simp only [Qv,hl]
   simp [Bool.or_assoc,List.take_of_length_le]
 rw [ei]
 refine ⟨⟨by omega,by ((try simp only [sPc,QH,sOps,Qv,QF,Qg,QK,sX,sY,sG,sD,QD,QC,sSat,QQ,QG,Qy,QA] at *);omega)⟩,fun hr=>⟨by ((try simp only [sPc,QH,sOps,Qv,QF,Qg,QK,sX,sY,sG,sD,QD,QC,sSat,QQ,QG,Qy,QA] at *);omega),key _ ?_⟩,fun hr=>key _ ?_⟩
 ·rw [if_pos hr];rfl
 ·rw [if_neg (by rw [show QF s=false from hr];simp)]
theorem QOp:Qj Tryz.prog Qnf:=Ql fun x h=>QM3 x.1 x.2.1 x.2.2.1 x.2.2.2.1 h
def QiA (t:Qc):TRes:=zra (.a (Tup.cells Qu t))
def QjT:TRow:=Qi 46 [(.a Qu),(.c TI)] fun x=>(some (Qgq x.1 x.2.1),QiA (Jh x.1 x.2.1))
def QAA:List TRow:=[Qdf,Qfq,QdU,QdF,QhQ]
def QI2:TCode :=
 (zsq [(.reg [zop 2 (.box 63 0 14),zop 4 (.new 63 (z0s Qu))]),(.reg [zLd 7 2 14,zca 8 111 [7],zop 5 (.new 63 (z0s Qu)),zst 5 8 14]),(.reg [zfa 9 2 5,zld 10 9 1,zmv 11 1,zca 12 116 [10,11],zmv 6 12]),(zsq [(.reg [zLd 13 2 14,zca 14 113 [13],zno 15 14,zmv 16 15,.grp 16 false [zmv 17 6,zbi 18 .lss 17 (zki 0)] 19 18]),(.cond 19 (zsq [(.reg [zLd 20 5 14,zst 4 20 14]),.ret]) .skip)]),(.draw [zLd 22 2 14,zca 23 112 [22],zfa 24 2 5,zld 25 24 1,zmv 26 6,zia 27 25 26 ZA,zfa 28 27 1,zld 29 28 1,zia 30 29 (zki 0) [(.sl [TI])],zfa 31 30 0,zld 32 31 1,zca 33 118 [23,32],zmv 21 33,zex 34 21 0,zex 35 21 1,zfa 36 5 6,zst 36 34 1] [(1,2),(1,3),(1,5),(1,6),(1,7),(1,8),(1,9),(1,10)]),(.reg [zLd 37 5 14,zst 4 37 14]),.ret])
def QHT:List (ARv × Md):=[(.l 4 14 true,.b (zds 14))]
theorem QI3 (s:Qc) (m:Int) (h :
 let z1:=id (α:=Qc) s
 let z2:=QT s.2.2.2.2.2.1 m
 let z3:=List.take ((z1.2.2.2.2.2.1).length) (List.drop 0 (z1.2.2.2.2.2.1))
 ((QJ (α:=Qc) s)∧(zif ((!(QS s))||(decide (z2<(0:Int)))) (K (QiA (z1.1,z1.2.1,z1.2.2.1,z1.2.2.2.1,z1.2.2.2.2.1,z3,z1.2.2.2.2.2.2.1,z1.2.2.2.2.2.2.2.1,z1.2.2.2.2.2.2.2.2.1,z1.2.2.2.2.2.2.2.2.2.1,z1.2.2.2.2.2.2.2.2.2.2.1,z1.2.2.2.2.2.2.2.2.2.2.2.1,z1.2.2.2.2.2.2.2.2.2.2.2.2.1,z1.2.2.2.2.2.2.2.2.2.2.2.2.2))) ((((0:Int)≤z2∧Int.toNat z2<(s.2.2.2.2.2.1).length)∧((0:Int)≤(0:Int)∧Int.toNat (0:Int)<((gtd ZR s.2.2.2.2.2.1 (Int.toNat z2)).2).length))∧K (QiA (z1.1,z1.2.1,z1.2.2.1,z1.2.2.2.1,z1.2.2.2.2.1,z3,(Jn (ZZ s) (gtd ([]:List Int) ((gtd ZR s.2.2.2.2.2.1 (Int.toNat z2)).2) (Int.toNat (0:Int)))).1,z1.2.2.2.2.2.2.2.1,z1.2.2.2.2.2.2.2.2.1,z1.2.2.2.2.2.2.2.2.2.1,z1.2.2.2.2.2.2.2.2.2.2.1,z1.2.2.2.2.2.2.2.2.2.2.2.1,z1.2.2.2.2.2.2.2.2.2.2.2.2.1,z1.2.2.2.2.2.2.2.2.2.2.2.2.2)))))):Hold (tawp QAA (0+0) QI2 (TQ 0 0 QHT K) (Qf [(.a (Tup.cells Qu s)),(.c TI m)])) :=
 Hold.of (by kernel_rfl) h
theorem QJ9 (s:Qc) (m:Int) (hp:Qgq s m):TCon Tryz.prog 46 [(.a (Tup.cells Qu s)),(.c TI m)] (QiA (Jh s m)):=by
 refine Qr rfl fun hb=>tcg (n:=38) (sg:=QjT.sg) Qk (TOk.cons Qhh (TOk.cons Qmo (TOk.cons Qii (TOk.cons Qh2 (TOk.cons QvI TOk.nil))))) (by kernel_rfl) (by kernel_rfl) (QI3 _ s m ?_)
 have hl_s_1:(s.2.1).length≤9223372036854775807:=hb.1.2.1.1
 have hl_s_2:(s.2.2.1).length≤9223372036854775807:=hb.1.2.2.1.1
 have hl_s_5:(s.2.2.2.2.2.1).length≤9223372036854775807:=hb.1.2.2.2.2.2.1.1
 have hl_s_6:(s.2.2.2.2.2.2.1).length≤9223372036854775807:=hb.1.2.2.2.2.2.2.1.1
 have hl_s_7:(s.2.2.2.2.2.2.2.1).length≤9223372036854775807:=hb.1.2.2.2.2.2.2.2.1.1
 have hl_s_8:(s.2.2.2.2.2.2.2.2.1).length≤9223372036854775807:=hb.1.2.2.2.2.2.2.2.2.1.1
 have hl_s_9:(s.2.2.2.2.2.2.2.2.2.1).length≤9223372036854775807:=hb.1.2.2.2.2.2.2.2.2.2.1.1
 have hl_s_10:(s.2.2.2.2.2.2.2.2.2.2.1).length≤9223372036854775807:=hb.1.2.2.2.2.2.2.2.2.2.2.1.1
 have hl_s_11:(s.2.2.2.2.2.2.2.2.2.2.2.1).length≤9223372036854775807:=hb.1.2.2.2.2.2.2.2.2.2.2.2.1.1
 conv=>zeta
 have hp':Sz.sz s≤2147483648:=hp
 simp only [id,List.drop_zero,List.take_length]
 rw [Qp2]
 refine ⟨hp,fun h=>R_eq ?_,fun h=>?_⟩
 ·simp only [Bool.not_eq_true'] at h
  rw [QK6 (by rw [h];simp)]
 have h:(QS s&&decide (0≤QT (Qg s) m))=true:=by simpa using h
 have h':=h
 simp only [Bool.and_eq_true,decide_eq_true_eq] at h'
 have hf:=Qnj (Qg s) m
 have hk:(QT (Qg s) m).toNat<(Qg s).length:=by omega
 have hr:=Qxj h'.1 (QvM h'.1 _ (Jt hk ZR))
 have ei:Jn (ZZ s) (gtd [] (gtd ZR s.2.2.2.2.2.1 (QT s.2.2.2.2.2.1 m).toNat).2 0)=Qw (sOps s) (gtd [] (gtd ZR s.2.2.2.2.2.1 (QT s.2.2.2.2.2.1 m).toNat).2 0):=QkO (Qc0 h'.1) hr.2.2
 refine ⟨⟨⟨h'.2,hk⟩,⟨by omega,hr.1⟩⟩,R_eq ?_⟩
 rw [show Int.toNat (0:Int)=0 from rfl,ei]
 unfold Jh
 simp only
 rw [if_pos h]
theorem QQd:Qj Tryz.prog QjT:=Ql fun x h=>QJ9 x.1 x.2.1 h
def Qaw (t:Qc):TRes:=zra (.a (Tup.cells Qu t))
def QjD:TRow:=Qi 48 [(.a Qu),(.c TI),(.c (.sl [TI]))] fun x=>(some (Qf9 x.1 x.2.1 x.2.2.1),Qaw (Z4 x.1 x.2.1 x.2.2.1))
def Qko:List TRow:=[Qdf,Qfq,QdU,Qgj,QiH,QdF,Qde,JJ,Qnp,Qjp]
def Qpa:TCode :=
 (zsq [(zsq [(.reg [zmv 70 11,zLd 71 3 14,zca 72 112 [71],zca 73 117 [72],zca 74 114 [70,73],zno 75 74]),(.cond 75 (zsq [(.reg [zLd 76 7 14,zst 6 76 14]),.ret]) .skip)]),(.reg [zfa 78 3 2,zld 79 78 1,zmv 80 9,zmv 81 11,zca 82 125 [79,80,81],zmv 77 82,zex 83 77 0,zex 84 77 1,zex 85 77 2,zmv 13 83,zmv 11 84,zmv 14 85]),(.reg [zfa 86 7 11,zLd 87 86 3,zmv 88 13,zmv 89 12,zmv 90 89,.grp 90 false [zmv 91 14] 92 91,zop 93 (.build (z0s Zq) [(0,1,88),(2,1,92)]),zca 94 89 [87,93],zfa 95 7 11,zst 95 94 3]),(.reg [zmv 96 11,zfa 97 7 10,zst 97 96 1]),(.reg [zfa 98 7 9,zst 98 (.k (.n [TI])) 1]),(.reg [zfa 99 7 6,zst 99 (.k (.n [(.sl [TI])])) 1]),(.draw [zfa 100 7 5,zld 101 100 1,zmv 102 8,zop 103 (.slc 101 none (some 102) ZA),zfa 104 7 5,zld 105 104 1,zmv 106 8,zbi 107 .add 106 (zki 1),zop 108 (.slc 105 (some 107) none ZA),zop 109 (.app 103 108 76 ZA),zfa 110 7 5,zst 110 109 1] []),(.reg [zLd 111 7 14,zst 6 111 14]),.ret])
def QJV:List (Nat × Md):=[(3,.b (zds 14)),(6,.b (zds 14)),(7,.b [.d,.d,.d,.d,.d,.f,.d,.d,.d,.d,.d,.d,.d,.d]),(8,.one .d),(9,.one .d),(11,.one .d),(12,.one .d)]
def QC6:TCode:=.wk QJV Qpa
def Qqk:TCode :=
 (zsq [(.reg [zfa 39 3 2,zld 40 39 1,zle 41 40,zmv 10 41]),(zsq [(.reg [zmv 42 9,zle 43 42,zmv 44 10,zbi 45 .add 44 (zki 1),zbi 46 .neq 43 45,zmv 47 46,.grp 47 false [zfa 48 3 2,zld 49 48 1,zmv 50 9,zmv 51 10,zca 52 123 [49,50,51],zno 53 52] 54 53]),(.cond 54 (zsq [(.reg [zLd 55 7 14,zst 6 55 14]),.ret]) .skip)]),(.reg [zfa 56 7 9,zld 57 56 1,zmv 11 57,zmv 12 (zkb false)]),(zsq [(.reg [zfa 58 3 3,zld 59 58 1]),(.cond 59 (.reg [zmv 61 9,zmv 62 10,zia 63 61 62 [(.sl [TI])],zfa 64 63 0,zld 65 64 1,zmv 66 2,zca 67 124 [65,66],zmv 60 67,zex 68 60 0,zex 69 60 1,zmv 11 68,zmv 12 69]) .skip)]),QC6])
def QOW:List (Nat × Md):=[(2,.one .d),(3,.b (zds 14)),(6,.b (zds 14)),(7,.b [.d,.d,.d,.d,.d,.f,.d,.d,.d,.d,.d,.d,.d,.d]),(8,.one .d),(9,.one .d)]
def QGU:TCode:=.wk QOW Qqk
def QAV:TCode :=
 (zsq [(.reg [zop 3 (.box 63 0 14),zop 6 (.new 63 (z0s Qu))]),(.reg [zLd 15 3 14,zca 16 111 [15],zop 7 (.new 63 (z0s Qu)),zst 7 16 14]),(.reg [zfa 17 3 5,zld 18 17 1,zmv 19 1,zca 20 116 [18,19],zmv 8 20]),(zsq [(.reg [zLd 21 3 14,zca 22 113 [21],zno 23 22,zmv 24 23,.grp 24 false [zmv 25 8,zbi 26 .lss 25 (zki 0)] 27 26]),(.cond 27 (zsq [(.reg [zLd 28 7 14,zst 6 28 14]),.ret]) .skip)]),(.reg [zfa 29 7 5,zld 30 29 1,zmv 31 8,zia 32 30 31 ZA,zfa 33 32 1,zld 34 33 1,zmv 9 34]),(zsq [(.reg [zfa 35 3 4,zld 36 35 1]),(.cond 36 (.reg [zfa 37 7 6,zld 38 37 1,zmv 9 38]) .skip)]),QGU])
def Qtw:List (ARv × Md):=[(.l 6 14 true,.b (zds 14))]
def QoR:Qb:=TQ 0 0 Qtw K
@[irreducible] def QgT (s:Qc) (m:Int) (rows:List (List Int)) (d:List Int) (first:Bool):Prop:=let z1:=id (α:=Qc) s
 let z2:=List.take ((z1.2.2.2.2.2.1).length) (z1.2.2.2.2.2.1)
 tawp Qko 0 Qpa (QoR K) ⟨[(3,(.p 0 0 0)),(6,(.p 1 0 0)),(7,(.p 3 0 0)),(8,(zci (QT s.2.2.2.2.2.1 m))),(9,(zcs [(.sl [TI])] rows)),(11,(zcs [TI] d)),(12,(zcb first))],[(0,(.box (Tup.cells Qu s))),(1,(.box (Tup.cells Qu ((0:Int),[],[],false,false,[],[],[],[],[],[],[],(0:Int),false)))),(2,(.sl 76 ZA true (List.take (z2.length) z2))),(3,(.box [(zci (z1.1)),(zcs QO (z1.2.1)),(zcs ctOp (z1.2.2.1)),(zcb (z1.2.2.2.1)),(zcb (z1.2.2.2.2.1)),(.r ZA 2 0 ((List.take (z2.length) z2).length)),(zcs [(.sl [TI])] (z1.2.2.2.2.2.2.1)),(zcs [TI] (z1.2.2.2.2.2.2.2.1)),(zcs [TI] (z1.2.2.2.2.2.2.2.2.1)),(zcs [TI] (z1.2.2.2.2.2.2.2.2.2.1)),(zcs [TI] (z1.2.2.2.2.2.2.2.2.2.2.1)),(zcs [(.sl [TI])] (z1.2.2.2.2.2.2.2.2.2.2.2.1)),(zci (z1.2.2.2.2.2.2.2.2.2.2.2.2.1)),(zcb (z1.2.2.2.2.2.2.2.2.2.2.2.2.2))]))],4⟩
@[irreducible] def QiO (s:Qc) (m:Int) (t:List Int) (rows:List (List Int)):Prop:=let z1:=id (α:=Qc) s
 let z2:=List.take ((z1.2.2.2.2.2.1).length) (z1.2.2.2.2.2.1)
 tawp Qko 0 Qqk (QoR K) ⟨[(2,(zcs [TI] t)),(3,(.p 0 0 0)),(6,(.p 1 0 0)),(7,(.p 3 0 0)),(8,(zci (QT s.2.2.2.2.2.1 m))),(9,(zcs [(.sl [TI])] rows))],[(0,(.box (Tup.cells Qu s))),(1,(.box (Tup.cells Qu ((0:Int),[],[],false,false,[],[],[],[],[],[],[],(0:Int),false)))),(2,(.sl 76 ZA true z2)),(3,(.box [(zci (z1.1)),(zcs QO (z1.2.1)),(zcs ctOp (z1.2.2.1)),(zcb (z1.2.2.2.1)),(zcb (z1.2.2.2.2.1)),(.r ZA 2 0 (z2.length)),(zcs [(.sl [TI])] (z1.2.2.2.2.2.2.1)),(zcs [TI] (z1.2.2.2.2.2.2.2.1)),(zcs [TI] (z1.2.2.2.2.2.2.2.2.1)),(zcs [TI] (z1.2.2.2.2.2.2.2.2.2.1)),(zcs [TI] (z1.2.2.2.2.2.2.2.2.2.2.1)),(zcs [(.sl [TI])] (z1.2.2.2.2.2.2.2.2.2.2.2.1)),(zci (z1.2.2.2.2.2.2.2.2.2.2.2.2.1)),(zcb (z1.2.2.2.2.2.2.2.2.2.2.2.2.2))]))],4⟩
theorem QFZ (s:Qc) (m:Int) (rows:List (List Int)) (d:List Int) (first:Bool) (h :
 let z3:=id (α:=Qc) s
 let z4:=QT s.2.2.2.2.2.1 m
 let z6:=Int.toNat z4-Int.toNat (0:Int)
 let z7:=QN s.2.2.1 rows d
 let z5:=Yy (z3.2.2.2.2.2.2.2.2.2.2.2) (z7.1,(0:Int),(first||(z7.2.2)))
 let z8:=List.take ((z3.2.2.2.2.2.1).length) (z3.2.2.2.2.2.1)
 let z1:=List.take (z8.length) z8
 let z2:=List.take (Int.toNat ((z1.length:Nat):Int)-Int.toNat (w64 (z4+(1:Int)))) (List.drop (0+Int.toNat (w64 (z4+(1:Int)))) z1)
 (zif (!(Qq d (Q1 (ZZ s)))) (K (Qaw (z3.1,z3.2.1,z3.2.2.1,z3.2.2.2.1,z3.2.2.2.2.1,(List.take (z1.length) (List.drop 0 z1)),z3.2.2.2.2.2.2.1,z3.2.2.2.2.2.2.2.1,z3.2.2.2.2.2.2.2.2.1,z3.2.2.2.2.2.2.2.2.2.1,z3.2.2.2.2.2.2.2.2.2.2.1,z3.2.2.2.2.2.2.2.2.2.2.2.1,z3.2.2.2.2.2.2.2.2.2.2.2.2.1,z3.2.2.2.2.2.2.2.2.2.2.2.2.2))) ((QiV s.2.2.1 rows d)∧((JS (α:=Za) (β:=Za) (z3.2.2.2.2.2.2.2.2.2.2.2) (z7.1,(0:Int),(first||(z7.2.2))))∧((((0:Int)≤(0:Int)∧(0:Int)≤z4∧z4≤((z1.length:Nat):Int))∧(((0:Int)≤w64 (z4+(1:Int))∧w64 (z4+(1:Int))≤((z1.length:Nat):Int)∧((z1.length:Nat):Int)≤((z1.length:Nat):Int))∧((z6=z1.length∨z6+z2.length≤z1.length)∧z6+z2.length≤big)))∧K (Qaw (z3.1,z3.2.1,z3.2.2.1,z3.2.2.2.1,z3.2.2.2.2.1,(List.take (z6+z2.length) (List.drop 0 ((List.take z6 z1)++z2))),[],z3.2.2.2.2.2.2.2.1,z3.2.2.2.2.2.2.2.2.1,[],z7.2.1,z5.1,z5.2.1,z5.2.2))))))):Hold (QgT K s m rows d first) :=
 Hold.of (by kernel_rfl) h
theorem QHM (s:Qc) (m:Int) (t:List Int) (rows:List (List Int)) (h :
 let z1:=id (α:=Qc) s
 let z2:=Zu (gtd ([]:List Int) rows (Int.toNat ((s.2.2.1).length:Int))) t
 let z3:=List.take ((z1.2.2.2.2.2.1).length) (z1.2.2.2.2.2.1)
 let z4:=w64 (((s.2.2.1).length:Int)+(1:Int))
 (((!((rows.length:Int) != z4))=true→(Qiw s.2.2.1 rows ((s.2.2.1).length:Int)))∧(zif (((rows.length:Int) != z4)||(!(YG s.2.2.1 rows ((s.2.2.1).length:Int)))) (K (Qaw (z1.1,z1.2.1,z1.2.2.1,z1.2.2.2.1,z1.2.2.2.2.1,(List.take (z3.length) (List.drop 0 z3)),z1.2.2.2.2.2.2.1,z1.2.2.2.2.2.2.2.1,z1.2.2.2.2.2.2.2.2.1,z1.2.2.2.2.2.2.2.2.2.1,z1.2.2.2.2.2.2.2.2.2.2.1,z1.2.2.2.2.2.2.2.2.2.2.2.1,z1.2.2.2.2.2.2.2.2.2.2.2.2.1,z1.2.2.2.2.2.2.2.2.2.2.2.2.2))) (zif s.2.2.2.1 (((0:Int)≤((s.2.2.1).length:Int)∧Int.toNat ((s.2.2.1).length:Int)<rows.length)∧(QgT K s m rows (z2.1) (z2.2))) (QgT K s m rows (z1.2.2.2.2.2.2.2.2.2.1) false))))):Hold (QiO K s m t rows) :=
 Hold.of (by kernel_rfl) h
theorem QNm (s:Qc) (m:Int) (t:List Int) (h :
 ((QJ (α:=Qc) s)∧(zif ((!(QS s))||(decide ((QT s.2.2.2.2.2.1 m)<(0:Int)))) (K (Qaw ((id (α:=Qc) s).1,(id (α:=Qc) s).2.1,(id (α:=Qc) s).2.2.1,(id (α:=Qc) s).2.2.2.1,(id (α:=Qc) s).2.2.2.2.1,(List.take (((id (α:=Qc) s).2.2.2.2.2.1).length) (List.drop 0 ((id (α:=Qc) s).2.2.2.2.2.1))),(id (α:=Qc) s).2.2.2.2.2.2.1,(id (α:=Qc) s).2.2.2.2.2.2.2.1,(id (α:=Qc) s).2.2.2.2.2.2.2.2.1,(id (α:=Qc) s).2.2.2.2.2.2.2.2.2.1,(id (α:=Qc) s).2.2.2.2.2.2.2.2.2.2.1,(id (α:=Qc) s).2.2.2.2.2.2.2.2.2.2.2.1,(id (α:=Qc) s).2.2.2.2.2.2.2.2.2.2.2.2.1,(id (α:=Qc) s).2.2.2.2.2.2.2.2.2.2.2.2.2))) ((((0:Int)≤(QT s.2.2.2.2.2.1 m)∧Int.toNat (QT s.2.2.2.2.2.1 m)<((id (α:=Qc) s).2.2.2.2.2.1).length)∧((0+(Int.toNat (QT s.2.2.2.2.2.1 m)))<((id (α:=Qc) s).2.2.2.2.2.1).length))∧(zif s.2.2.2.2.1 (QiO K s m t ((id (α:=Qc) s).2.2.2.2.2.2.1)) (QiO K s m t ((gtd ZR ((id (α:=Qc) s).2.2.2.2.2.1) (0+(Int.toNat (QT s.2.2.2.2.2.1 m)))).2))))))):Hold (tawp Qko (0+0) QAV (TQ 0 0 Qtw K) (Qf [(.a (Tup.cells Qu s)),(.c TI m),(.c (.sl [TI]) t)])) :=
 Hold.of (by kernel_rfl) h
theorem QCI (s:Qc) (m:Int) (t:List Int) (hp:Qf9 s m t):TCon Tryz.prog 48 [(.a (Tup.cells Qu s)),(.c TI m),(.c (.sl [TI]) t)] (Qaw (Z4 s m t)):=by
 refine Qr rfl fun hb=>tcg (n:=112) (sg:=QjD.sg) Qk (TOk.cons Qhh (TOk.cons Qmo (TOk.cons Qii (TOk.cons QwQ (TOk.cons Qy3 (TOk.cons Qh2 (TOk.cons QiR (TOk.cons Qaa (TOk.cons QEa (TOk.cons QJg TOk.nil)))))))))) (by kernel_rfl) (by kernel_rfl) (QNm _ s m t ?_)
 have hl_s_1:(s.2.1).length≤9223372036854775807:=hb.1.2.1.1
 have hl_s_2:(s.2.2.1).length≤9223372036854775807:=hb.1.2.2.1.1
 have hl_s_5:(s.2.2.2.2.2.1).length≤9223372036854775807:=hb.1.2.2.2.2.2.1.1
 have hl_s_6:(s.2.2.2.2.2.2.1).length≤9223372036854775807:=hb.1.2.2.2.2.2.2.1.1
 have hl_s_7:(s.2.2.2.2.2.2.2.1).length≤9223372036854775807:=hb.1.2.2.2.2.2.2.2.1.1
 have hl_s_8:(s.2.2.2.2.2.2.2.2.1).length≤9223372036854775807:=hb.1.2.2.2.2.2.2.2.2.1.1
 have hl_s_9:(s.2.2.2.2.2.2.2.2.2.1).length≤9223372036854775807:=hb.1.2.2.2.2.2.2.2.2.2.1.1
 have hl_s_10:(s.2.2.2.2.2.2.2.2.2.2.1).length≤9223372036854775807:=hb.1.2.2.2.2.2.2.2.2.2.2.1.1
 have hl_s_11:(s.2.2.2.2.2.2.2.2.2.2.2.1).length≤9223372036854775807:=hb.1.2.2.2.2.2.2.2.2.2.2.2.1.1
 have hl_t:t.length≤9223372036854775807:=hb.2.2.1.1
 have hp':Sz.sz s≤2147483648:=hp
 have hs:=Yi s
 have l1:=Qad (Qg s)
 obtain ⟨kf,hkf⟩:∃ kf,QT s.2.2.2.2.2.1 m=kf:=⟨_,rfl⟩
 have hf:=Qnj (Qg s) m
 rw [show QT (Qg s) m=kf from hkf] at hf
 have hno:QaP s kf t=false→(Z4 s m t)=s:=fun h=>QMP (by rw [show QT (Qg s) m=kf from hkf,h];simp)
 have k2:QS s=true→0≤kf→∀ rows d first,rows=YK s kf→(d,first)=bwdD s kf t→((YK s kf).length==(sOps s).length+1)=true→YG (sOps s) (YK s kf) (sOps s).length=true→QgT (fun r'=>r'=Qaw (Z4 s m t)) s m rows d first:=by
  intro h1 h2 rows d first hr hd h3 h4
  have hb:QaP s kf t=Qq d (Q1 (ZZ s)):=by
   rw [Qlj,← hd,h1,h3,h4,decide_eq_true h2];rfl
  obtain ⟨kn,hkn⟩:∃ kn:Nat,kf=kn:=⟨kf.toNat,by omega⟩
  refine (QFZ (fun r'=>r'=Qaw (Z4 s m t)) s m rows d first ?_).h
  conv=>zeta
  simp only [id,List.drop_zero,List.take_length,true_or,true_and,Nat.zero_add]
  rw [hkf,hkn]
  have hml:=YM (Qc0 h1)
  refine ⟨fun h=>R_eq ?_,fun h=>?_⟩
  ·rw [hno (by rw [hb];simpa using h)]
  ·have hv:Qq d (Q1 (ZZ s))=true:=by simpa using h
   have hok:QaP s kf t=true:=by rw [hb,hv]
   have hv6:=Qbd hv
   rw [beq_iff_eq] at h3
   have hfit:=QHH h1
   have hsum:Sz.sz (α:=Za) s.2.2.2.2.2.2.2.2.2.2.2≤296:=Qqx (Qc0 h1) ⟨hfit.1,hfit.2⟩
   have hout:=QI8 (t:=t) (rows:=rows) (d:=d) (b:=first) (by rw [show QT (Qg s) m=kf from hkf];exact hok) (by rw [show QT (Qg s) m=kf from hkf] ;exact hr) (by rw [show QT (Qg s) m=kf from hkf] ;exact hd)
   have hk:kn<s.2.2.2.2.2.1.length:=by ((try simp only [sPc,QH,sOps,Qv,QF,Qg,QK,sX,sY,sG,sD,QD,QC,sSat,QQ,QG,Qy,QA] at *);omega)
   have hrl:rows.length=s.2.2.1.length+1:=by rw [hr];exact h3
   have hbg:=Qpc s.2.2.1 rows d
   have hl2:(List.take (s.2.2.2.2.2.1.length-(kn+1)) (List.drop (kn+1) s.2.2.2.2.2.1)).length=s.2.2.2.2.2.1.length-(kn+1):=by simp
   rw [sc1 (by ((try simp only [sPc,QH,sOps,Qv,QF,Qg,QK,sX,sY,sG,sD,QD,QC,sSat,QQ,QG,Qy,QA] at *);omega))]
   simp only [Int.toNat_natCast,show Int.toNat (0:Int)=0 from rfl,Nat.sub_zero]
   refine ⟨⟨by omega,by rw [Zw];((try simp only [sPc,QH,sOps,Qv,QF,Qg,QK,sX,sY,sG,sD,QD,QC,sSat,QQ,QG,Qy,QA] at *);omega)⟩,?_,⟨⟨by omega,by omega,by omega⟩,⟨by omega,by omega,by omega⟩,?_⟩,R_eq ?_⟩
   ·unfold JS
    simp only [QcO,Yd,Qbi]
    ((try simp only [sPc,QH,sOps,Qv,QF,Qg,QK,sX,sY,sG,sD,QD,QC,sSat,QQ,QG,Qy,QA] at *);omega)
   ·rw [hl2,Zw];((try simp only [sPc,QH,sOps,Qv,QF,Qg,QK,sX,sY,sG,sD,QD,QC,sSat,QQ,QG,Qy,QA] at *);omega)
   ·rw [QQb hk,hout,show QT (Qg s) m=kf from hkf,hkn,Int.toNat_natCast]
 have k1:QS s=true→0≤kf→∀ rows,rows=YK s kf→QiO (fun r'=>r'=Qaw (Z4 s m t)) s m t rows:=by
  intro h1 h2 rows hr
  have hml:1≤s.2.2.1.length∧s.2.2.1.length≤8:=YM (Qc0 h1)
  refine (QHM (fun r'=>r'=Qaw (Z4 s m t)) s m t rows ?_).h
  conv=>zeta
  simp only [id,List.drop_zero,List.take_length,true_or,true_and,Nat.zero_add,Int.toNat_natCast]
  rw [sc1 (k:=s.2.2.1.length) (by omega)]
  refine ⟨fun h=>?_,fun h=>R_eq ?_,fun h=>?_⟩
  ·simp at h
   exact ⟨by omega,by omega,by omega⟩
  ·rw [hno]
   rw [Qlj,← hr]
   simp only [Bool.or_eq_true,bne_iff_ne,Bool.not_eq_true'] at h
   rcases h with h | h
   ·have:(rows.length==s.2.2.1.length+1)=false:=by rw [beq_eq_false_iff_ne];omega
    simp [this]
   ·have h':YG (sOps s) rows (sOps s).length=false:=h
    simp [h']
  ·simp only [Bool.or_eq_false_iff,bne_eq_false_iff_eq,Bool.not_eq_false'] at h
   have h3:((YK s kf).length==(sOps s).length+1)=true:=by rw [← hr,beq_iff_eq];have:=h.1;((try simp only [sPc,QH,sOps,Qv,QF,Qg,QK,sX,sY,sG,sD,QD,QC,sSat,QQ,QG,Qy,QA] at *);omega)
   have h4:YG (sOps s) (YK s kf) (sOps s).length=true:=by rw [← hr];exact h.2
   refine ⟨fun hl=>⟨⟨by omega,by have:=h.1;omega⟩,k2 h1 h2 _ _ _ hr ?_ h3 h4⟩,fun hl=>k2 h1 h2 _ _ _ hr ?_ h3 h4⟩
   ·unfold bwdD;rw [if_pos hl,← hr]
   ·unfold bwdD;rw [if_neg (by rw [show Qv s=false from hl];simp)]
 simp only [id,List.drop_zero,List.take_length,true_or,true_and,Nat.zero_add,Int.toNat_natCast]
 rw [Qp2,show QT (Qg s) m=kf from hkf]
 refine ⟨hp,fun h=>R_eq ?_,fun h=>?_⟩
 ·rw [hno]
  simp only [Bool.not_eq_true'] at h
  rw [Qlj,h];rfl
 ·simp only [Bool.not_eq_false',Bool.and_eq_true,decide_eq_true_eq] at h
  refine ⟨⟨⟨h.2,by ((try simp only [sPc,QH,sOps,Qv,QF,Qg,QK,sX,sY,sG,sD,QD,QC,sSat,QQ,QG,Qy,QA] at *);omega)⟩,by ((try simp only [sPc,QH,sOps,Qv,QF,Qg,QK,sX,sY,sG,sD,QD,QC,sSat,QQ,QG,Qy,QA] at *);omega)⟩,fun hr=>k1 h.1 h.2 _ ?_,fun hr=>k1 h.1 h.2 _ ?_⟩
  ·unfold YK;rw [if_pos hr]
  ·unfold YK;rw [if_neg (by rw [show QF s=false from hr];simp)]
theorem QFg:Qj Tryz.prog QjD:=Ql fun x h=>QCI x.1 x.2.1 x.2.2.1 h
end
end Go.Proofs.YtjbdljkhbglnhaaGreat.Am

