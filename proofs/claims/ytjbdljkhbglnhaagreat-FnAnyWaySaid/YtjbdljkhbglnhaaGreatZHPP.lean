/- -/
import Derived.Test.YtjbdljkhbglnhaaGreatZHPJ
import Derived.Test.YtjbdljkhbglnhaaGreatZHP4
import Derived.Test.YtjbdljkhbglnhaaGreatZHPF
import Derived.Test.YtjbdljkhbglnhaaGreatZHP8
import Derived.Test.YtjbdljkhbglnhaaGreatZHP1
import Derived.Test.YtjbdljkhbglnhaaGreatZHP3
import Derived.Test.YtjbdljkhbglnhaaGreatZHPK
import Derived.Test.YtjbdljkhbglnhaaGreatZHPI
import Derived.Test.YtjbdljkhbglnhaaGreatZHPG
import Derived.Test.YtjbdljkhbglnhaaGreatZHGD
namespace Go.Proofs.YtjbdljkhbglnhaaGreat.Am
open Go Go.RowKit Go.Proofs.YtjbdljkhbglnhaaGreat
set_option linter.all false
set_option maxHeartbeats 2000000
noncomputable section
variable (K:TRes→Prop)
def QgA (t:Qc):TRes:=zra (.a (Tup.cells Qx t))
def Qml:TRow:=Qg 73 [(.c (.sl ctOp)),(.c (.sl QP)),(.c .bool),(.c .bool)] fun x=>(some (QlX x.1 x.2.1 x.2.2.1 x.2.2.2.1),QgA (Qay x.1 x.2.1 x.2.2.1 x.2.2.2.1))
def QPO:List TRow:=[Qg8,J6,QjE]
def QMV:TCode :=
 (zsq [(.reg [zop 8 (.new 63 (z0s Qx))]),(.reg [zmv 10 0,zca 11 151 [10],zop 12 (.build [(.n ctOp)] [(0,1,11)]),zop 9 (.new 26 [(.n ctOp)]),zst 9 12 1]),(zsq [(.reg [zLd 13 9 1,zca 14 131 [13],zno 15 14]),(.cond 15 (zsq [(.reg [zop 16 (.build (z0s Qx) []),zst 8 16 14]),.ret]) .skip)]),(.draw [zop 17 (.bsl 111 QP []),zmv 18 1,zop 19 (.app 17 18 111 QP),zfa 20 9 0,zld 21 20 1,zmv 22 2,zmv 23 3,zLd 24 9 1,zca 25 88 [24],zop 26 (.build (z0s Qx) [(1,1,19),(2,1,21),(3,1,22),(4,1,23),(11,3,25)]),zst 8 26 14] [(0,3),(2,3),(0,4),(2,4),(0,7),(2,7),(3,8),(4,8)]),.ret])
def QNO:List (ARv × Md):=[(.l 8 14 true,.b (zds 14))]
theorem QLS (ops:List TOp') (plan:List TIns) (last:Bool) (redo:Bool) (h :
 ((QI (α:=List TOp') ops)∧(zif (!(Qw (id (α:=List TOp') ops))) (K (QgA ((0:Int),[],[],false,false,[],[],[],[],[],[],[],(0:Int),false))) (((0=0∨0+plan.length≤0)∧0+plan.length≤big)∧K (QgA ((0:Int),(List.take (0+plan.length) (List.drop 0 (plan:List TIns))),(id (α:=List TOp') ops),last,redo,[],[],[],[],[],[],(ZU (id (α:=List TOp') ops)).1,(ZU (id (α:=List TOp') ops)).2.1,(ZU (id (α:=List TOp') ops)).2.2)))))):Hold (tawp QPO (0+0) QMV (TQ 0 0 QNO K) (Qf [(.c (.sl ctOp) ops),(.c (.sl QP) plan),(.c .bool last),(.c .bool redo)])) :=
 Hold.of (by kernel_rfl) h
theorem QEK (ops:List TOp') (plan:List TIns) (last:Bool) (redo:Bool) (hp:QlX ops plan last redo):TCon Tryz.prog 73 [(.c (.sl ctOp) ops),(.c (.sl QP) plan),(.c .bool last),(.c .bool redo)] (QgA (Qay ops plan last redo)):=by
 refine Qq rfl fun hb=>tcg (n:=27) (sg:=Qml.sg) Qj (TOk.cons QvN (TOk.cons QaP (TOk.cons QLG TOk.nil))) (by kernel_rfl) (by kernel_rfl) (QLS _ ops plan last redo ?_)
 have hl_ops:ops.length≤9223372036854775807:=hb.1.1
 have hl_plan:plan.length≤9223372036854775807:=hb.2.1.1
 obtain ⟨h1,h2⟩:=hp
 simp only [id,List.drop_zero,List.take_length,true_or,true_and,Nat.zero_add]
 refine ⟨h1,fun h=>R_eq ?_,fun h=>⟨by rw [Zi];omega,R_eq ?_⟩⟩
 ·unfold Qay;rw [if_neg (by simpa using h)]
 ·unfold Qay;rw [if_pos (by simpa using h),QBW]
theorem QQW:Qh Tryz.prog Qml:=Qk fun x h=>QEK x.1 x.2.1 x.2.2.1 x.2.2.2.1 h
def QbS (t:Qc):TRes:=⟨(.a [(zci t.1),(zcs QP t.2.1),(zcs ctOp t.2.2.1),(zcb t.2.2.2.1),(zcb t.2.2.2.2.1),(.r ZA 0 0 ((t.2.2.2.2.2.1).length)),(zcs [(.sl [TI])] t.2.2.2.2.2.2.1),(zcs [TI] t.2.2.2.2.2.2.2.1),(zcs [TI] t.2.2.2.2.2.2.2.2.1),(zcs [TI] t.2.2.2.2.2.2.2.2.2.1),(zcs [TI] t.2.2.2.2.2.2.2.2.2.2.1),(zcs [(.sl [TI])] t.2.2.2.2.2.2.2.2.2.2.2.1),(zci t.2.2.2.2.2.2.2.2.2.2.2.2.1),(zcb t.2.2.2.2.2.2.2.2.2.2.2.2.2)]),[(.sl 76 ZA true t.2.2.2.2.2.1)],[],true,[]⟩
def Qdz:TRow:=Qg 111 [(.a Qx)] fun x=>(some (QI (α:=Qc) x.1),QbS (id (α:=Qc) x.1))
def Qoo:List TRow:=[Qg8,Qdu,Qab,Qmn]
def Qwn:TCode :=
 (zsq [(.reg [zbi 24 .lss 23 22]),(.cond 24 .skip (.exit 0)),(.block 1 (zsq [(.reg [zia 25 21 23 ZA,zLd 26 25 2,zop 5 (.new 76 (z0s ZA)),zst 5 26 2]),(.draw [zfa 27 3 5,zld 28 27 1,zfa 29 5 0,zld 30 29 1,zfa 31 5 1,zld 32 31 1,zca 33 86 [32],zop 34 (.build (z0s ZA) [(0,1,30),(1,1,33)]),zop 35 (.bsl 76 ZA [34]),zop 36 (.app 28 35 76 ZA),zfa 37 3 5,zst 37 36 1] [(0,6),(1,6),(2,6),(3,6),(0,8),(1,8)])])),(.reg [zbi 38 .add 23 (zki 1),zmv 23 38])])
def QuX:List (Nat × Md):=[(1,.b (zds 14)),(2,.b (zds 14)),(3,.b [.d,.d,.d,.d,.d,.o 76,.d,.d,.d,.d,.d,.d,.d,.d]),(21,.one .d),(22,.one .d),(23,.one .d)]
def QyN:TCode :=
 (zsq [(.reg [zfa 39 1 6,zld 40 39 1,zca 41 86 [40],zfa 42 3 6,zst 42 41 1]),(.draw [zfa 43 1 7,zld 44 43 1,zca 45 119 [44],zfa 46 1 8,zld 47 46 1,zca 48 119 [47],zfa 49 1 9,zld 50 49 1,zca 51 119 [50],zfa 52 1 10,zld 53 52 1,zca 54 119 [53],zfa 55 3 7,zst 55 45 1,zfa 56 3 8,zst 56 48 1,zfa 57 3 9,zst 57 51 1,zfa 58 3 10,zst 58 54 1] [(2,3),(2,4),(2,6),(5,6),(2,7),(5,7),(2,9),(5,9),(8,9),(2,10),(5,10),(8,10),(5,12),(8,12),(11,12)]),(.reg [zfa 59 1 11,zLd 60 59 3,zca 61 184 [60],zfa 62 3 11,zst 62 61 3]),(.reg [zLd 63 3 14,zst 2 63 14]),.ret])
def QOK:TCode :=
 (zsq [(.reg [zop 1 (.box 63 0 14),zop 2 (.new 63 (z0s Qx))]),(.draw [zfa 6 1 0,zld 7 6 1,zop 8 (.bsl 111 QP []),zfa 9 1 1,zld 10 9 1,zop 11 (.app 8 10 111 QP),zfa 12 1 2,zld 13 12 1,zca 14 151 [13],zfa 15 1 3,zld 16 15 1,zfa 17 1 4,zld 18 17 1,zop 19 (.build (z0s Qx) [(0,1,7),(1,1,11),(2,1,14),(3,1,16),(4,1,18)]),zop 3 (.new 63 (z0s Qx)),zst 3 19 14] [(0,2),(1,2),(2,3),(2,4),(0,5),(1,5),(2,6),(5,6),(2,7),(5,7),(0,8),(1,8),(2,9),(5,9),(8,9),(2,10),(5,10),(8,10),(2,11),(5,11),(8,11),(2,12),(5,12),(8,12),(0,14),(1,14),(2,14),(3,14),(4,14),(5,14),(6,14),(7,14),(8,14),(9,14),(10,14),(11,14),(12,14)]),(zsq [(.reg [zfa 20 1 5,zld 21 20 1,zle 22 21,zmv 23 (zki 0)]),(.block 0 (.loop QuX Qwn))]),QyN])
def QoO:List (ARv × Md):=[(.l 2 14 true,.b [.d,.d,.d,.d,.d,.o 76,.d,.d,.d,.d,.d,.d,.d,.d])]
def QtP:Qb:=TQ 0 0 QoO K
def QCJ:Qb:=Qseq (tawp Qoo 0 QyN (QtP K)) (QtP K)
def QCU:Qb:=Qblk 0 (QCJ K)
def QfN (s:Qc) (x:Int) (t5:List Yi):Prop:=Loop Qoo 0 QuX Qwn (QCU K) ⟨[(1,(.p 0 0 0)),(2,(.p 1 0 0)),(3,(.p 3 0 0)),(21,(zcs ZA s.2.2.2.2.2.1)),(22,(zci ((s.2.2.2.2.2.1).length:Int))),(23,(zci x))],[(0,(.box (Tup.cells Qx s))),(1,(.box (Tup.cells Qx ((0:Int),[],[],false,false,[],[],[],[],[],[],[],(0:Int),false)))),(2,(.sl 76 ZA true t5)),(3,(.box [(zci s.1),(zcs QP (List.take (0+(s.2.1).length) (List.drop 0 (s.2.1:List TIns)))),(zcs ctOp (id (α:=List TOp') s.2.2.1)),(zcb s.2.2.2.1),(zcb s.2.2.2.2.1),(.r ZA 2 0 t5.length),(zcs [(.sl [TI])] ([])),(zcs [TI] ([])),(zcs [TI] ([])),(zcs [TI] ([])),(zcs [TI] ([])),(zcs [(.sl [TI])] ([])),(zci 0),(zcb false)]))],4⟩
theorem Qqh (s:Qc) (x:Int) (t5:List Yi) (h :
 (zif (decide (x<((s.2.2.2.2.2.1).length:Int))) (((0:Int)≤x∧Int.toNat x<(s.2.2.2.2.2.1).length)∧(((QI (α:=List (List Int)) ((gtd YC s.2.2.2.2.2.1 (Int.toNat x)).2))∧((t5.length=t5.length∨t5.length+1≤t5.length)∧t5.length+1≤big))∧(QfN K s (w64 (x+(1:Int))) (List.take (t5.length+1) ((List.take t5.length t5)++([((gtd YC s.2.2.2.2.2.1 (Int.toNat x)).1,(id (α:=List (List Int)) ((gtd YC s.2.2.2.2.2.1 (Int.toNat x)).2)))])))))) ((QI (α:=List (List Int)) s.2.2.2.2.2.2.1)∧(((QI (α:=List Int) s.2.2.2.2.2.2.2.1)∧((QI (α:=List Int) s.2.2.2.2.2.2.2.2.1)∧((QI (α:=List Int) s.2.2.2.2.2.2.2.2.2.1)∧(QI (α:=List Int) s.2.2.2.2.2.2.2.2.2.2.1))))∧((QI (α:=QZ) s.2.2.2.2.2.2.2.2.2.2.2)∧K (QbS (s.1,(List.take (0+(s.2.1).length) (List.drop 0 (s.2.1:List TIns))),(id (α:=List TOp') s.2.2.1),s.2.2.2.1,s.2.2.2.2.1,(List.take t5.length t5),(id (α:=List (List Int)) s.2.2.2.2.2.2.1),(List.take ((id (α:=List Int) s.2.2.2.2.2.2.2.1).length) (List.drop 0 (id (α:=List Int) s.2.2.2.2.2.2.2.1))),(List.take ((id (α:=List Int) s.2.2.2.2.2.2.2.2.1).length) (List.drop 0 (id (α:=List Int) s.2.2.2.2.2.2.2.2.1))),(List.take ((id (α:=List Int) s.2.2.2.2.2.2.2.2.2.1).length) (List.drop 0 (id (α:=List Int) s.2.2.2.2.2.2.2.2.2.1))),(List.take ((id (α:=List Int) s.2.2.2.2.2.2.2.2.2.2.1).length) (List.drop 0 (id (α:=List Int) s.2.2.2.2.2.2.2.2.2.2.1))),(id (α:=QZ) s.2.2.2.2.2.2.2.2.2.2.2).1,(id (α:=QZ) s.2.2.2.2.2.2.2.2.2.2.2).2.1,(id (α:=QZ) s.2.2.2.2.2.2.2.2.2.2.2).2.2))))))):QfN K s x t5 :=
 Loop.of (by kernel_rfl) h
theorem QKA (s:Qc) (h :
 ((((0=0∨0+(s.2.1).length≤0)∧0+(s.2.1).length≤big)∧(QI (α:=List TOp') s.2.2.1))∧(QfN K s 0 ([]:List Yi)))):Hold (tawp Qoo (0+0) QOK (TQ 0 0 QoO K) (Qf [(.a (Tup.cells Qx s))])) :=
 Hold.of (by kernel_rfl) h
theorem QOV (s:Qc) (hp:QI (α:=Qc) s):TCon Tryz.prog 111 [(.a (Tup.cells Qx s))] (QbS (id (α:=Qc) s)):=by
 refine Qq rfl fun hb=>tcg (n:=64) (sg:=Qdz.sg) Qj (TOk.cons QvN (TOk.cons Qf8 (TOk.cons Qbk (TOk.cons QQu TOk.nil)))) (by kernel_rfl) (by kernel_rfl) (QKA _ s ?_)
 have hl_s_1:(s.2.1).length≤9223372036854775807:=hb.1.2.1.1
 have hl_s_2:(s.2.2.1).length≤9223372036854775807:=hb.1.2.2.1.1
 have hl_s_5:(s.2.2.2.2.2.1).length≤9223372036854775807:=hb.1.2.2.2.2.2.1.1
 have hl_s_6:(s.2.2.2.2.2.2.1).length≤9223372036854775807:=hb.1.2.2.2.2.2.2.1.1
 have hl_s_7:(s.2.2.2.2.2.2.2.1).length≤9223372036854775807:=hb.1.2.2.2.2.2.2.2.1.1
 have hl_s_8:(s.2.2.2.2.2.2.2.2.1).length≤9223372036854775807:=hb.1.2.2.2.2.2.2.2.2.1.1
 have hl_s_9:(s.2.2.2.2.2.2.2.2.2.1).length≤9223372036854775807:=hb.1.2.2.2.2.2.2.2.2.2.1.1
 have hl_s_10:(s.2.2.2.2.2.2.2.2.2.2.1).length≤9223372036854775807:=hb.1.2.2.2.2.2.2.2.2.2.2.1.1
 have hl_s_11:(s.2.2.2.2.2.2.2.2.2.2.2.1).length≤9223372036854775807:=hb.1.2.2.2.2.2.2.2.2.2.2.2.1.1
 have hp':Sz.sz s≤2147483648:=hp
 have hs:=Yl s
 have l1:=Qas (QG s)
 simp only [id,List.drop_zero,List.take_length,true_or,true_and,Nat.zero_add]
 refine ⟨⟨by rw [Zi];((try simp only [sPc,QG,sOps,Qu,QF,Qi,QK,sX,sY,sG,sD,QD,QC,sSat,QN,QE,Qz,QA] at *);omega),by unfold QI;((try simp only [sPc,QG,sOps,Qu,QF,Qi,QK,sX,sY,sG,sD,QD,QC,sSat,QN,QE,Qz,QA] at *);omega)⟩,?_⟩
 refine Qca (l:=s.2.2.2.2.2.1) (A:=fun i v=>QfN (fun r'=>r'=QbS (id (α:=Qc) s)) s i v) (Q:=fun z=>QbS (s.1,s.2.1,s.2.2.1,s.2.2.2.1,s.2.2.2.2.1,z,s.2.2.2.2.2.2)=QbS (id (α:=Qc) s)) (by ((try simp only [sPc,QG,sOps,Qu,QF,Qi,QK,sX,sY,sG,sD,QD,QC,sSat,QN,QE,Qz,QA] at *);omega)) (fun k x v hk hl hg hv hx ih=>?_) (fun hq=>?_) (R_eq rfl)
 ·refine Qqh (fun r'=>r'=QbS (id (α:=Qc) s)) s _ _ ⟨fun _=>?_,fun h=>by simp at h;omega⟩
  simp only [YB,Yb] at hx
  rw [Int.toNat_natCast,hg,sc1 (by omega),Zq]
  exact ⟨⟨by omega,hk⟩,⟨by unfold QI;omega,room (by omega)⟩,ih⟩
 ·refine Qqh (fun r'=>r'=QbS (id (α:=Qc) s)) s _ _ ⟨fun h=>by simp at h,fun _=>?_⟩
  simp only [id,List.drop_zero,List.take_length,true_or,true_and,Nat.zero_add]
  exact ⟨by unfold QI;((try simp only [sPc,QG,sOps,Qu,QF,Qi,QK,sX,sY,sG,sD,QD,QC,sSat,QN,QE,Qz,QA] at *);omega),⟨by unfold QI;((try simp only [sPc,QG,sOps,Qu,QF,Qi,QK,sX,sY,sG,sD,QD,QC,sSat,QN,QE,Qz,QA] at *);omega),by unfold QI;((try simp only [sPc,QG,sOps,Qu,QF,Qi,QK,sX,sY,sG,sD,QD,QC,sSat,QN,QE,Qz,QA] at *);omega),by unfold QI;((try simp only [sPc,QG,sOps,Qu,QF,Qi,QK,sX,sY,sG,sD,QD,QC,sSat,QN,QE,Qz,QA] at *);omega),by unfold QI;((try simp only [sPc,QG,sOps,Qu,QF,Qi,QK,sX,sY,sG,sD,QD,QC,sSat,QN,QE,Qz,QA] at *);omega)⟩,by unfold QI;simp only [YB,Yb,Qa3];((try simp only [sPc,QG,sOps,Qu,QF,Qi,QK,sX,sY,sG,sD,QD,QC,sSat,QN,QE,Qz,QA] at *);omega),by first | exact hq | trivial⟩
theorem Qiz:Qh Tryz.prog Qdz:=Qk fun x h=>QOV x.1 h
def Qbt (t:Qc):TRes:=zra (.a (Tup.cells Qx t))
def Qlo:TRow:=Qg 44 [(.a Qx),(.c TI),(.c (.sl [TI])),(.c (.sl [TI]))] fun x=>(some (Qgt x.1 x.2.1 x.2.2.1 x.2.2.2.1),Qbt (YW x.1 x.2.1 x.2.2.1 x.2.2.2.1))
def QsS:List TRow:=[Qdz,QdT,Qdi,Qdr,JA,QeB,Qdk,Qhh,Qdu,Qab,Qkr,Qed]
def QuM:TCode :=
 (zsq [(.draw [zfa 69 9 5,zld 70 69 1,zmv 71 1,zmv 72 14,zca 73 86 [72],zop 74 (.build (z0s ZA) [(0,1,71),(1,1,73)]),zop 75 (.bsl 76 ZA [74]),zop 76 (.app 70 75 76 ZA),zfa 77 9 5,zst 77 76 1] [(0,4),(1,4),(0,6),(1,6)]),(.reg [zfa 78 9 7,zst 78 (.k (.n [TI])) 1]),(.reg [zfa 79 9 11,zfa 80 79 2,zld 81 80 1,zmv 82 81,.grp 82 false [zmv 83 12] 84 83,zfa 85 9 11,zfa 86 85 2,zst 86 84 1]),(zsq [(.reg [zfa 87 4 3,zld 88 87 1,zno 89 88]),(.cond 89 (zsq [(.reg [zmv 90 13,zca 91 119 [90],zfa 92 9 8,zst 92 91 1]),(.reg [zLd 93 9 14,zst 8 93 14]),.ret]) .skip)]),(.reg [zmv 95 13,zmv 96 3,zca 97 120 [95,96],zmv 94 97,zex 98 94 0,zex 99 94 1,zmv 15 98,zmv 16 99]),(.reg [zfa 101 9 11,zfa 102 101 1,zld 103 102 1,zmv 104 15,zca 105 121 [103,104],zmv 100 105,zex 106 100 0,zex 107 100 1,zmv 17 106,zmv 18 107]),(.reg [zmv 108 17,zfa 109 9 11,zfa 110 109 1,zst 110 108 1]),(.reg [zfa 111 9 11,zfa 112 111 2,zld 113 112 1,zmv 114 113,.grp 114 false [zmv 115 16] 116 115,zmv 117 116,.grp 117 false [zmv 118 18] 119 118,zfa 120 9 11,zfa 121 120 2,zst 121 119 1]),(.reg [zLd 122 9 14,zst 8 122 14]),.ret])
def QEm:List (Nat × Md):=[(1,.one .d),(3,.one .d),(4,.b (zds 14)),(8,.b (zds 14)),(9,.b [.d,.d,.d,.d,.d,.f,.d,.d,.d,.d,.d,.d,.d,.d]),(12,.one .d),(13,.one .d),(14,.one .d)]
def QDJ:TCode:=.wk QEm QuM
def QJ9:TCode :=
 (zsq [(.reg [zop 4 (.box 63 0 14),zop 8 (.new 63 (z0s Qx))]),(.reg [zLd 19 4 14,zca 20 111 [19],zop 9 (.new 63 (z0s Qx)),zst 9 20 14]),(.reg [zLd 21 4 14,zca 22 112 [21],zop 10 (.new 26 [(.n ctOp)]),zst 10 22 1]),(zsq [(.reg [zLd 23 4 14,zca 24 113 [23],zno 25 24,zmv 26 25,.grp 26 false [zmv 27 2,zLd 28 10 1,zca 29 115 [28],zca 30 114 [27,29],zno 31 30] 32 31,zmv 33 32,.grp 33 false [zfa 34 4 5,zld 35 34 1,zmv 36 1,zca 37 116 [35,36],zbi 38 .geq 37 (zki 0)] 39 38]),(.cond 39 (zsq [(.reg [zLd 40 9 14,zst 8 40 14]),.ret]) .skip)]),(zsq [(.reg [zfa 41 4 3,zld 42 41 1,zmv 43 42,.grp 43 true [zmv 44 3,zLd 45 10 1,zca 46 117 [45],zca 47 114 [44,46],zno 48 47] 49 48]),(.cond 49 (zsq [(.reg [zLd 50 9 14,zst 8 50 14]),.ret]) .skip)]),(.reg [zLd 52 10 1,zmv 53 2,zca 54 118 [52,53],zmv 51 54,zex 55 51 0,zex 56 51 1,zmv 11 55,zmv 12 56]),(.reg [zmv 57 11,zfa 58 4 2,zld 59 58 1,zle 60 59,zia 61 57 60 [(.sl [TI])],zfa 62 61 0,zld 63 62 1,zmv 13 63]),(.reg [zmv 64 11,zmv 14 64]),(zsq [(.reg [zfa 65 4 4,zld 66 65 1]),(.cond 66 (.reg [zmv 67 11,zop 68 (.slc 67 none (some (zki 1)) [(.sl [TI])]),zmv 14 68]) .skip)]),QDJ])
def QxQ:List (ARv × Md):=[(.l 8 14 true,.b (zds 14))]
def QMj:Qb:=TQ 0 0 QxQ K
@[irreducible] def Qhn (s:Qc) (m:Int) (x:List Int) (t:List Int) (kept:List (List Int)):Prop:=let z1:=id (α:=Qc) s
 let z2:=List.take ((z1.2.2.2.2.2.1).length) (z1.2.2.2.2.2.1)
 tawp QsS 0 QuM (QMj K) ⟨[(1,(zci m)),(3,(zcs [TI] t)),(4,(.p 0 0 0)),(8,(.p 1 0 0)),(9,(.p 3 0 0)),(12,(zcb ((Jq (ZW s) x).2))),(13,(zcs [TI] (gtd ([]:List Int) ((Jq (ZW s) x).1) (Int.toNat ((s.2.2.1).length:Int))))),(14,(zcs [(.sl [TI])] kept))],[(0,(.box (Tup.cells Qx s))),(1,(.box (Tup.cells Qx ((0:Int),[],[],false,false,[],[],[],[],[],[],[],(0:Int),false)))),(2,(.sl 76 ZA true z2)),(3,(.box [(zci (z1.1)),(zcs QP (z1.2.1)),(zcs ctOp (z1.2.2.1)),(zcb (z1.2.2.2.1)),(zcb (z1.2.2.2.2.1)),(.r ZA 2 0 (z2.length)),(zcs [(.sl [TI])] (z1.2.2.2.2.2.2.1)),(zcs [TI] (z1.2.2.2.2.2.2.2.1)),(zcs [TI] (z1.2.2.2.2.2.2.2.2.1)),(zcs [TI] (z1.2.2.2.2.2.2.2.2.2.1)),(zcs [TI] (z1.2.2.2.2.2.2.2.2.2.2.1)),(zcs [(.sl [TI])] (z1.2.2.2.2.2.2.2.2.2.2.2.1)),(zci (z1.2.2.2.2.2.2.2.2.2.2.2.2.1)),(zcb (z1.2.2.2.2.2.2.2.2.2.2.2.2.2))]))],4⟩
theorem QGF (s:Qc) (m:Int) (x:List Int) (t:List Int) (kept:List (List Int)) (h :
 let z2:=id (α:=Qc) s
 let z1:=List.take ((z2.2.2.2.2.2.1).length) (z2.2.2.2.2.2.1)
 let z5:=Jq (ZW s) x
 let z3:=gtd ([]:List Int) (z5.1) (Int.toNat ((s.2.2.1).length:Int))
 let z4:=Zl (z2.2.2.2.2.2.2.2.2.2.2.2.2.1) ((Yh z3 t).1)
 (((QI (α:=List (List Int)) kept)∧((z1.length=z1.length∨z1.length+1≤z1.length)∧z1.length+1≤big))∧(zif (!s.2.2.2.1) ((QI (α:=List Int) z3)∧K (Qbt (z2.1,z2.2.1,z2.2.2.1,z2.2.2.2.1,z2.2.2.2.2.1,(List.take (z1.length+1) (List.drop 0 ((List.take (z1.length) z1)++([(m,(id (α:=List (List Int)) kept))])))),z2.2.2.2.2.2.2.1,[],(List.take ((id (α:=List Int) z3).length) (List.drop 0 (id (α:=List Int) z3))),z2.2.2.2.2.2.2.2.2.2.1,z2.2.2.2.2.2.2.2.2.2.2.1,z2.2.2.2.2.2.2.2.2.2.2.2.1,z2.2.2.2.2.2.2.2.2.2.2.2.2.1,((z2.2.2.2.2.2.2.2.2.2.2.2.2.2)||(z5.2))))) (K (Qbt (z2.1,z2.2.1,z2.2.2.1,z2.2.2.2.1,z2.2.2.2.2.1,(List.take (z1.length+1) (List.drop 0 ((List.take (z1.length) z1)++([(m,(id (α:=List (List Int)) kept))])))),z2.2.2.2.2.2.2.1,[],z2.2.2.2.2.2.2.2.2.1,z2.2.2.2.2.2.2.2.2.2.1,z2.2.2.2.2.2.2.2.2.2.2.1,z2.2.2.2.2.2.2.2.2.2.2.2.1,z4.1,((((z2.2.2.2.2.2.2.2.2.2.2.2.2.2)||(z5.2))||((Yh z3 t).2))||(z4.2)))))))):Hold (Qhn K s m x t kept) :=
 Hold.of (by kernel_rfl) h
theorem QGt (s:Qc) (m:Int) (x:List Int) (t:List Int) (h :
 let z1:=id (α:=Qc) s
 let z2:=Jq (ZW s) x
 let z3:=List.take ((z1.2.2.2.2.2.1).length) (List.drop 0 (z1.2.2.2.2.2.1))
 ((QI (α:=Qc) s)∧(zif (((!(Zc s))||(!(Qs x (QX (ZW s)))))||(decide ((QR s.2.2.2.2.2.1 m)≥(0:Int)))) (K (Qbt (z1.1,z1.2.1,z1.2.2.1,z1.2.2.2.1,z1.2.2.2.2.1,z3,z1.2.2.2.2.2.2.1,z1.2.2.2.2.2.2.2.1,z1.2.2.2.2.2.2.2.2.1,z1.2.2.2.2.2.2.2.2.2.1,z1.2.2.2.2.2.2.2.2.2.2.1,z1.2.2.2.2.2.2.2.2.2.2.2.1,z1.2.2.2.2.2.2.2.2.2.2.2.2.1,z1.2.2.2.2.2.2.2.2.2.2.2.2.2))) (zif (s.2.2.2.1&&(!(Qs t (Q1 (ZW s))))) (K (Qbt (z1.1,z1.2.1,z1.2.2.1,z1.2.2.2.1,z1.2.2.2.2.1,z3,z1.2.2.2.2.2.2.1,z1.2.2.2.2.2.2.2.1,z1.2.2.2.2.2.2.2.2.1,z1.2.2.2.2.2.2.2.2.2.1,z1.2.2.2.2.2.2.2.2.2.2.1,z1.2.2.2.2.2.2.2.2.2.2.2.1,z1.2.2.2.2.2.2.2.2.2.2.2.2.1,z1.2.2.2.2.2.2.2.2.2.2.2.2.2))) (((0:Int)≤((s.2.2.1).length:Int)∧Int.toNat ((s.2.2.1).length:Int)<(z2.1).length)∧(zif s.2.2.2.2.1 (((0:Int)≤(0:Int)∧(0:Int)≤(1:Int)∧(1:Int)≤((z2.1).length:Int))∧(Qhn K s m x t (List.take (Int.toNat (1:Int)-Int.toNat (0:Int)) (List.drop (Int.toNat (0:Int)) (z2.1))))) (Qhn K s m x t (z2.1)))))))):Hold (tawp QsS (0+0) QJ9 (TQ 0 0 QxQ K) (Qf [(.a (Tup.cells Qx s)),(.c TI m),(.c (.sl [TI]) x),(.c (.sl [TI]) t)])) :=
 Hold.of (by kernel_rfl) h
theorem QGd (s:Qc) (m:Int) (x:List Int) (t:List Int) (hp:Qgt s m x t):TCon Tryz.prog 44 [(.a (Tup.cells Qx s)),(.c TI m),(.c (.sl [TI]) x),(.c (.sl [TI]) t)] (Qbt (YW s m x t)):=by
 refine Qq rfl fun hb=>tcg (n:=123) (sg:=Qlo.sg) Qj (TOk.cons Qiz (TOk.cons Qf6 (TOk.cons Qhv (TOk.cons QhR (TOk.cons Qao (TOk.cons QmC (TOk.cons Qgb (TOk.cons QwR (TOk.cons Qf8 (TOk.cons Qbk (TOk.cons QOJ (TOk.cons QgW TOk.nil)))))))))))) (by kernel_rfl) (by kernel_rfl) (QGt _ s m x t ?_)
 have hl_s_1:(s.2.1).length≤9223372036854775807:=hb.1.2.1.1
 have hl_s_2:(s.2.2.1).length≤9223372036854775807:=hb.1.2.2.1.1
 have hl_s_5:(s.2.2.2.2.2.1).length≤9223372036854775807:=hb.1.2.2.2.2.2.1.1
 have hl_s_6:(s.2.2.2.2.2.2.1).length≤9223372036854775807:=hb.1.2.2.2.2.2.2.1.1
 have hl_s_7:(s.2.2.2.2.2.2.2.1).length≤9223372036854775807:=hb.1.2.2.2.2.2.2.2.1.1
 have hl_s_8:(s.2.2.2.2.2.2.2.2.1).length≤9223372036854775807:=hb.1.2.2.2.2.2.2.2.2.1.1
 have hl_s_9:(s.2.2.2.2.2.2.2.2.2.1).length≤9223372036854775807:=hb.1.2.2.2.2.2.2.2.2.2.1.1
 have hl_s_10:(s.2.2.2.2.2.2.2.2.2.2.1).length≤9223372036854775807:=hb.1.2.2.2.2.2.2.2.2.2.2.1.1
 have hl_s_11:(s.2.2.2.2.2.2.2.2.2.2.2.1).length≤9223372036854775807:=hb.1.2.2.2.2.2.2.2.2.2.2.2.1.1
 have hl_x:x.length≤9223372036854775807:=hb.2.2.1.1
 have hl_t:t.length≤9223372036854775807:=hb.2.2.2.1.1
 conv=>zeta
 have hp':Sz.sz s≤2147483648:=hp
 have hs:=Yl s
 have l1:=Qas (Qi s)
 have e:=QGv s m x t
 simp only [id,List.drop_zero,List.take_length,true_or,true_and,Nat.zero_add,Int.toNat_natCast]
 refine ⟨hp,fun h=>R_eq ?_,fun h=>⟨fun h2=>R_eq ?_,fun h2=>?_⟩⟩
 ·rw [h] at e;rw [QrY (by rw [e];simp)]
 ·rw [h2] at e;rw [QrY (by rw [e];simp)]
 rw [h,h2] at e
 have e:Qaw s m x t=true:=by simpa using e
 have e2:=e
 simp only [Qaw,Bool.and_eq_true] at e2
 have hm:=QcJ e2.1.1.1
 have hml:=Yx hm
 have ei:Jq (ZW s) x=Qy (sOps s) x:=QjH hm e2.1.1.2
 have hil:=QcD (sOps s) x
 have hx6:=Qbn e2.1.1.2
 have hsz:=Qhs (sOps s) x
 have hout:=QMC e
 have hgs:=Qfc [] (Qy (sOps s) x).1 (sOps s).length
 have e0:Sz.sz ([]:List Int)=0:=rfl
 have key:∀ kept,kept=(if QF s then (Qy (sOps s) x).1.take 1 else (Qy (sOps s) x).1)→Qhn (fun r'=>r'=Qbt (YW s m x t)) s m x t kept:=by
  intro kept hk
  have hks:Sz.sz kept≤Sz.sz (Qy (sOps s) x).1:=by
   rw [hk];split
   ·exact QmR _ _
   ·exact Nat.le_refl _
  refine (QGF (fun r'=>r'=Qbt (YW s m x t)) s m x t kept ?_).h
  conv=>zeta
  rw [ei]
  simp only [id,List.drop_zero,List.take_length,true_or,true_and,Nat.zero_add,Int.toNat_natCast,Zq]
  refine ⟨⟨by unfold QI;((try simp only [sPc,QG,sOps,Qu,QF,Qi,QK,sX,sY,sG,sD,QD,QC,sSat,QN,QE,Qz,QA] at *);omega),by rw [Zi];((try simp only [sPc,QG,sOps,Qu,QF,Qi,QK,sX,sY,sG,sD,QD,QC,sSat,QN,QE,Qz,QA] at *);omega)⟩,fun hl=>⟨by unfold QI;((try simp only [sPc,QG,sOps,Qu,QF,Qi,QK,sX,sY,sG,sD,QD,QC,sSat,QN,QE,Qz,QA] at *);omega),R_eq ?_⟩,fun hl=>R_eq ?_⟩
  ·have hl:s.2.2.2.1=false:=by simpa using hl
   rw [hout,← hk]
   simp only [Qu,hl]
   simp [List.take_of_length_le]
  ·have hl:s.2.2.2.1=true:=by simpa using hl
   rw [hout,← hk]
   simp only [Qu,hl]
   simp [Bool.or_assoc,List.take_of_length_le]
 rw [ei]
 refine ⟨⟨by omega,by ((try simp only [sPc,QG,sOps,Qu,QF,Qi,QK,sX,sY,sG,sD,QD,QC,sSat,QN,QE,Qz,QA] at *);omega)⟩,fun hr=>⟨by ((try simp only [sPc,QG,sOps,Qu,QF,Qi,QK,sX,sY,sG,sD,QD,QC,sSat,QN,QE,Qz,QA] at *);omega),key _ ?_⟩,fun hr=>key _ ?_⟩
 ·rw [if_pos hr];rfl
 ·rw [if_neg (by rw [show QF s=false from hr];simp)]
theorem QA9:Qh Tryz.prog Qlo:=Qk fun x h=>QGd x.1 x.2.1 x.2.2.1 x.2.2.2.1 h
def Qgk (t:Qc):TRes:=zra (.a (Tup.cells Qx t))
def Qkp:TRow:=Qg 46 [(.a Qx),(.c TI)] fun x=>(some (QiN x.1 x.2.1),Qgk (Jk x.1 x.2.1))
def QDa:List TRow:=[Qdz,QeB,Qdi,QdT,Qhh]
def QQZ:TCode :=
 (zsq [(.reg [zop 2 (.box 63 0 14),zop 4 (.new 63 (z0s Qx))]),(.reg [zLd 7 2 14,zca 8 111 [7],zop 5 (.new 63 (z0s Qx)),zst 5 8 14]),(.reg [zfa 9 2 5,zld 10 9 1,zmv 11 1,zca 12 116 [10,11],zmv 6 12]),(zsq [(.reg [zLd 13 2 14,zca 14 113 [13],zno 15 14,zmv 16 15,.grp 16 false [zmv 17 6,zbi 18 .lss 17 (zki 0)] 19 18]),(.cond 19 (zsq [(.reg [zLd 20 5 14,zst 4 20 14]),.ret]) .skip)]),(.draw [zLd 22 2 14,zca 23 112 [22],zfa 24 2 5,zld 25 24 1,zmv 26 6,zia 27 25 26 ZA,zfa 28 27 1,zld 29 28 1,zia 30 29 (zki 0) [(.sl [TI])],zfa 31 30 0,zld 32 31 1,zca 33 118 [23,32],zmv 21 33,zex 34 21 0,zex 35 21 1,zfa 36 5 6,zst 36 34 1] [(1,2),(1,3),(1,5),(1,6),(1,7),(1,8),(1,9),(1,10)]),(.reg [zLd 37 5 14,zst 4 37 14]),.ret])
def QNt:List (ARv × Md):=[(.l 4 14 true,.b (zds 14))]
theorem QJO (s:Qc) (m:Int) (h :
 let z1:=id (α:=Qc) s
 let z2:=QR s.2.2.2.2.2.1 m
 let z3:=List.take ((z1.2.2.2.2.2.1).length) (List.drop 0 (z1.2.2.2.2.2.1))
 ((QI (α:=Qc) s)∧(zif ((!(Zc s))||(decide (z2<(0:Int)))) (K (Qgk (z1.1,z1.2.1,z1.2.2.1,z1.2.2.2.1,z1.2.2.2.2.1,z3,z1.2.2.2.2.2.2.1,z1.2.2.2.2.2.2.2.1,z1.2.2.2.2.2.2.2.2.1,z1.2.2.2.2.2.2.2.2.2.1,z1.2.2.2.2.2.2.2.2.2.2.1,z1.2.2.2.2.2.2.2.2.2.2.2.1,z1.2.2.2.2.2.2.2.2.2.2.2.2.1,z1.2.2.2.2.2.2.2.2.2.2.2.2.2))) ((((0:Int)≤z2∧Int.toNat z2<(s.2.2.2.2.2.1).length)∧((0:Int)≤(0:Int)∧Int.toNat (0:Int)<((gtd YC s.2.2.2.2.2.1 (Int.toNat z2)).2).length))∧K (Qgk (z1.1,z1.2.1,z1.2.2.1,z1.2.2.2.1,z1.2.2.2.2.1,z3,(Jq (ZW s) (gtd ([]:List Int) ((gtd YC s.2.2.2.2.2.1 (Int.toNat z2)).2) (Int.toNat (0:Int)))).1,z1.2.2.2.2.2.2.2.1,z1.2.2.2.2.2.2.2.2.1,z1.2.2.2.2.2.2.2.2.2.1,z1.2.2.2.2.2.2.2.2.2.2.1,z1.2.2.2.2.2.2.2.2.2.2.2.1,z1.2.2.2.2.2.2.2.2.2.2.2.2.1,z1.2.2.2.2.2.2.2.2.2.2.2.2.2)))))):Hold (tawp QDa (0+0) QQZ (TQ 0 0 QNt K) (Qf [(.a (Tup.cells Qx s)),(.c TI m)])) :=
 Hold.of (by kernel_rfl) h
theorem QGM (s:Qc) (m:Int) (hp:QiN s m):TCon Tryz.prog 46 [(.a (Tup.cells Qx s)),(.c TI m)] (Qgk (Jk s m)):=by
 refine Qq rfl fun hb=>tcg (n:=38) (sg:=Qkp.sg) Qj (TOk.cons Qiz (TOk.cons QmC (TOk.cons Qhv (TOk.cons Qf6 (TOk.cons QwR TOk.nil))))) (by kernel_rfl) (by kernel_rfl) (QJO _ s m ?_)
 have hl_s_1:(s.2.1).length≤9223372036854775807:=hb.1.2.1.1
 have hl_s_2:(s.2.2.1).length≤9223372036854775807:=hb.1.2.2.1.1
 have hl_s_5:(s.2.2.2.2.2.1).length≤9223372036854775807:=hb.1.2.2.2.2.2.1.1
 have hl_s_6:(s.2.2.2.2.2.2.1).length≤9223372036854775807:=hb.1.2.2.2.2.2.2.1.1
 have hl_s_7:(s.2.2.2.2.2.2.2.1).length≤9223372036854775807:=hb.1.2.2.2.2.2.2.2.1.1
 have hl_s_8:(s.2.2.2.2.2.2.2.2.1).length≤9223372036854775807:=hb.1.2.2.2.2.2.2.2.2.1.1
 have hl_s_9:(s.2.2.2.2.2.2.2.2.2.1).length≤9223372036854775807:=hb.1.2.2.2.2.2.2.2.2.2.1.1
 have hl_s_10:(s.2.2.2.2.2.2.2.2.2.2.1).length≤9223372036854775807:=hb.1.2.2.2.2.2.2.2.2.2.2.1.1
 have hl_s_11:(s.2.2.2.2.2.2.2.2.2.2.2.1).length≤9223372036854775807:=hb.1.2.2.2.2.2.2.2.2.2.2.2.1.1
 conv=>zeta
 have hp':Sz.sz s≤2147483648:=hp
 simp only [id,List.drop_zero,List.take_length]
 rw [Qpn]
 refine ⟨hp,fun h=>R_eq ?_,fun h=>?_⟩
 ·simp only [Bool.not_eq_true'] at h
  rw [QFy (by rw [h];simp)]
 have h:(Zc s&&decide (0≤QR (Qi s) m))=true:=by simpa using h
 have h':=h
 simp only [Bool.and_eq_true,decide_eq_true_eq] at h'
 have hf:=Qnk (Qi s) m
 have hk:(QR (Qi s) m).toNat<(Qi s).length:=by omega
 have hr:=Qvq h'.1 (Qrf h'.1 _ (Y7 hk YC))
 have ei:Jq (ZW s) (gtd [] (gtd YC s.2.2.2.2.2.1 (QR s.2.2.2.2.2.1 m).toNat).2 0)=Qy (sOps s) (gtd [] (gtd YC s.2.2.2.2.2.1 (QR s.2.2.2.2.2.1 m).toNat).2 0):=QjH (QcJ h'.1) hr.2.2
 refine ⟨⟨⟨h'.2,hk⟩,⟨by omega,hr.1⟩⟩,R_eq ?_⟩
 rw [show Int.toNat (0:Int)=0 from rfl,ei]
 unfold Jk
 simp only
 rw [if_pos h]
theorem QQH:Qh Tryz.prog Qkp:=Qk fun x h=>QGM x.1 x.2.1 h
def QaC (t:Qc):TRes:=zra (.a (Tup.cells Qx t))
def Qoj:TRow:=Qg 48 [(.a Qx),(.c TI),(.c (.sl [TI]))] fun x=>(some (QiE x.1 x.2.1 x.2.2.1),QaC (Z3 x.1 x.2.1 x.2.2.1))
def Qku:List TRow:=[Qdz,QeB,Qdi,Qhf,Qh3,QdT,Qdk,JA,Ql6,QlV]
def Quj:TCode :=
 (zsq [(zsq [(.reg [zmv 70 11,zLd 71 3 14,zca 72 112 [71],zca 73 117 [72],zca 74 114 [70,73],zno 75 74]),(.cond 75 (zsq [(.reg [zLd 76 7 14,zst 6 76 14]),.ret]) .skip)]),(.reg [zfa 78 3 2,zld 79 78 1,zmv 80 9,zmv 81 11,zca 82 125 [79,80,81],zmv 77 82,zex 83 77 0,zex 84 77 1,zex 85 77 2,zmv 13 83,zmv 11 84,zmv 14 85]),(.reg [zfa 86 7 11,zLd 87 86 3,zmv 88 13,zmv 89 12,zmv 90 89,.grp 90 false [zmv 91 14] 92 91,zop 93 (.build (z0s Zd) [(0,1,88),(2,1,92)]),zca 94 89 [87,93],zfa 95 7 11,zst 95 94 3]),(.reg [zmv 96 11,zfa 97 7 10,zst 97 96 1]),(.reg [zfa 98 7 9,zst 98 (.k (.n [TI])) 1]),(.reg [zfa 99 7 6,zst 99 (.k (.n [(.sl [TI])])) 1]),(.draw [zfa 100 7 5,zld 101 100 1,zmv 102 8,zop 103 (.slc 101 none (some 102) ZA),zfa 104 7 5,zld 105 104 1,zmv 106 8,zbi 107 .add 106 (zki 1),zop 108 (.slc 105 (some 107) none ZA),zop 109 (.app 103 108 76 ZA),zfa 110 7 5,zst 110 109 1] []),(.reg [zLd 111 7 14,zst 6 111 14]),.ret])
def QIa:List (Nat × Md):=[(3,.b (zds 14)),(6,.b (zds 14)),(7,.b [.d,.d,.d,.d,.d,.f,.d,.d,.d,.d,.d,.d,.d,.d]),(8,.one .d),(9,.one .d),(11,.one .d),(12,.one .d)]
def QNZ:TCode:=.wk QIa Quj
def QtK:TCode :=
 (zsq [(.reg [zfa 39 3 2,zld 40 39 1,zle 41 40,zmv 10 41]),(zsq [(.reg [zmv 42 9,zle 43 42,zmv 44 10,zbi 45 .add 44 (zki 1),zbi 46 .neq 43 45,zmv 47 46,.grp 47 false [zfa 48 3 2,zld 49 48 1,zmv 50 9,zmv 51 10,zca 52 123 [49,50,51],zno 53 52] 54 53]),(.cond 54 (zsq [(.reg [zLd 55 7 14,zst 6 55 14]),.ret]) .skip)]),(.reg [zfa 56 7 9,zld 57 56 1,zmv 11 57,zmv 12 (zkb false)]),(zsq [(.reg [zfa 58 3 3,zld 59 58 1]),(.cond 59 (.reg [zmv 61 9,zmv 62 10,zia 63 61 62 [(.sl [TI])],zfa 64 63 0,zld 65 64 1,zmv 66 2,zca 67 124 [65,66],zmv 60 67,zex 68 60 0,zex 69 60 1,zmv 11 68,zmv 12 69]) .skip)]),QNZ])
def QBJ:List (Nat × Md):=[(2,.one .d),(3,.b (zds 14)),(6,.b (zds 14)),(7,.b [.d,.d,.d,.d,.d,.f,.d,.d,.d,.d,.d,.d,.d,.d]),(8,.one .d),(9,.one .d)]
def QMU:TCode:=.wk QBJ QtK
def QFZ:TCode :=
 (zsq [(.reg [zop 3 (.box 63 0 14),zop 6 (.new 63 (z0s Qx))]),(.reg [zLd 15 3 14,zca 16 111 [15],zop 7 (.new 63 (z0s Qx)),zst 7 16 14]),(.reg [zfa 17 3 5,zld 18 17 1,zmv 19 1,zca 20 116 [18,19],zmv 8 20]),(zsq [(.reg [zLd 21 3 14,zca 22 113 [21],zno 23 22,zmv 24 23,.grp 24 false [zmv 25 8,zbi 26 .lss 25 (zki 0)] 27 26]),(.cond 27 (zsq [(.reg [zLd 28 7 14,zst 6 28 14]),.ret]) .skip)]),(.reg [zfa 29 7 5,zld 30 29 1,zmv 31 8,zia 32 30 31 ZA,zfa 33 32 1,zld 34 33 1,zmv 9 34]),(zsq [(.reg [zfa 35 3 4,zld 36 35 1]),(.cond 36 (.reg [zfa 37 7 6,zld 38 37 1,zmv 9 38]) .skip)]),QMU])
def Qt3:List (ARv × Md):=[(.l 6 14 true,.b (zds 14))]
def Qv6:Qb:=TQ 0 0 Qt3 K
@[irreducible] def Qg1 (s:Qc) (m:Int) (rows:List (List Int)) (d:List Int) (first:Bool):Prop:=let z1:=id (α:=Qc) s
 let z2:=List.take ((z1.2.2.2.2.2.1).length) (z1.2.2.2.2.2.1)
 tawp Qku 0 Quj (Qv6 K) ⟨[(3,(.p 0 0 0)),(6,(.p 1 0 0)),(7,(.p 3 0 0)),(8,(zci (QR s.2.2.2.2.2.1 m))),(9,(zcs [(.sl [TI])] rows)),(11,(zcs [TI] d)),(12,(zcb first))],[(0,(.box (Tup.cells Qx s))),(1,(.box (Tup.cells Qx ((0:Int),[],[],false,false,[],[],[],[],[],[],[],(0:Int),false)))),(2,(.sl 76 ZA true (List.take (z2.length) z2))),(3,(.box [(zci (z1.1)),(zcs QP (z1.2.1)),(zcs ctOp (z1.2.2.1)),(zcb (z1.2.2.2.1)),(zcb (z1.2.2.2.2.1)),(.r ZA 2 0 ((List.take (z2.length) z2).length)),(zcs [(.sl [TI])] (z1.2.2.2.2.2.2.1)),(zcs [TI] (z1.2.2.2.2.2.2.2.1)),(zcs [TI] (z1.2.2.2.2.2.2.2.2.1)),(zcs [TI] (z1.2.2.2.2.2.2.2.2.2.1)),(zcs [TI] (z1.2.2.2.2.2.2.2.2.2.2.1)),(zcs [(.sl [TI])] (z1.2.2.2.2.2.2.2.2.2.2.2.1)),(zci (z1.2.2.2.2.2.2.2.2.2.2.2.2.1)),(zcb (z1.2.2.2.2.2.2.2.2.2.2.2.2.2))]))],4⟩
@[irreducible] def Qf7 (s:Qc) (m:Int) (t:List Int) (rows:List (List Int)):Prop:=let z1:=id (α:=Qc) s
 let z2:=List.take ((z1.2.2.2.2.2.1).length) (z1.2.2.2.2.2.1)
 tawp Qku 0 QtK (Qv6 K) ⟨[(2,(zcs [TI] t)),(3,(.p 0 0 0)),(6,(.p 1 0 0)),(7,(.p 3 0 0)),(8,(zci (QR s.2.2.2.2.2.1 m))),(9,(zcs [(.sl [TI])] rows))],[(0,(.box (Tup.cells Qx s))),(1,(.box (Tup.cells Qx ((0:Int),[],[],false,false,[],[],[],[],[],[],[],(0:Int),false)))),(2,(.sl 76 ZA true z2)),(3,(.box [(zci (z1.1)),(zcs QP (z1.2.1)),(zcs ctOp (z1.2.2.1)),(zcb (z1.2.2.2.1)),(zcb (z1.2.2.2.2.1)),(.r ZA 2 0 (z2.length)),(zcs [(.sl [TI])] (z1.2.2.2.2.2.2.1)),(zcs [TI] (z1.2.2.2.2.2.2.2.1)),(zcs [TI] (z1.2.2.2.2.2.2.2.2.1)),(zcs [TI] (z1.2.2.2.2.2.2.2.2.2.1)),(zcs [TI] (z1.2.2.2.2.2.2.2.2.2.2.1)),(zcs [(.sl [TI])] (z1.2.2.2.2.2.2.2.2.2.2.2.1)),(zci (z1.2.2.2.2.2.2.2.2.2.2.2.2.1)),(zcb (z1.2.2.2.2.2.2.2.2.2.2.2.2.2))]))],4⟩
theorem QPZ (s:Qc) (m:Int) (rows:List (List Int)) (d:List Int) (first:Bool) (h :
 let z3:=id (α:=Qc) s
 let z4:=QR s.2.2.2.2.2.1 m
 let z6:=Int.toNat z4-Int.toNat (0:Int)
 let z7:=QM s.2.2.1 rows d
 let z5:=Ym (z3.2.2.2.2.2.2.2.2.2.2.2) (z7.1,(0:Int),(first||(z7.2.2)))
 let z8:=List.take ((z3.2.2.2.2.2.1).length) (z3.2.2.2.2.2.1)
 let z1:=List.take (z8.length) z8
 let z2:=List.take (Int.toNat ((z1.length:Nat):Int)-Int.toNat (w64 (z4+(1:Int)))) (List.drop (0+Int.toNat (w64 (z4+(1:Int)))) z1)
 (zif (!(Qs d (Q1 (ZW s)))) (K (QaC (z3.1,z3.2.1,z3.2.2.1,z3.2.2.2.1,z3.2.2.2.2.1,(List.take (z1.length) (List.drop 0 z1)),z3.2.2.2.2.2.2.1,z3.2.2.2.2.2.2.2.1,z3.2.2.2.2.2.2.2.2.1,z3.2.2.2.2.2.2.2.2.2.1,z3.2.2.2.2.2.2.2.2.2.2.1,z3.2.2.2.2.2.2.2.2.2.2.2.1,z3.2.2.2.2.2.2.2.2.2.2.2.2.1,z3.2.2.2.2.2.2.2.2.2.2.2.2.2))) ((QmW s.2.2.1 rows d)∧((JR (α:=QZ) (β:=QZ) (z3.2.2.2.2.2.2.2.2.2.2.2) (z7.1,(0:Int),(first||(z7.2.2))))∧((((0:Int)≤(0:Int)∧(0:Int)≤z4∧z4≤((z1.length:Nat):Int))∧(((0:Int)≤w64 (z4+(1:Int))∧w64 (z4+(1:Int))≤((z1.length:Nat):Int)∧((z1.length:Nat):Int)≤((z1.length:Nat):Int))∧((z6=z1.length∨z6+z2.length≤z1.length)∧z6+z2.length≤big)))∧K (QaC (z3.1,z3.2.1,z3.2.2.1,z3.2.2.2.1,z3.2.2.2.2.1,(List.take (z6+z2.length) (List.drop 0 ((List.take z6 z1)++z2))),[],z3.2.2.2.2.2.2.2.1,z3.2.2.2.2.2.2.2.2.1,[],z7.2.1,z5.1,z5.2.1,z5.2.2))))))):Hold (Qg1 K s m rows d first) :=
 Hold.of (by kernel_rfl) h
theorem QAN (s:Qc) (m:Int) (t:List Int) (rows:List (List Int)) (h :
 let z1:=id (α:=Qc) s
 let z2:=Zs (gtd ([]:List Int) rows (Int.toNat ((s.2.2.1).length:Int))) t
 let z3:=List.take ((z1.2.2.2.2.2.1).length) (z1.2.2.2.2.2.1)
 let z4:=w64 (((s.2.2.1).length:Int)+(1:Int))
 (((!((rows.length:Int) != z4))=true→(Qhc s.2.2.1 rows ((s.2.2.1).length:Int)))∧(zif (((rows.length:Int) != z4)||(!(YK s.2.2.1 rows ((s.2.2.1).length:Int)))) (K (QaC (z1.1,z1.2.1,z1.2.2.1,z1.2.2.2.1,z1.2.2.2.2.1,(List.take (z3.length) (List.drop 0 z3)),z1.2.2.2.2.2.2.1,z1.2.2.2.2.2.2.2.1,z1.2.2.2.2.2.2.2.2.1,z1.2.2.2.2.2.2.2.2.2.1,z1.2.2.2.2.2.2.2.2.2.2.1,z1.2.2.2.2.2.2.2.2.2.2.2.1,z1.2.2.2.2.2.2.2.2.2.2.2.2.1,z1.2.2.2.2.2.2.2.2.2.2.2.2.2))) (zif s.2.2.2.1 (((0:Int)≤((s.2.2.1).length:Int)∧Int.toNat ((s.2.2.1).length:Int)<rows.length)∧(Qg1 K s m rows (z2.1) (z2.2))) (Qg1 K s m rows (z1.2.2.2.2.2.2.2.2.2.1) false))))):Hold (Qf7 K s m t rows) :=
 Hold.of (by kernel_rfl) h
theorem QBF (s:Qc) (m:Int) (t:List Int) (h :
 ((QI (α:=Qc) s)∧(zif ((!(Zc s))||(decide ((QR s.2.2.2.2.2.1 m)<(0:Int)))) (K (QaC ((id (α:=Qc) s).1,(id (α:=Qc) s).2.1,(id (α:=Qc) s).2.2.1,(id (α:=Qc) s).2.2.2.1,(id (α:=Qc) s).2.2.2.2.1,(List.take (((id (α:=Qc) s).2.2.2.2.2.1).length) (List.drop 0 ((id (α:=Qc) s).2.2.2.2.2.1))),(id (α:=Qc) s).2.2.2.2.2.2.1,(id (α:=Qc) s).2.2.2.2.2.2.2.1,(id (α:=Qc) s).2.2.2.2.2.2.2.2.1,(id (α:=Qc) s).2.2.2.2.2.2.2.2.2.1,(id (α:=Qc) s).2.2.2.2.2.2.2.2.2.2.1,(id (α:=Qc) s).2.2.2.2.2.2.2.2.2.2.2.1,(id (α:=Qc) s).2.2.2.2.2.2.2.2.2.2.2.2.1,(id (α:=Qc) s).2.2.2.2.2.2.2.2.2.2.2.2.2))) ((((0:Int)≤(QR s.2.2.2.2.2.1 m)∧Int.toNat (QR s.2.2.2.2.2.1 m)<((id (α:=Qc) s).2.2.2.2.2.1).length)∧((0+(Int.toNat (QR s.2.2.2.2.2.1 m)))<((id (α:=Qc) s).2.2.2.2.2.1).length))∧(zif s.2.2.2.2.1 (Qf7 K s m t ((id (α:=Qc) s).2.2.2.2.2.2.1)) (Qf7 K s m t ((gtd YC ((id (α:=Qc) s).2.2.2.2.2.1) (0+(Int.toNat (QR s.2.2.2.2.2.1 m)))).2))))))):Hold (tawp Qku (0+0) QFZ (TQ 0 0 Qt3 K) (Qf [(.a (Tup.cells Qx s)),(.c TI m),(.c (.sl [TI]) t)])) :=
 Hold.of (by kernel_rfl) h
theorem QRy (s:Qc) (m:Int) (t:List Int) (hp:QiE s m t):TCon Tryz.prog 48 [(.a (Tup.cells Qx s)),(.c TI m),(.c (.sl [TI]) t)] (QaC (Z3 s m t)):=by
 refine Qq rfl fun hb=>tcg (n:=112) (sg:=Qoj.sg) Qj (TOk.cons Qiz (TOk.cons QmC (TOk.cons Qhv (TOk.cons Qtn (TOk.cons Qzt (TOk.cons Qf6 (TOk.cons Qgb (TOk.cons Qao (TOk.cons QBH (TOk.cons QE3 TOk.nil)))))))))) (by kernel_rfl) (by kernel_rfl) (QBF _ s m t ?_)
 have hl_s_1:(s.2.1).length≤9223372036854775807:=hb.1.2.1.1
 have hl_s_2:(s.2.2.1).length≤9223372036854775807:=hb.1.2.2.1.1
 have hl_s_5:(s.2.2.2.2.2.1).length≤9223372036854775807:=hb.1.2.2.2.2.2.1.1
 have hl_s_6:(s.2.2.2.2.2.2.1).length≤9223372036854775807:=hb.1.2.2.2.2.2.2.1.1
 have hl_s_7:(s.2.2.2.2.2.2.2.1).length≤9223372036854775807:=hb.1.2.2.2.2.2.2.2.1.1
 have hl_s_8:(s.2.2.2.2.2.2.2.2.1).length≤9223372036854775807:=hb.1.2.2.2.2.2.2.2.2.1.1
 have hl_s_9:(s.2.2.2.2.2.2.2.2.2.1).length≤9223372036854775807:=hb.1.2.2.2.2.2.2.2.2.2.1.1
 have hl_s_10:(s.2.2.2.2.2.2.2.2.2.2.1).length≤9223372036854775807:=hb.1.2.2.2.2.2.2.2.2.2.2.1.1
 have hl_s_11:(s.2.2.2.2.2.2.2.2.2.2.2.1).length≤9223372036854775807:=hb.1.2.2.2.2.2.2.2.2.2.2.2.1.1
 have hl_t:t.length≤9223372036854775807:=hb.2.2.1.1
 have hp':Sz.sz s≤2147483648:=hp
 have hs:=Yl s
 have l1:=Qas (Qi s)
 obtain ⟨kf,hkf⟩:∃ kf,QR s.2.2.2.2.2.1 m=kf:=⟨_,rfl⟩
 have hf:=Qnk (Qi s) m
 rw [show QR (Qi s) m=kf from hkf] at hf
 have hno:QaK s kf t=false→(Z3 s m t)=s:=fun h=>QQM (by rw [show QR (Qi s) m=kf from hkf,h];simp)
 have k2:Zc s=true→0≤kf→∀ rows d first,rows=YL s kf→(d,first)=bwdD s kf t→((YL s kf).length==(sOps s).length+1)=true→YK (sOps s) (YL s kf) (sOps s).length=true→Qg1 (fun r'=>r'=QaC (Z3 s m t)) s m rows d first:=by
  intro h1 h2 rows d first hr hd h3 h4
  have hb:QaK s kf t=Qs d (Q1 (ZW s)):=by
   rw [QnT,← hd,h1,h3,h4,decide_eq_true h2];rfl
  obtain ⟨kn,hkn⟩:∃ kn:Nat,kf=kn:=⟨kf.toNat,by omega⟩
  refine (QPZ (fun r'=>r'=QaC (Z3 s m t)) s m rows d first ?_).h
  conv=>zeta
  simp only [id,List.drop_zero,List.take_length,true_or,true_and,Nat.zero_add]
  rw [hkf,hkn]
  have hml:=Yx (QcJ h1)
  refine ⟨fun h=>R_eq ?_,fun h=>?_⟩
  ·rw [hno (by rw [hb];simpa using h)]
  ·have hv:Qs d (Q1 (ZW s))=true:=by simpa using h
   have hok:QaK s kf t=true:=by rw [hb,hv]
   have hv6:=Qbn hv
   rw [beq_iff_eq] at h3
   have hfit:=QIc h1
   have hsum:Sz.sz (α:=QZ) s.2.2.2.2.2.2.2.2.2.2.2≤296:=QtE (QcJ h1) ⟨hfit.1,hfit.2⟩
   have hout:=QAi (t:=t) (rows:=rows) (d:=d) (b:=first) (by rw [show QR (Qi s) m=kf from hkf];exact hok) (by rw [show QR (Qi s) m=kf from hkf] ;exact hr) (by rw [show QR (Qi s) m=kf from hkf] ;exact hd)
   have hk:kn<s.2.2.2.2.2.1.length:=by ((try simp only [sPc,QG,sOps,Qu,QF,Qi,QK,sX,sY,sG,sD,QD,QC,sSat,QN,QE,Qz,QA] at *);omega)
   have hrl:rows.length=s.2.2.1.length+1:=by rw [hr];exact h3
   have hbg:=QwL s.2.2.1 rows d
   have hl2:(List.take (s.2.2.2.2.2.1.length-(kn+1)) (List.drop (kn+1) s.2.2.2.2.2.1)).length=s.2.2.2.2.2.1.length-(kn+1):=by simp
   rw [sc1 (by ((try simp only [sPc,QG,sOps,Qu,QF,Qi,QK,sX,sY,sG,sD,QD,QC,sSat,QN,QE,Qz,QA] at *);omega))]
   simp only [Int.toNat_natCast,show Int.toNat (0:Int)=0 from rfl,Nat.sub_zero]
   refine ⟨⟨by omega,by rw [Zi];((try simp only [sPc,QG,sOps,Qu,QF,Qi,QK,sX,sY,sG,sD,QD,QC,sSat,QN,QE,Qz,QA] at *);omega)⟩,?_,⟨⟨by omega,by omega,by omega⟩,⟨by omega,by omega,by omega⟩,?_⟩,R_eq ?_⟩
   ·unfold JR
    simp only [QcR,Yb,Qa3]
    ((try simp only [sPc,QG,sOps,Qu,QF,Qi,QK,sX,sY,sG,sD,QD,QC,sSat,QN,QE,Qz,QA] at *);omega)
   ·rw [hl2,Zi];((try simp only [sPc,QG,sOps,Qu,QF,Qi,QK,sX,sY,sG,sD,QD,QC,sSat,QN,QE,Qz,QA] at *);omega)
   ·rw [QCt hk,hout,show QR (Qi s) m=kf from hkf,hkn,Int.toNat_natCast]
 have k1:Zc s=true→0≤kf→∀ rows,rows=YL s kf→Qf7 (fun r'=>r'=QaC (Z3 s m t)) s m t rows:=by
  intro h1 h2 rows hr
  have hml:1≤s.2.2.1.length∧s.2.2.1.length≤8:=Yx (QcJ h1)
  refine (QAN (fun r'=>r'=QaC (Z3 s m t)) s m t rows ?_).h
  conv=>zeta
  simp only [id,List.drop_zero,List.take_length,true_or,true_and,Nat.zero_add,Int.toNat_natCast]
  rw [sc1 (k:=s.2.2.1.length) (by omega)]
  refine ⟨fun h=>?_,fun h=>R_eq ?_,fun h=>?_⟩
  ·simp at h
   exact ⟨by omega,by omega,by omega⟩
  ·rw [hno]
   rw [QnT,← hr]
   simp only [Bool.or_eq_true,bne_iff_ne,Bool.not_eq_true'] at h
   rcases h with h | h
   ·have:(rows.length==s.2.2.1.length+1)=false:=by rw [beq_eq_false_iff_ne];omega
    simp [this]
   ·have h':YK (sOps s) rows (sOps s).length=false:=h
    simp [h']
  ·simp only [Bool.or_eq_false_iff,bne_eq_false_iff_eq,Bool.not_eq_false'] at h
   have h3:((YL s kf).length==(sOps s).length+1)=true:=by rw [← hr,beq_iff_eq];have:=h.1;((try simp only [sPc,QG,sOps,Qu,QF,Qi,QK,sX,sY,sG,sD,QD,QC,sSat,QN,QE,Qz,QA] at *);omega)
   have h4:YK (sOps s) (YL s kf) (sOps s).length=true:=by rw [← hr];exact h.2
   refine ⟨fun hl=>⟨⟨by omega,by have:=h.1;omega⟩,k2 h1 h2 _ _ _ hr ?_ h3 h4⟩,fun hl=>k2 h1 h2 _ _ _ hr ?_ h3 h4⟩
   ·unfold bwdD;rw [if_pos hl,← hr]
   ·unfold bwdD;rw [if_neg (by rw [show Qu s=false from hl];simp)]
 simp only [id,List.drop_zero,List.take_length,true_or,true_and,Nat.zero_add,Int.toNat_natCast]
 rw [Qpn,show QR (Qi s) m=kf from hkf]
 refine ⟨hp,fun h=>R_eq ?_,fun h=>?_⟩
 ·rw [hno]
  simp only [Bool.not_eq_true'] at h
  rw [QnT,h];rfl
 ·simp only [Bool.not_eq_false',Bool.and_eq_true,decide_eq_true_eq] at h
  refine ⟨⟨⟨h.2,by ((try simp only [sPc,QG,sOps,Qu,QF,Qi,QK,sX,sY,sG,sD,QD,QC,sSat,QN,QE,Qz,QA] at *);omega)⟩,by ((try simp only [sPc,QG,sOps,Qu,QF,Qi,QK,sX,sY,sG,sD,QD,QC,sSat,QN,QE,Qz,QA] at *);omega)⟩,fun hr=>k1 h.1 h.2 _ ?_,fun hr=>k1 h.1 h.2 _ ?_⟩
  ·unfold YL;rw [if_pos hr]
  ·unfold YL;rw [if_neg (by rw [show QF s=false from hr];simp)]
theorem QIA:Qh Tryz.prog Qoj:=Qk fun x h=>QRy x.1 x.2.1 x.2.2.1 h
end
end Go.Proofs.YtjbdljkhbglnhaaGreat.Am

